/- For every input the laws FnExactSquaresByTakes and FnExactSquaresByMoves answer true: the program's functions tell what the reference's tell; no condition. (part 5 of the proof; the words of the kit's print tool and the texts of this seat, merged by a program) -/
import Derived.Below
import Derived.ChangeOld
import Derived.Deep.RegionLaw
import Derived.FnData
import Derived.Handed
import Derived.JoinedOf
import Derived.LaidHandle
import Derived.LaidLaws
import Derived.Lib.SmallJoins
import Derived.OpenShut
import Derived.ProofKit
import Derived.SevenTiedAt
import Derived.SizedLaws
import Derived.Sort.OwnSortedInts
import Derived.Test.YtgakmcoeccmkbaaDoorCards
import Derived.Test.YtgakmcoeccmkbaaDoorClosed
import Derived.Test.YtgakmcoeccmkbaaDoorPshelf
import Derived.Test.YtgakmcoeccmkbaaDoorRows
import Derived.Test.YtgakmcoeccmkbaaDoorTie
import Derived.WalkKit
import Derived.Test.YtgakmcoeccmkbaaDoorMBY4
namespace Go.Proofs.YtgakmcoeccmkbaaDoor.P
open Go.RowKit Go.Proofs.YtgakmcoeccmkbaaDoorW.PrintWords Go.Proofs.YtgakmcoeccmkbaaDoorW.PrintLast Go.Proofs.YtgakmcoeccmkbaaDoorW.PrintMore
attribute [local go_sem] max2_int min2_int max_two min_two max_three min_three max_four min_four   -- for this text's walks alone
set_option linter.unusedVariables false
set_option linter.unusedSimpArgs false

mutual
def spec_moBy.l0 : Nat → List (S76) → List Bool → List Int → Int → Int → Option (List Int × Bool)
  | 0, _, _, _, _, _ => none
  | k + 1, x8, x9, x32, x33, x34 => if x34 < x33 then (if 0 ≤ x34 then (if x34 < (x32.length : Int) then ((spec_sqCount.f k x8 (rd x32 x34)).bind fun t292 => (if 0 ≤ t292 then (if t292 < (x9.length : Int) then (spec_moBy.l0 k x8 (x9.set (t292 : Int).toNat true) x32 x33 (wrap64 (x34 + 1))) else (none)) else (none))) else (none)) else (none)) else (spec_moBy.l1 k ([] : List Int) x9 (x9.length : Int) 0)
def spec_moBy.l1 : Nat → List Int → List Bool → Int → Int → Option (List Int × Bool)
  | 0, _, _, _, _ => none
  | k + 1, x12, x44, x45, x46 => if x46 < x45 then (if 0 ≤ x46 then (if x46 < (x44.length : Int) then (if rdOf false x44 x46 = true then (if x12.length < 17592186044416 then (spec_moBy.l1 k (x12 ++ [x46]) x44 x45 (wrap64 (x46 + 1))) else (none)) else (spec_moBy.l1 k x12 x44 x45 (wrap64 (x46 + 1)))) else (none)) else (none)) else (some (x12, true))
end
def spec_moBy.f (k : Nat) (a0_0 : Int) (a0_1 : Int) (l0_2 : List Int) (l0_3 : List Int) (a1 : Int) (a2 : Bool) : Option (List Int × Bool) := (spec_moAsked.f k a0_0 a0_1 l0_2 l0_3 a1 a2).bind fun t281 => (if t281 = true then ((spec_sqAll.f k a0_0 a0_1).bind fun t282 => (if 0 ≤ (wrap64 ((t282.length : Int) + 1)) then (if (wrap64 ((t282.length : Int) + 1) : Int).toNat ≤ 281474976710656 then ((spec_moMade.f k a0_0 a0_1 l0_2 l0_3 a1 a2).bind fun t288 => (spec_moBy.l0 k t282 (List.replicate (wrap64 ((t282.length : Int) + 1) : Int).toNat false) t288 (t288.length : Int) 0)) else (none)) else (none))) else (some (([] : List Int), false)))
theorem spec_moBy.mono_l : ∀ k, (∀ y0 y1 y2 y3 y4, LeO (spec_moBy.l0 k y0 y1 y2 y3 y4) (spec_moBy.l0 (k + 1) y0 y1 y2 y3 y4)) ∧ (∀ y0 y1 y2 y3, LeO (spec_moBy.l1 k y0 y1 y2 y3) (spec_moBy.l1 (k + 1) y0 y1 y2 y3))
  | 0 => ⟨fun _ _ _ _ _ r h => by simp [spec_moBy.l0] at h, fun _ _ _ _ r h => by simp [spec_moBy.l1] at h⟩
  | k + 1 => by
    obtain ⟨ih0, ih1⟩ := spec_moBy.mono_l k
    refine ⟨?_, ?_⟩
    · intro y0 y1 y2 y3 y4
      unfold spec_moBy.l0
      repeat' first
      | (with_reducible exact ih0 _ _ _ _ _)
      | (with_reducible exact ih1 _ _ _ _)
      | (with_reducible exact spec_moAsked.mono _ _ _ _ _ _ _)
      | (with_reducible exact spec_moMade.mono _ _ _ _ _ _ _)
      | (with_reducible exact spec_sqAll.mono _ _ _)
      | (with_reducible exact spec_sqCount.mono _ _ _)
      | (with_reducible exact LeO.refl _)
      | (with_reducible exact LeO.none _)
      | (with_reducible refine LeO.ite ?_ ?_)
      | (with_reducible refine LeO.bind ?_ (fun _ => ?_))
      | exact ih0 _ _ _ _ _
      | exact ih1 _ _ _ _
      | exact spec_moAsked.mono _ _ _ _ _ _ _
      | exact spec_moMade.mono _ _ _ _ _ _ _
      | exact spec_sqAll.mono _ _ _
      | exact spec_sqCount.mono _ _ _
      | exact LeO.none _
      | refine LeO.ite ?_ ?_
      | refine LeO.bind ?_ (fun _ => ?_)
    · intro y0 y1 y2 y3
      unfold spec_moBy.l1
      repeat' first
      | (with_reducible exact ih0 _ _ _ _ _)
      | (with_reducible exact ih1 _ _ _ _)
      | (with_reducible exact spec_moAsked.mono _ _ _ _ _ _ _)
      | (with_reducible exact spec_moMade.mono _ _ _ _ _ _ _)
      | (with_reducible exact spec_sqAll.mono _ _ _)
      | (with_reducible exact spec_sqCount.mono _ _ _)
      | (with_reducible exact LeO.refl _)
      | (with_reducible exact LeO.none _)
      | (with_reducible refine LeO.ite ?_ ?_)
      | (with_reducible refine LeO.bind ?_ (fun _ => ?_))
      | exact ih0 _ _ _ _ _
      | exact ih1 _ _ _ _
      | exact spec_moAsked.mono _ _ _ _ _ _ _
      | exact spec_moMade.mono _ _ _ _ _ _ _
      | exact spec_sqAll.mono _ _ _
      | exact spec_sqCount.mono _ _ _
      | exact LeO.none _
      | refine LeO.ite ?_ ?_
      | refine LeO.bind ?_ (fun _ => ?_)
theorem spec_moBy.mono : ∀ a0 a1 a2 a3 a4 a5 k, LeO (spec_moBy.f k a0 a1 a2 a3 a4 a5) (spec_moBy.f (k + 1) a0 a1 a2 a3 a4 a5) := by
  intro a0 a1 a2 a3 a4 a5 k
  obtain ⟨ih0, ih1⟩ := spec_moBy.mono_l k
  unfold spec_moBy.f
  repeat' first
      | (with_reducible exact ih0 _ _ _ _ _)
      | (with_reducible exact ih1 _ _ _ _)
      | (with_reducible exact spec_moAsked.mono _ _ _ _ _ _ _)
      | (with_reducible exact spec_moMade.mono _ _ _ _ _ _ _)
      | (with_reducible exact spec_sqAll.mono _ _ _)
      | (with_reducible exact spec_sqCount.mono _ _ _)
      | (with_reducible exact LeO.refl _)
      | (with_reducible exact LeO.none _)
      | (with_reducible refine LeO.ite ?_ ?_)
      | (with_reducible refine LeO.bind ?_ (fun _ => ?_))
      | exact ih0 _ _ _ _ _
      | exact ih1 _ _ _ _
      | exact spec_moAsked.mono _ _ _ _ _ _ _
      | exact spec_moMade.mono _ _ _ _ _ _ _
      | exact spec_sqAll.mono _ _ _
      | exact spec_sqCount.mono _ _ _
      | exact LeO.none _
      | refine LeO.ite ?_ ?_
      | refine LeO.bind ?_ (fun _ => ?_)
set_option maxHeartbeats 8000000 in
set_option maxRecDepth 100000 in
theorem spec_moBy.calls (k : Nat) (a0_0 : Int) (a0_1 : Int) (A0_2 : Option Addr) (c0_2 : Nat) (l0_2 : List Int) (A0_3 : Option Addr) (c0_3 : Nat) (l0_3 : List Int) (a1 : Int) (a2 : Bool) (r1 : List Int) (r2 : Bool) (w : World) (hr0_2 : Kd.C (Kd.int .i64) w A0_2 l0_2.length l0_2) (hc0_2 : l0_2.length ≤ c0_2) (hr0_3 : Kd.C (Kd.int .i64) w A0_3 l0_3.length l0_3) (hc0_3 : l0_3.length ≤ c0_3) (h : spec_moBy.f k a0_0 a0_1 l0_2 l0_3 a1 a2 = some (r1, r2)) :
    Calls Tryd.prog 41 #[.agg #[.int .i64 a0_0, .int .i64 a0_1, .slice A0_2 l0_2.length c0_2, .slice A0_3 l0_3.length c0_3], .int .i64 a1, .bool a2] w fun e w' => ∃ v0_ : Value, e = .returned (.tuple #[v0_, .bool r2]) ∧ Kd.R (Kd.int .i64) 3 w' w.heap.size (fun _ => True) v0_ r1 ∧ Below w.heap.size w w' := by
  have hu28 := Tryd.underlying28
  have HR0_2 := Aside0.mk hr0_2
  have HC0_2 := Aside0.mk hc0_2
  clear hr0_2 hc0_2
  have HR0_3 := Aside0.mk hr0_3
  have HC0_3 := Aside0.mk hc0_3
  clear hr0_3 hc0_3
  have HB := Aside0.mk (Below.refl w.heap.size w)
  have H : ((spec_moAsked.f k a0_0 a0_1 l0_2 l0_3 a1 a2).bind fun t281 => (if t281 = true then ((spec_sqAll.f k a0_0 a0_1).bind fun t282 => (if 0 ≤ (wrap64 ((t282.length : Int) + 1)) then (if (wrap64 ((t282.length : Int) + 1) : Int).toNat ≤ 281474976710656 then ((spec_moMade.f k a0_0 a0_1 l0_2 l0_3 a1 a2).bind fun t288 => (spec_moBy.l0 k t282 (List.replicate (wrap64 ((t282.length : Int) + 1) : Int).toNat false) t288 (t288.length : Int) 0)) else (none)) else (none))) else (some (([] : List Int), false)))) = some (r1, r2) := h
  clear h
  replace H := Option.bind_eq_some_iff.mp H
  obtain ⟨t281, A40, H⟩ := H
  replace H : (if t281 = true then ((spec_sqAll.f k a0_0 a0_1).bind fun t282 => (if 0 ≤ (wrap64 ((t282.length : Int) + 1)) then (if (wrap64 ((t282.length : Int) + 1) : Int).toNat ≤ 281474976710656 then ((spec_moMade.f k a0_0 a0_1 l0_2 l0_3 a1 a2).bind fun t288 => (spec_moBy.l0 k t282 (List.replicate (wrap64 ((t282.length : Int) + 1) : Int).toNat false) t288 (t288.length : Int) 0)) else (none)) else (none))) else (some (([] : List Int), false))) = some (r1, r2) := H
  have A4 := Aside0.mk A40
  clear A40
  by_cases c5 : t281 = true
  · subst c5
    have H1 : ((spec_sqAll.f k a0_0 a0_1).bind fun t282 => (if 0 ≤ (wrap64 ((t282.length : Int) + 1)) then (if (wrap64 ((t282.length : Int) + 1) : Int).toNat ≤ 281474976710656 then ((spec_moMade.f k a0_0 a0_1 l0_2 l0_3 a1 a2).bind fun t288 => (spec_moBy.l0 k t282 (List.replicate (wrap64 ((t282.length : Int) + 1) : Int).toNat false) t288 (t288.length : Int) 0)) else (none)) else (none))) = some (r1, r2) := by rw [if_pos rfl] at H; exact H
    clear H
    have H := H1
    clear H1
    replace H := Option.bind_eq_some_iff.mp H
    obtain ⟨t282, A60, H⟩ := H
    replace H : (if 0 ≤ (wrap64 ((t282.length : Int) + 1)) then (if (wrap64 ((t282.length : Int) + 1) : Int).toNat ≤ 281474976710656 then ((spec_moMade.f k a0_0 a0_1 l0_2 l0_3 a1 a2).bind fun t288 => (spec_moBy.l0 k t282 (List.replicate (wrap64 ((t282.length : Int) + 1) : Int).toNat false) t288 (t288.length : Int) 0)) else (none)) else (none)) = some (r1, r2) := H
    have A6 := Aside0.mk A60
    clear A60
    obtain ⟨ji7, hji7⟩ : ∃ j_ : Int, (wrap64 ((t282.length : Int) + 1)) = j_ := ⟨_, rfl⟩
    replace H : (if 0 ≤ (ji7) then (if (ji7 : Int).toNat ≤ 281474976710656 then ((spec_moMade.f k a0_0 a0_1 l0_2 l0_3 a1 a2).bind fun t288 => (spec_moBy.l0 k t282 (List.replicate (ji7 : Int).toNat false) t288 (t288.length : Int) 0)) else (none)) else (none)) = some (r1, r2) := by first | (rw [hji7] at H; exact H) | (simp only [hji7] at H ⊢; exact H)
    (try rw [hji7] at A4)
    (try rw [hji7] at A6)
    have hji7w : (IntKind.i64.wrap ((t282.length : Int) + 1)) = ji7 := (i64_w _).trans hji7
    by_cases c8 : 0 ≤ (ji7)
    · rw [if_pos c8] at H
      have c8b0 := eq_true c8
      have c8b1 : decide (0 ≤ (ji7)) = true := decide_eq_true c8
      clear c8
      by_cases c9 : (ji7 : Int).toNat ≤ 281474976710656
      · rw [if_pos c9] at H
        have c9b0 := eq_true c9
        have c9b1 : decide ((ji7 : Int).toNat ≤ 281474976710656) = true := decide_eq_true c9
        clear c9
        obtain ⟨y285, hy285⟩ : ∃ y_ : List Bool, y_ = (List.replicate (ji7 : Int).toNat false) := ⟨_, rfl⟩
        replace H : ((spec_moMade.f k a0_0 a0_1 l0_2 l0_3 a1 a2).bind fun t288 => (spec_moBy.l0 k t282 y285 t288 (t288.length : Int) 0)) = some (r1, r2) := by first | (rw [hy285]; with_reducible exact H) | (have H2_ := (Option.bind_some _ _).symm.trans H; rw [hy285]; with_reducible exact H2_) | (have H2_ := (Option.bind_some _ _).symm.trans H; with_reducible exact H2_) | with_reducible exact H | (rw [hy285]; exact H) | exact H
        have Ny285 := Aside0.mk hy285
        clear hy285
        replace H := Option.bind_eq_some_iff.mp H
        obtain ⟨t288, A100, H⟩ := H
        replace H : (spec_moBy.l0 k t282 y285 t288 (t288.length : Int) 0) = some (r1, r2) := H
        have A10 := Aside0.mk A100
        clear A100
        have H' := Aside0.mk H
        clear H
        go_enter Tryd.func41, Tryd.ntmps41
        go_wp2_with (first | ((with_reducible refine gate_dst (N := 3) rfl ?_); refine box_event ?hg (N := 3) ?hd (cs := #[.int .i64 a0_0, .int .i64 a0_1, .slice A0_2 l0_2.length c0_2, .slice A0_3 l0_3.length c0_3]) (t := 28) ?hr ?_; (case hd => rfl); (case hg => rfl); (case hr => first | (go_simp; done) | (go_simp; rfl)); intro gb280 hg w11 hbox hb; have n0_ := Aside0.mk (below_step (by repeat (first | (with_reducible first | exact HB.out | apply below_alloc | apply pw_below_drewN | apply below_drew1) | exact HB.out)) hb); have n1_ := Aside0.mk (hbox); have n2_ := Aside0.mk ((by rw [hg]; exact (below_size (by repeat (first | (with_reducible first | exact HB.out | apply below_alloc | apply pw_below_drewN | apply below_drew1) | exact HB.out))) : w.heap.size ≤ gb280)); have n3_ := Aside0.mk ((by rw [hg]; exact (below_size (by repeat (first | (with_reducible first | exact HB.out | apply below_alloc | apply pw_below_drewN | apply below_drew1) | exact HB.out))) : w.heap.size ≤ gb280)); clear HB; have HB := n0_; have BK280 := n1_; have GW280 := n2_; have GE280 := n3_; clear n0_ n1_ n2_ n3_; clear hb hbox hg; have hcz12_0 : w11.cell? ⟨gb280, 0, none⟩ = some (.int .i64 a0_0) := (blk_cell BK280.out 0).trans rfl; have hcz12_1 : w11.cell? ⟨gb280, 1, none⟩ = some (.int .i64 a0_1) := (blk_cell BK280.out 1).trans rfl; have hcz12_2 : w11.cell? ⟨gb280, 2, none⟩ = some (.slice A0_2 l0_2.length c0_2) := (blk_cell BK280.out 2).trans rfl; have hcz12_3 : w11.cell? ⟨gb280, 3, none⟩ = some (.slice A0_3 l0_3.length c0_3) := (blk_cell BK280.out 3).trans rfl; have hfz12_0 := blk_frozen BK280.out 0; have hfz12_1 := blk_frozen BK280.out 1; have hfz12_2 := blk_frozen BK280.out 2; have hfz12_3 := blk_frozen BK280.out 3) | ((with_reducible refine gate_callee (f := 43) rfl ?_); refine goesL_ (some 18) rfl rfl Tryd.func43 (by kernel_rfl) rfl #[.agg #[.int .i64 a0_0, .int .i64 a0_1, .slice A0_2 l0_2.length c0_2, .slice A0_3 l0_3.length c0_3], .int .i64 a1, .bool a2] rfl (by (try simp only [List.map_toArray, List.map_cons, List.map_nil]); first | done | rfl | (simp only [List.length_drop, List.length_take]; rfl)) ?_; (with_reducible refine (spec_moAsked.calls k a0_0 a0_1 _ _ l0_2 _ _ l0_3 a1 a2 true _ ?side1 ?side2 ?side3 ?side4 A4.out).mono ?_); (case side1 => repeat (first | exact (Kd.C_below HR0_2.out HB.out) | (with_reducible refine Kd.C_alloc ?_ _) | (with_reducible refine Kd.C_drewN ?_ _) | (with_reducible refine Kd.C_drew ?_))); (case side2 => exact HC0_2.out); (case side3 => repeat (first | exact (Kd.C_below HR0_3.out HB.out) | (with_reducible refine Kd.C_alloc ?_ _) | (with_reducible refine Kd.C_drewN ?_ _) | (with_reducible refine Kd.C_drew ?_))); (case side4 => exact HC0_3.out); rintro e w13 ⟨rfl, hb⟩; refine ⟨_, rfl, ?_⟩; have n0_ := Aside0.mk (blk_below (g := gb280) (o := .cells #[.int .i64 a0_0, .int .i64 a0_1, .slice A0_2 l0_2.length c0_2, .slice A0_3 l0_3.length c0_3] 28 (0, 0)) (by (with_reducible repeat (first | refine blk_drewN ?_ _ | refine blk_drew ?_ | refine blk_alloc ?_ _)); exact BK280.out) hb); have n1_ := Aside0.mk (below_step (by repeat (first | (with_reducible first | exact HB.out | apply below_alloc | apply pw_below_drewN | apply below_drew1 | refine below_set ?_ GE280.out) | exact HB.out)) hb); clear BK280; clear HB; have BK280 := n0_; have HB := n1_; clear n0_ n1_; (try clear hb); (try clear hb2); (try clear hk); (try clear hi); have hcz14_0 : w13.cell? ⟨gb280, 0, none⟩ = some (.int .i64 a0_0) := (blk_cell BK280.out 0).trans rfl; have hcz14_1 : w13.cell? ⟨gb280, 1, none⟩ = some (.int .i64 a0_1) := (blk_cell BK280.out 1).trans rfl; have hcz14_2 : w13.cell? ⟨gb280, 2, none⟩ = some (.slice A0_2 l0_2.length c0_2) := (blk_cell BK280.out 2).trans rfl; have hcz14_3 : w13.cell? ⟨gb280, 3, none⟩ = some (.slice A0_3 l0_3.length c0_3) := (blk_cell BK280.out 3).trans rfl; have hfz14_0 := blk_frozen BK280.out 0; have hfz14_1 := blk_frozen BK280.out 1; have hfz14_2 := blk_frozen BK280.out 2; have hfz14_3 := blk_frozen BK280.out 3) | ((with_reducible refine gate_callee (f := 51) rfl ?_); refine goesL_ (some 24) rfl rfl Tryd.func51 (by kernel_rfl) rfl #[.int .i64 a0_0, .int .i64 a0_1] rfl (by (try simp only [List.map_toArray, List.map_cons, List.map_nil]); first | done | rfl | (simp only [List.length_drop, List.length_take]; rfl)) ?_; (with_reducible refine (spec_sqAll.calls k a0_0 a0_1 t282 _ A6.out).mono ?_); rintro e w15 ⟨v283, rfl, ho0, hb⟩; refine ⟨_, rfl, ?_⟩; have n0_ := Aside0.mk (Kd.R_lower ho0 (below_size (by repeat (first | (with_reducible first | exact HB.out | apply below_alloc | apply pw_below_drewN | apply below_drew1 | refine below_set ?_ GE280.out) | exact HB.out)))); have n1_ := Aside0.mk (blk_below (g := gb280) (o := .cells #[.int .i64 a0_0, .int .i64 a0_1, .slice A0_2 l0_2.length c0_2, .slice A0_3 l0_3.length c0_3] 28 (0, 0)) (by (with_reducible repeat (first | refine blk_drewN ?_ _ | refine blk_drew ?_ | refine blk_alloc ?_ _)); exact BK280.out) hb); have n2_ := Aside0.mk (below_step (by repeat (first | (with_reducible first | exact HB.out | apply below_alloc | apply pw_below_drewN | apply below_drew1 | refine below_set ?_ GE280.out) | exact HB.out)) hb); clear BK280; clear HB; have HO284 := n0_; have BK280 := n1_; have HB := n2_; clear n0_ n1_ n2_; (try clear hb); (try clear hb2); (try clear hk); (try clear hi); (try clear ho0); obtain ⟨Ao16, co16, eo16⟩ := Kd.R_slice HO284.out; subst eo16) | ((with_reducible refine gate_dst (N := 28) rfl ?_); refine Kd.R_make Kd.bool _ 4 rfl (N := 28) rfl 57 _ _ rfl ji7 rfl rfl Tryd.underlying57 (.bool false) 1 info4 rfl (by decide) (by omega) false (ok := fun _ => True) (okp := fun _ => True) rfl (fun _ hk => hk) trivial (of_decide_eq_true (by first | (with_reducible assumption) | assumption)) (Nat.le_trans (Nat.mul_le_mul_right _ (of_decide_eq_true (by first | (with_reducible assumption) | assumption) : ji7.toNat ≤ 281474976710656)) (by omega)) (Below.refl _ _) (Nat.le_refl _) ?_; intro v286 w17 ho18 hb hg_ hnew_; clear hg_ hnew_; (first | rw [← Ny285.out] at ho18 | (simp only [Int.reduceToNat] at ho18; rw [← Ny285.out] at ho18)); have n0_ := Aside0.mk (Kd.R_below (by (with_reducible repeat (first | apply Kd.R_alloc | apply Kd.R_drewN | apply Kd.R_drew)); exact HO284.out) hb); have n1_ := Aside0.mk (Kd.R_lower ho18 (below_size (by repeat (first | (with_reducible first | exact HB.out | apply below_alloc | apply pw_below_drewN | apply below_drew1 | refine below_set ?_ GE280.out) | exact HB.out)))); have n2_ := Aside0.mk (blk_below (g := gb280) (o := .cells #[.int .i64 a0_0, .int .i64 a0_1, .slice A0_2 l0_2.length c0_2, .slice A0_3 l0_3.length c0_3] 28 (0, 0)) (by (with_reducible repeat (first | refine blk_drewN ?_ _ | refine blk_drew ?_ | refine blk_alloc ?_ _)); exact BK280.out) hb); have n3_ := Aside0.mk (below_step (by repeat (first | (with_reducible first | exact HB.out | apply below_alloc | apply pw_below_drewN | apply below_drew1 | refine below_set ?_ GE280.out) | exact HB.out)) hb); clear HO284; clear BK280; clear HB; have HO284 := n0_; have HO287 := n1_; have BK280 := n2_; have HB := n3_; clear n0_ n1_ n2_ n3_; clear hb ho18; have hcz19_0 : w17.cell? ⟨gb280, 0, none⟩ = some (.int .i64 a0_0) := (blk_cell BK280.out 0).trans rfl; have hcz19_1 : w17.cell? ⟨gb280, 1, none⟩ = some (.int .i64 a0_1) := (blk_cell BK280.out 1).trans rfl; have hcz19_2 : w17.cell? ⟨gb280, 2, none⟩ = some (.slice A0_2 l0_2.length c0_2) := (blk_cell BK280.out 2).trans rfl; have hcz19_3 : w17.cell? ⟨gb280, 3, none⟩ = some (.slice A0_3 l0_3.length c0_3) := (blk_cell BK280.out 3).trans rfl; have hfz19_0 := blk_frozen BK280.out 0; have hfz19_1 := blk_frozen BK280.out 1; have hfz19_2 := blk_frozen BK280.out 2; have hfz19_3 := blk_frozen BK280.out 3) | ((with_reducible refine gate_callee (f := 52) rfl ?_); refine goesL_ (some 32) rfl rfl Tryd.func52 (by kernel_rfl) rfl #[.agg #[.int .i64 a0_0, .int .i64 a0_1, .slice A0_2 l0_2.length c0_2, .slice A0_3 l0_3.length c0_3], .int .i64 a1, .bool a2] rfl (by (try simp only [List.map_toArray, List.map_cons, List.map_nil]); first | done | rfl | (simp only [List.length_drop, List.length_take]; rfl)) ?_; (with_reducible refine (spec_moMade.calls k a0_0 a0_1 _ _ l0_2 _ _ l0_3 a1 a2 t288 _ ?side1 ?side2 ?side3 ?side4 A10.out).mono ?_); (case side1 => repeat (first | exact (Kd.C_below HR0_2.out HB.out) | (with_reducible refine Kd.C_alloc ?_ _) | (with_reducible refine Kd.C_drewN ?_ _) | (with_reducible refine Kd.C_drew ?_))); (case side2 => exact HC0_2.out); (case side3 => repeat (first | exact (Kd.C_below HR0_3.out HB.out) | (with_reducible refine Kd.C_alloc ?_ _) | (with_reducible refine Kd.C_drewN ?_ _) | (with_reducible refine Kd.C_drew ?_))); (case side4 => exact HC0_3.out); rintro e w20 ⟨v289, rfl, ho0, hb⟩; refine ⟨_, rfl, ?_⟩; have n0_ := Aside0.mk (Kd.R_below (by (with_reducible repeat (first | apply Kd.R_alloc | apply Kd.R_drewN | apply Kd.R_drew)); exact HO284.out) hb); have n1_ := Aside0.mk (Kd.R_below (by (with_reducible repeat (first | apply Kd.R_alloc | apply Kd.R_drewN | apply Kd.R_drew)); exact HO287.out) hb); have n2_ := Aside0.mk (Kd.R_lower ho0 (below_size (by repeat (first | (with_reducible first | exact HB.out | apply below_alloc | apply pw_below_drewN | apply below_drew1 | refine below_set ?_ GE280.out) | exact HB.out)))); have n3_ := Aside0.mk (blk_below (g := gb280) (o := .cells #[.int .i64 a0_0, .int .i64 a0_1, .slice A0_2 l0_2.length c0_2, .slice A0_3 l0_3.length c0_3] 28 (0, 0)) (by (with_reducible repeat (first | refine blk_drewN ?_ _ | refine blk_drew ?_ | refine blk_alloc ?_ _)); exact BK280.out) hb); have n4_ := Aside0.mk (below_step (by repeat (first | (with_reducible first | exact HB.out | apply below_alloc | apply pw_below_drewN | apply below_drew1 | refine below_set ?_ GE280.out) | exact HB.out)) hb); clear HO284; clear HO287; clear BK280; clear HB; have HO284 := n0_; have HO287 := n1_; have HO290 := n2_; have BK280 := n3_; have HB := n4_; clear n0_ n1_ n2_ n3_ n4_; (try clear hb); (try clear hb2); (try clear hk); (try clear hi); (try clear ho0); obtain ⟨Ao21, co21, eo21⟩ := Kd.R_slice HO290.out; subst eo21))
        go_loopg [34] k (fun kq v34 w' => ∃ (x9_1 : List Bool) (x34_1 : Int), v34 = .int .i64 x34_1 ∧ Aside0 (spec_moBy.l0 kq t282 x9_1 t288 (t288.length : Int) x34_1 = some (r1, r2)) ∧ Aside0 (kq ≤ k) ∧ Aside0 (Kd.R k76 76 w' w.heap.size (fun _ => True) (.slice Ao16 t282.length co16) t282) ∧ Aside0 (Kd.R Kd.bool 4 w' w.heap.size (fun _ => True) v286 x9_1) ∧ Aside0 (Kd.R (Kd.int .i64) 3 w' w.heap.size (fun _ => True) (.slice Ao21 t288.length co21) t288) ∧ Aside0 (w'.heap[gb280]? = some (.cells #[.int .i64 a0_0, .int .i64 a0_1, (.slice A0_2 l0_2.length c0_2), (.slice A0_3 l0_3.length c0_3)] 28 (0, 0))) ∧ Aside0 (Below w.heap.size w w'))
        case atStart => exact ⟨(y285), (0), (by first | rfl | (simp; done) | (simp [*]; done)), H', ⟨Nat.le_refl _⟩, ⟨by (with_reducible repeat (first | apply Kd.R_alloc | apply Kd.R_drewN | apply Kd.R_drew)); exact HO284.out⟩, ⟨by (with_reducible repeat (first | apply Kd.R_alloc | apply Kd.R_drewN | apply Kd.R_drew)); exact HO287.out⟩, ⟨by (with_reducible repeat (first | apply Kd.R_alloc | apply Kd.R_drewN | apply Kd.R_drew)); exact HO290.out⟩, ⟨by (with_reducible repeat (first | refine blk_drewN ?_ _ | refine blk_drew ?_ | refine blk_alloc ?_ _)); exact BK280.out⟩, ⟨by repeat (first | (with_reducible first | exact HB.out | apply below_alloc | apply pw_below_drewN | apply below_drew1 | refine below_set ?_ GE280.out) | exact HB.out)⟩⟩
        case round =>
          clear H'
          try clear p2
          try clear c4
          try clear c5
          try clear p6
          try clear c8
          try clear c8b0
          try clear c8b1
          try clear c9
          try clear c9b0
          try clear c9b1
          try clear hcz12_0
          try clear hcz12_1
          try clear hcz12_2
          try clear hcz12_3
          try clear hcz14_0
          try clear hcz14_1
          try clear hcz14_2
          try clear hcz14_3
          try clear hcz19_0
          try clear hcz19_1
          try clear hcz19_2
          try clear hcz19_3
          try clear hfz12_0
          try clear hfz12_1
          try clear hfz12_2
          try clear hfz12_3
          try clear hfz14_0
          try clear hfz14_1
          try clear hfz14_2
          try clear hfz14_3
          try clear hfz19_0
          try clear hfz19_1
          try clear hfz19_2
          try clear hfz19_3
          obtain ⟨x9_1, x34_1, rfl, HA, HK1, HO_8, HO_9, HO_32, BK280, HB⟩ := hrel
          cases gk with
          | zero => exact absurd HA.out (by simp [spec_moBy.l0])
          | succ k1 =>
            have H := HA.out
            clear HA
            simp only [spec_moBy.l0] at H
            by_cases c22 : x34_1 < (t288.length : Int)
            · rw [if_pos c22] at H
              have c22b0 : decide (x34_1 < (t288.length : Int)) = true := decide_eq_true c22
              clear c22
              by_cases c23 : 0 ≤ x34_1
              · rw [if_pos c23] at H
                have c23b0 : decide (0 ≤ x34_1) = true := decide_eq_true c23
                clear c23
                by_cases c24 : x34_1 < (t288.length : Int)
                · rw [if_pos c24] at H
                  have c24b0 : decide (x34_1 < (t288.length : Int)) = true := decide_eq_true c24
                  clear c24
                  replace H := Option.bind_eq_some_iff.mp H
                  obtain ⟨t292, A250, H⟩ := H
                  replace H : (if 0 ≤ t292 then (if t292 < (x9_1.length : Int) then (spec_moBy.l0 k1 t282 (x9_1.set (t292 : Int).toNat true) t288 (t288.length : Int) (wrap64 (x34_1 + 1))) else (none)) else (none)) = some (r1, r2) := H
                  have A25 := Aside0.mk A250
                  clear A250
                  by_cases c26 : 0 ≤ t292
                  · rw [if_pos c26] at H
                    have c26b0 : decide (0 ≤ t292) = true := decide_eq_true c26
                    clear c26
                    by_cases c27 : t292 < (x9_1.length : Int)
                    · rw [if_pos c27] at H
                      have c27b0 : decide (t292 < (x9_1.length : Int)) = true := decide_eq_true c27
                      clear c27
                      obtain ⟨y293, hy293⟩ : ∃ y_ : List Bool, y_ = (x9_1.set (t292 : Int).toNat true) := ⟨_, rfl⟩
                      replace H : (spec_moBy.l0 k1 t282 y293 t288 (t288.length : Int) (wrap64 (x34_1 + 1))) = some (r1, r2) := by first | (rw [hy293]; with_reducible exact H) | (have H2_ := (Option.bind_some _ _).symm.trans H; rw [hy293]; with_reducible exact H2_) | (have H2_ := (Option.bind_some _ _).symm.trans H; with_reducible exact H2_) | with_reducible exact H | (rw [hy293]; exact H) | exact H
                      have Ny293 := Aside0.mk hy293
                      clear hy293
                      have H' := Aside0.mk H
                      clear H
                      have p291 : 0 ≤ (x34_1 : Int) := of_decide_eq_true (by first | (with_reducible assumption) | assumption)
                      have q291 : x34_1 < (t288.length : Int) := of_decide_eq_true (by first | (with_reducible assumption) | assumption)
                      obtain ⟨ad291, e291, hx291_0⟩ := Kd.at_int (Kd.R_reads' HO_32.out).2.2 x34_1 p291 q291
                      cases e291
                      replace p291 := eq_true p291
                      replace q291 := eq_true q291
                      go_wp2_with (first | ((with_reducible refine gate_callee (f := 53) rfl ?_); refine goesL_ (some 41) rfl rfl Tryd.func53 (by kernel_rfl) rfl #[.slice Ao16 t282.length co16, .int .i64 (rd t288 x34_1)] rfl (by (try simp only [List.map_toArray, List.map_cons, List.map_nil]); first | done | rfl | (simp only [List.length_drop, List.length_take]; rfl)) ?_; (with_reducible refine (spec_sqCount.calls k1 _ _ t282 (rd t288 x34_1) t292 _ ?side1 ?side2 A25.out).mono ?_); (case side1 => repeat (first | exact (Kd.R_reads' HO_8.out).2.2 | (with_reducible refine Kd.C_alloc ?_ _) | (with_reducible refine Kd.C_drewN ?_ _) | (with_reducible refine Kd.C_drew ?_))); (case side2 => exact (Kd.R_reads' HO_8.out).2.1); rintro e w29 ⟨rfl, hb⟩; refine ⟨_, rfl, ?_⟩; have n0_ := Aside0.mk (Kd.R_below (by (with_reducible repeat (first | apply Kd.R_alloc | apply Kd.R_drewN | apply Kd.R_drew)); exact HO_8.out) hb); have n1_ := Aside0.mk (Kd.R_below (by (with_reducible repeat (first | apply Kd.R_alloc | apply Kd.R_drewN | apply Kd.R_drew)); exact HO_9.out) hb); have n2_ := Aside0.mk (Kd.R_below (by (with_reducible repeat (first | apply Kd.R_alloc | apply Kd.R_drewN | apply Kd.R_drew)); exact HO_32.out) hb); have n3_ := Aside0.mk (blk_below (g := gb280) (o := .cells #[.int .i64 a0_0, .int .i64 a0_1, .slice A0_2 l0_2.length c0_2, .slice A0_3 l0_3.length c0_3] 28 (0, 0)) (by (with_reducible repeat (first | refine blk_drewN ?_ _ | refine blk_drew ?_ | refine blk_alloc ?_ _)); exact BK280.out) hb); have n4_ := Aside0.mk (below_step (by repeat (first | (with_reducible first | exact HB.out | apply below_alloc | apply pw_below_drewN | apply below_drew1 | refine below_set ?_ GE280.out) | exact HB.out)) hb); clear HO_8; clear HO_9; clear HO_32; clear BK280; clear HB; have HO_8 := n0_; have HO_9 := n1_; have HO_32 := n2_; have BK280 := n3_; have HB := n4_; clear n0_ n1_ n2_ n3_ n4_; (try clear hb); (try clear hb2); (try clear hk); (try clear hi); have p28 : 0 ≤ (t292 : Int) := of_decide_eq_true (by first | (with_reducible assumption) | assumption); have q28 : (t292 : Int) < ((x9_1.length : Int) : Int) := of_decide_eq_true (by first | (with_reducible assumption) | assumption); obtain ⟨go28, co28, eo28, gb28, gl28, cl28, HG28⟩ := Kd.R_form HO_9.out (by omega); (first | cases eo28 | (injection eo28 with ea_ en_ ec_; (first | subst ea_ | (injection ea_ with ea_; subst ea_)); subst ec_; clear en_)); have GB28 := Aside0.mk gb28; have GG28 := Aside0.mk HG28; clear gb28 gl28 HG28; obtain ⟨hx28_0, hf28_0⟩ := Kd.R_celln false HO_9.out (t292 : Int) p28 q28; replace p28 := eq_true p28; replace q28 := eq_true q28; obtain ⟨hy30_, hz30_⟩ := Kd.R_celln false HO_9.out (t292 : Int) (of_decide_eq_true (by first | (with_reducible assumption) | assumption)) (of_decide_eq_true (by first | (with_reducible assumption) | assumption)); have HP30 := Kd.R_putg HO_9.out (t292 : Int) true) | ((with_reducible refine gate_store (t := 4) (p := 42) rfl ?_); refine store_event (t := 4) (p := 42) (v := ?vo_w31) (w1 := (w29.setCell ⟨go28, (t292 : Int).toNat, none⟩ (.bool true))) ?hg ?ho ?hn ?hr ?_; (case ho => rfl); (case hg => rfl); (case hn => rfl); (case hr => first | (go_simp; done) | (go_simp; rfl)); intro w31 hw; have hg : w29.grownBy w31 (some go28) := (by rw [hw]; exact HP30.2); have hp_ : Kd.R Kd.bool 4 w31 w.heap.size (fun _ => True) (.slice (some ⟨go28, 0, none⟩) x9_1.length co28) y293 := (by rw [hw, Ny293.out]; exact HP30.1); clear HP30; have n0_ := Aside0.mk (Kd.R_over' (v := (.slice (some ⟨go28, 0, none⟩) x9_1.length co28)) (by (with_reducible repeat (first | apply Kd.R_alloc | apply Kd.R_drewN | apply Kd.R_drew)); exact HO_8.out) (Kd.R_typed HO_9.out) (by decide) hg); have n1_ := Aside0.mk (hp_); have n2_ := Aside0.mk (Kd.R_over' (v := (.slice (some ⟨go28, 0, none⟩) x9_1.length co28)) (by (with_reducible repeat (first | apply Kd.R_alloc | apply Kd.R_drewN | apply Kd.R_drew)); exact HO_32.out) (Kd.R_typed HO_9.out) (by decide) hg); have n3_ := Aside0.mk (blk_grown (g := gb280) (o := .cells #[.int .i64 a0_0, .int .i64 a0_1, .slice A0_2 l0_2.length c0_2, .slice A0_3 l0_3.length c0_3] 28 (0, 0)) (by (with_reducible repeat (first | refine blk_drewN ?_ _ | refine blk_drew ?_ | refine blk_alloc ?_ _)); exact BK280.out) hg (Kd.R_ne HO_9.out BK280.out (by decide))); have n4_ := Aside0.mk ((by rw [hw]; exact below_set (HB.out) GB28.out : Below w.heap.size w w31)); clear HO_8; clear HO_9; clear HO_32; clear BK280; clear HB; have HO_8 := n0_; have HO_9 := n1_; have HO_32 := n2_; have BK280 := n3_; have HB := n4_; clear n0_ n1_ n2_ n3_ n4_; clear hg hw hp_))
                      go_roundg k1
                      case measure => have := HK1.out; omega
                      case rel => exact ⟨(y293), (wrap64 (x34_1 + 1)), (by first | rfl | (simp; done) | (simp [*]; done)), H', ⟨by have := HK1.out; omega⟩, ⟨by (with_reducible repeat (first | apply Kd.R_alloc | apply Kd.R_drewN | apply Kd.R_drew)); exact HO_8.out⟩, ⟨by (with_reducible repeat (first | apply Kd.R_alloc | apply Kd.R_drewN | apply Kd.R_drew)); exact HO_9.out⟩, ⟨by (with_reducible repeat (first | apply Kd.R_alloc | apply Kd.R_drewN | apply Kd.R_drew)); exact HO_32.out⟩, ⟨by (with_reducible repeat (first | refine blk_drewN ?_ _ | refine blk_drew ?_ | refine blk_alloc ?_ _)); exact BK280.out⟩, ⟨by repeat (first | (with_reducible first | exact HB.out | apply below_alloc | apply pw_below_drewN | apply below_drew1 | refine below_set ?_ GE280.out) | exact HB.out)⟩⟩
                    · rw [if_neg c27] at H
                      exact absurd H (by simp)
                  · rw [if_neg c26] at H
                    exact absurd H (by simp)
                · rw [if_neg c24] at H
                  exact absurd H (by simp)
              · rw [if_neg c23] at H
                exact absurd H (by simp)
            · rw [if_neg c22] at H
              have c22b0 : decide (x34_1 < (t288.length : Int)) = false := decide_eq_false c22
              clear c22
              have H' := Aside0.mk H
              clear H
              obtain ⟨Ao32, co32, eo32⟩ := Kd.R_slice HO_9.out
              subst eo32
              go_wp2
              go_loopg [12, 46] k1 (fun kq v12 v46 w' => ∃ (x12_2 : List Int) (x46_2 : Int), v46 = .int .i64 x46_2 ∧ Aside0 (spec_moBy.l1 kq x12_2 x9_1 (x9_1.length : Int) x46_2 = some (r1, r2)) ∧ Aside0 (kq ≤ k1) ∧ Aside0 (Kd.R (Kd.int .i64) 3 w' w.heap.size (fun _ => True) v12 x12_2) ∧ Aside0 (Kd.R Kd.bool 4 w' w.heap.size (fun _ => True) (.slice Ao32 x9_1.length co32) x9_1) ∧ Aside0 (w'.heap[gb280]? = some (.cells #[.int .i64 a0_0, .int .i64 a0_1, (.slice A0_2 l0_2.length c0_2), (.slice A0_3 l0_3.length c0_3)] 28 (0, 0))) ∧ Aside0 (Below w.heap.size w w'))
              case atStart => exact ⟨(([] : List Int)), (0), (by first | rfl | (simp; done) | (simp [*]; done)), H', ⟨Nat.le_refl _⟩, ⟨by first | exact Kd.R_nil _ _ _ _ _ | exact Kd.N_nil _ _ _ _ _ | exact Kd.V_nil _ _ _ _ _ | exact Kd.Q_nil _ _ _ _ _ | exact Kd.S_nil _ _ _ _ _⟩, ⟨by (with_reducible repeat (first | apply Kd.R_alloc | apply Kd.R_drewN | apply Kd.R_drew)); exact HO_9.out⟩, ⟨by (with_reducible repeat (first | refine blk_drewN ?_ _ | refine blk_drew ?_ | refine blk_alloc ?_ _)); exact BK280.out⟩, ⟨by repeat (first | (with_reducible first | exact HB.out | apply below_alloc | apply pw_below_drewN | apply below_drew1 | refine below_set ?_ GE280.out) | exact HB.out)⟩⟩
              case round =>
                clear H'
                try clear c2
                try clear p2
                try clear q2
                try clear hx2
                try clear c4
                try clear c5
                try clear p6
                try clear c8
                try clear c8b0
                try clear c8b1
                try clear c9
                try clear c9b0
                try clear c9b1
                try clear c22
                try clear c22b0
                try clear c23
                try clear c23b0
                try clear c24
                try clear c24b0
                try clear c26
                try clear c26b0
                try clear c27
                try clear c27b0
                try clear p28
                try clear q28
                try clear hx28
                try clear hf28
                try clear p29
                try clear q29
                try clear hx29
                try clear hcz12_0
                try clear hcz12_1
                try clear hcz12_2
                try clear hcz12_3
                try clear hcz14_0
                try clear hcz14_1
                try clear hcz14_2
                try clear hcz14_3
                try clear hcz19_0
                try clear hcz19_1
                try clear hcz19_2
                try clear hcz19_3
                try clear hfz12_0
                try clear hfz12_1
                try clear hfz12_2
                try clear hfz12_3
                try clear hfz14_0
                try clear hfz14_1
                try clear hfz14_2
                try clear hfz14_3
                try clear hfz19_0
                try clear hfz19_1
                try clear hfz19_2
                try clear hfz19_3
                try clear hx28_0
                try clear hx291_0
                try clear p2
                try clear p28
                try clear p291
                try clear p6
                try clear q28
                try clear q291
                obtain ⟨x12_2, x46_2, rfl, HA, HK2, HO_12, HO_44, BK280, HB⟩ := hrel
                cases gk with
                | zero => exact absurd HA.out (by simp [spec_moBy.l1])
                | succ k2 =>
                  have H := HA.out
                  clear HA
                  simp only [spec_moBy.l1] at H
                  by_cases c33 : x46_2 < (x9_1.length : Int)
                  · rw [if_pos c33] at H
                    have c33b0 : decide (x46_2 < (x9_1.length : Int)) = true := decide_eq_true c33
                    clear c33
                    by_cases c34 : 0 ≤ x46_2
                    · rw [if_pos c34] at H
                      have c34b0 : decide (0 ≤ x46_2) = true := decide_eq_true c34
                      clear c34
                      by_cases c35 : x46_2 < (x9_1.length : Int)
                      · rw [if_pos c35] at H
                        have c35b0 : decide (x46_2 < (x9_1.length : Int)) = true := decide_eq_true c35
                        clear c35
                        obtain ⟨bq36, hbq36⟩ : ∃ b_ : Bool, b_ = (rdOf false x9_1 x46_2) := ⟨_, rfl⟩
                        replace H : (if bq36 = true then (if x12_2.length < 17592186044416 then (spec_moBy.l1 k2 (x12_2 ++ [x46_2]) x9_1 (x9_1.length : Int) (wrap64 (x46_2 + 1))) else (none)) else (spec_moBy.l1 k2 x12_2 x9_1 (x9_1.length : Int) (wrap64 (x46_2 + 1)))) = some (r1, r2) := by rw [← hbq36] at H; exact H
                        have Nbq36 := Aside0.mk hbq36
                        clear hbq36
                        by_cases c37 : bq36 = true
                        · subst c37
                          have H1 : (if x12_2.length < 17592186044416 then (spec_moBy.l1 k2 (x12_2 ++ [x46_2]) x9_1 (x9_1.length : Int) (wrap64 (x46_2 + 1))) else (none)) = some (r1, r2) := by rw [if_pos rfl] at H; exact H
                          clear H
                          have H := H1
                          clear H1
                          by_cases c38 : x12_2.length < 17592186044416
                          · rw [if_pos c38] at H
                            have LMc38 := Aside0.mk c38
                            clear c38
                            obtain ⟨y295, hy295⟩ : ∃ y_ : List Int, y_ = (x12_2 ++ [x46_2]) := ⟨_, rfl⟩
                            replace H : (spec_moBy.l1 k2 y295 x9_1 (x9_1.length : Int) (wrap64 (x46_2 + 1))) = some (r1, r2) := by first | (rw [hy295]; with_reducible exact H) | (have H2_ := (Option.bind_some _ _).symm.trans H; rw [hy295]; with_reducible exact H2_) | (have H2_ := (Option.bind_some _ _).symm.trans H; with_reducible exact H2_) | with_reducible exact H | (rw [hy295]; exact H) | exact H
                            have Ny295 := Aside0.mk hy295
                            clear hy295
                            have H' := Aside0.mk H
                            clear H
                            have p294 : 0 ≤ (x46_2 : Int) := of_decide_eq_true (by first | (with_reducible assumption) | assumption)
                            have q294 : x46_2 < (x9_1.length : Int) := of_decide_eq_true (by first | (with_reducible assumption) | assumption)
                            obtain ⟨ad294, e294, hx294_0⟩ := Kd.at_bool (Kd.R_reads' HO_44.out).2.2 x46_2 p294 q294
                            (try rw [← Nbq36.out] at hx294_0)
                            cases e294
                            replace p294 := eq_true p294
                            replace q294 := eq_true q294
                            go_wp2_with (first | ((with_reducible refine gate_builtin (b := .append) (xs := #[.tmp 52, .tmp 54]) rfl ?_); at_builtin; refine Kd.R_append (Kd.int .i64) (w0 := w) w.heap.size rfl (.tmp 52) (.tmp 54) 22 3 (.int .i64 0) 8 rfl Tryd.underlying22 info3 rfl (by decide) (by omega) u12 x12_2 x46_2 [.int .i64 x46_2] (fun _ => True) (fun _ => False) rfl rfl ?aP (fun _ hk => hk.elim) ?aF ?aO ?aB ?aS ?aL ?_; (case aP => exact rfl); (case aB => exact (by repeat (first | (with_reducible first | exact HB.out | apply below_alloc | apply pw_below_drewN | apply below_drew1 | refine below_set ?_ GE280.out) | exact HB.out))); (case aF => exact (fun _ _ => trivial)); (case aO => exact (by (with_reducible repeat (first | apply Kd.R_alloc | apply Kd.R_drewN | apply Kd.R_drew)); exact HO_12.out)); (case aS => exact (below_size (by repeat (first | (with_reducible first | exact HB.out | apply below_alloc | apply pw_below_drewN | apply below_drew1 | refine below_set ?_ GE280.out) | exact HB.out)))); (case aL => have := LMc38.out; omega); intro v296 w39 ho hb hg hat; rw [← Ny295.out] at ho; have n0_ := Aside0.mk (Kd.R_over' (by (with_reducible repeat (first | apply Kd.R_alloc | apply Kd.R_drewN | apply Kd.R_drew)); exact HO_44.out) (Kd.R_typed (by (with_reducible repeat (first | apply Kd.R_alloc | apply Kd.R_drewN | apply Kd.R_drew)); exact HO_12.out)) (by decide) hg); have n1_ := Aside0.mk (blk_grown (g := gb280) (o := .cells #[.int .i64 a0_0, .int .i64 a0_1, .slice A0_2 l0_2.length c0_2, .slice A0_3 l0_3.length c0_3] 28 (0, 0)) (by (with_reducible repeat (first | refine blk_drewN ?_ _ | refine blk_drew ?_ | refine blk_alloc ?_ _)); exact BK280.out) hg (Kd.R_ne HO_12.out BK280.out (by decide))); have n2_ := Aside0.mk (hb); have n3_ := Aside0.mk (ho); clear HO_44; clear BK280; clear HB; clear HO_12; have HO_44 := n0_; have BK280 := n1_; have HB := n2_; have HO297 := n3_; clear n0_ n1_ n2_ n3_; clear ho hb hg hat))
                            go_roundg k2
                            case measure => have := HK1.out; have := HK2.out; omega
                            case rel => exact ⟨(y295), (wrap64 (x46_2 + 1)), (by first | rfl | (simp; done) | (simp [*]; done)), H', ⟨by have := HK1.out; have := HK2.out; omega⟩, ⟨by (with_reducible repeat (first | apply Kd.R_alloc | apply Kd.R_drewN | apply Kd.R_drew)); exact HO297.out⟩, ⟨by (with_reducible repeat (first | apply Kd.R_alloc | apply Kd.R_drewN | apply Kd.R_drew)); exact HO_44.out⟩, ⟨by (with_reducible repeat (first | refine blk_drewN ?_ _ | refine blk_drew ?_ | refine blk_alloc ?_ _)); exact BK280.out⟩, ⟨by repeat (first | (with_reducible first | exact HB.out | apply below_alloc | apply pw_below_drewN | apply below_drew1 | refine below_set ?_ GE280.out) | exact HB.out)⟩⟩
                          · rw [if_neg c38] at H
                            exact absurd H (by simp)
                        · replace c37 := Bool.eq_false_iff.mpr c37
                          subst c37
                          have H1 : (spec_moBy.l1 k2 x12_2 x9_1 (x9_1.length : Int) (wrap64 (x46_2 + 1))) = some (r1, r2) := by rw [if_neg (show ¬ (false = true) by decide)] at H; exact H
                          clear H
                          have H := H1
                          clear H1
                          have H' := Aside0.mk H
                          clear H
                          have p294 : 0 ≤ (x46_2 : Int) := of_decide_eq_true (by first | (with_reducible assumption) | assumption)
                          have q294 : x46_2 < (x9_1.length : Int) := of_decide_eq_true (by first | (with_reducible assumption) | assumption)
                          obtain ⟨ad294, e294, hx294_0⟩ := Kd.at_bool (Kd.R_reads' HO_44.out).2.2 x46_2 p294 q294
                          (try rw [← Nbq36.out] at hx294_0)
                          cases e294
                          replace p294 := eq_true p294
                          replace q294 := eq_true q294
                          go_wp2
                          go_roundg k2
                          case measure => have := HK1.out; have := HK2.out; omega
                          case rel => exact ⟨(x12_2), (wrap64 (x46_2 + 1)), (by first | rfl | (simp; done) | (simp [*]; done)), H', ⟨by have := HK1.out; have := HK2.out; omega⟩, ⟨by (with_reducible repeat (first | apply Kd.R_alloc | apply Kd.R_drewN | apply Kd.R_drew)); exact HO_12.out⟩, ⟨by (with_reducible repeat (first | apply Kd.R_alloc | apply Kd.R_drewN | apply Kd.R_drew)); exact HO_44.out⟩, ⟨by (with_reducible repeat (first | refine blk_drewN ?_ _ | refine blk_drew ?_ | refine blk_alloc ?_ _)); exact BK280.out⟩, ⟨by repeat (first | (with_reducible first | exact HB.out | apply below_alloc | apply pw_below_drewN | apply below_drew1 | refine below_set ?_ GE280.out) | exact HB.out)⟩⟩
                      · rw [if_neg c35] at H
                        exact absurd H (by simp)
                    · rw [if_neg c34] at H
                      exact absurd H (by simp)
                  · rw [if_neg c33] at H
                    have c33b0 : decide (x46_2 < (x9_1.length : Int)) = false := decide_eq_false c33
                    clear c33
                    simp only [Option.some.injEq, Prod.mk.injEq] at H
                    obtain ⟨rfl, rfl⟩ := H
                    go_wp2
                    go_ret2
                    exact ⟨_, by first | rfl | (simp [errW_none, errW_some] <;> rfl) | (simp only [← hji7]; first | rfl | (simp [errW_none, errW_some] <;> rfl)) | (simp [*, errW_none, errW_some] <;> rfl), by (with_reducible repeat (first | apply Kd.R_alloc | apply Kd.R_drewN | apply Kd.R_drew)); exact HO_12.out, by repeat (first | (with_reducible first | exact HB.out | apply below_alloc | apply pw_below_drewN | apply below_drew1 | refine below_set ?_ GE280.out) | exact HB.out)⟩
      · rw [if_neg c9] at H
        exact absurd H (by simp)
    · rw [if_neg c8] at H
      exact absurd H (by simp)
  · replace c5 := Bool.eq_false_iff.mpr c5
    subst c5
    have H1 : (some (([] : List Int), false)) = some (r1, r2) := by rw [if_neg (show ¬ (false = true) by decide)] at H; exact H
    clear H
    have H := H1
    clear H1
    simp only [Option.some.injEq, Prod.mk.injEq] at H
    obtain ⟨rfl, rfl⟩ := H
    go_enter Tryd.func41, Tryd.ntmps41
    go_wp2_with (first | ((with_reducible refine gate_dst (N := 3) rfl ?_); refine box_event ?hg (N := 3) ?hd (cs := #[.int .i64 a0_0, .int .i64 a0_1, .slice A0_2 l0_2.length c0_2, .slice A0_3 l0_3.length c0_3]) (t := 28) ?hr ?_; (case hd => rfl); (case hg => rfl); (case hr => first | (go_simp; done) | (go_simp; rfl)); intro gb280 hg w40 hbox hb; have n0_ := Aside0.mk (below_step (by repeat (first | (with_reducible first | exact HB.out | apply below_alloc | apply pw_below_drewN | apply below_drew1) | exact HB.out)) hb); have n1_ := Aside0.mk (hbox); have n2_ := Aside0.mk ((by rw [hg]; exact (below_size (by repeat (first | (with_reducible first | exact HB.out | apply below_alloc | apply pw_below_drewN | apply below_drew1) | exact HB.out))) : w.heap.size ≤ gb280)); have n3_ := Aside0.mk ((by rw [hg]; exact (below_size (by repeat (first | (with_reducible first | exact HB.out | apply below_alloc | apply pw_below_drewN | apply below_drew1) | exact HB.out))) : w.heap.size ≤ gb280)); clear HB; have HB := n0_; have BK280 := n1_; have GW280 := n2_; have GE280 := n3_; clear n0_ n1_ n2_ n3_; clear hb hbox hg; have hcz41_0 : w40.cell? ⟨gb280, 0, none⟩ = some (.int .i64 a0_0) := (blk_cell BK280.out 0).trans rfl; have hcz41_1 : w40.cell? ⟨gb280, 1, none⟩ = some (.int .i64 a0_1) := (blk_cell BK280.out 1).trans rfl; have hcz41_2 : w40.cell? ⟨gb280, 2, none⟩ = some (.slice A0_2 l0_2.length c0_2) := (blk_cell BK280.out 2).trans rfl; have hcz41_3 : w40.cell? ⟨gb280, 3, none⟩ = some (.slice A0_3 l0_3.length c0_3) := (blk_cell BK280.out 3).trans rfl; have hfz41_0 := blk_frozen BK280.out 0; have hfz41_1 := blk_frozen BK280.out 1; have hfz41_2 := blk_frozen BK280.out 2; have hfz41_3 := blk_frozen BK280.out 3) | ((with_reducible refine gate_callee (f := 43) rfl ?_); refine goesL_ (some 18) rfl rfl Tryd.func43 (by kernel_rfl) rfl #[.agg #[.int .i64 a0_0, .int .i64 a0_1, .slice A0_2 l0_2.length c0_2, .slice A0_3 l0_3.length c0_3], .int .i64 a1, .bool a2] rfl (by (try simp only [List.map_toArray, List.map_cons, List.map_nil]); first | done | rfl | (simp only [List.length_drop, List.length_take]; rfl)) ?_; (with_reducible refine (spec_moAsked.calls k a0_0 a0_1 _ _ l0_2 _ _ l0_3 a1 a2 false _ ?side1 ?side2 ?side3 ?side4 A4.out).mono ?_); (case side1 => repeat (first | exact (Kd.C_below HR0_2.out HB.out) | (with_reducible refine Kd.C_alloc ?_ _) | (with_reducible refine Kd.C_drewN ?_ _) | (with_reducible refine Kd.C_drew ?_))); (case side2 => exact HC0_2.out); (case side3 => repeat (first | exact (Kd.C_below HR0_3.out HB.out) | (with_reducible refine Kd.C_alloc ?_ _) | (with_reducible refine Kd.C_drewN ?_ _) | (with_reducible refine Kd.C_drew ?_))); (case side4 => exact HC0_3.out); rintro e w42 ⟨rfl, hb⟩; refine ⟨_, rfl, ?_⟩; have n0_ := Aside0.mk (blk_below (g := gb280) (o := .cells #[.int .i64 a0_0, .int .i64 a0_1, .slice A0_2 l0_2.length c0_2, .slice A0_3 l0_3.length c0_3] 28 (0, 0)) (by (with_reducible repeat (first | refine blk_drewN ?_ _ | refine blk_drew ?_ | refine blk_alloc ?_ _)); exact BK280.out) hb); have n1_ := Aside0.mk (below_step (by repeat (first | (with_reducible first | exact HB.out | apply below_alloc | apply pw_below_drewN | apply below_drew1 | refine below_set ?_ GE280.out) | exact HB.out)) hb); clear BK280; clear HB; have BK280 := n0_; have HB := n1_; clear n0_ n1_; (try clear hb); (try clear hb2); (try clear hk); (try clear hi)))
    go_ret2
    exact ⟨_, by first | rfl | (simp [errW_none, errW_some] <;> rfl) | (simp [*, errW_none, errW_some] <;> rfl), by first | exact Kd.R_nil _ _ _ _ _ | exact Kd.N_nil _ _ _ _ _ | exact Kd.V_nil _ _ _ _ _ | exact Kd.Q_nil _ _ _ _ _ | exact Kd.S_nil _ _ _ _ _, by repeat (first | (with_reducible first | exact HB.out | apply below_alloc | apply pw_below_drewN | apply below_drew1 | refine below_set ?_ GE280.out) | exact HB.out)⟩

end Go.Proofs.YtgakmcoeccmkbaaDoor.P


namespace Go.Proofs.YtgakmcoeccmkbaaDoor.P
open Go.RowKit Go.Proofs.YtgakmcoeccmkbaaDoorW.PrintWords Go.Proofs.YtgakmcoeccmkbaaDoorW.PrintLast Go.Proofs.YtgakmcoeccmkbaaDoorW.PrintMore
attribute [local go_sem] max2_int min2_int max_two min_two max_three min_three max_four min_four   -- for this text's walks alone
set_option linter.unusedVariables false
set_option linter.unusedSimpArgs false

def idxs : Nat → List Bool → List Int
  | _, [] => []
  | i, b :: t => if b = true then (i : Int) :: idxs (i + 1) t else idxs (i + 1) t
theorem idxs_eq (g : Nat → Bool) : ∀ (X : List Bool) (i : Nat), (∀ j, j < X.length → X.getD j false = g (i + j)) → idxs i X = ((List.range' i X.length).filter g).map fun n : Nat => (n : Int)
  | [], i, _ => rfl
  | b :: t, i, h => by
    have hb : b = g i := by have := h 0 (by simp); simpa using this
    have ih := idxs_eq g t (i + 1) (fun j hj => by
      have := h (j + 1) (by simp; omega)
      rw [List.getD_cons_succ] at this
      rw [this, show i + (j + 1) = i + 1 + j by omega])
    rw [idxs, List.length_cons, List.range'_succ, ih]
    cases hg : g i with
    | true => rw [hb, hg, if_pos rfl, List.filter_cons_of_pos hg]; rfl
    | false => rw [hb, hg, if_neg (by simp), List.filter_cons_of_neg (by rw [hg]; simp)]
theorem moBy_l1 (X : List Bool) (hX : X.length ≤ 1000) : ∀ (d k i : Nat) (y : List Int), X.length - i = d → i ≤ X.length → d < k → y.length ≤ i → spec_moBy.l1 k y X (X.length : Int) (i : Int) = some (y ++ idxs i (X.drop i), true) := by
  intro d
  induction d with
  | zero =>
    intro k i y h1 h2 h3 h4
    obtain ⟨k, rfl⟩ : ∃ q, k = q + 1 := ⟨k - 1, by omega⟩
    simp only [spec_moBy.l1]
    rw [if_neg (by omega), List.drop_of_length_le (by omega), idxs, List.append_nil]
  | succ d ih =>
    intro k i y h1 h2 h3 h4
    obtain ⟨k, rfl⟩ : ∃ q, k = q + 1 := ⟨k - 1, by omega⟩
    have hi : i < X.length := by omega
    have hrd : rdOf false X (i : Int) = X[i] := by
      unfold rdOf
      rw [Int.toNat_natCast, List.getD_eq_getElem?_getD, List.getElem?_eq_getElem hi]
      rfl
    simp only [spec_moBy.l1]
    rw [if_pos (by omega), if_pos (by omega), if_pos (by omega), hrd, wrap_i1 i (by omega), List.drop_eq_getElem_cons hi, idxs]
    by_cases hb : X[i] = true
    · rw [if_pos hb, if_pos hb, if_pos (by omega), ih k (i + 1) (y ++ [(i : Int)]) (by omega) (by omega) (by omega) (by rw [List.length_append]; simp; omega), List.append_assoc]
      rfl
    · rw [if_neg hb, if_neg hb, ih k (i + 1) y (by omega) (by omega) (by omega) (by omega)]
def setAll (X : List Bool) (cs : List Nat) : List Bool := cs.foldl (fun X c => X.set c true) X
theorem setAll_length : ∀ (cs : List Nat) (X : List Bool), (setAll X cs).length = X.length
  | [], X => rfl
  | c :: cs, X => by unfold setAll; rw [List.foldl_cons]; exact (setAll_length cs _).trans (by rw [List.length_set])
theorem setAll_get : ∀ (cs : List Nat) (X : List Bool) (j : Nat), j < X.length → (setAll X cs).getD j false = (X.getD j false || cs.contains j)
  | [], X, j, h => by simp [setAll]
  | c :: cs, X, j, h => by
    unfold setAll
    rw [List.foldl_cons]
    have := setAll_get cs (X.set c true) j (by rw [List.length_set]; exact h)
    unfold setAll at this
    rw [this, List.contains_cons]
    by_cases hc : c = j
    · subst hc
      rw [List.getD_eq_getElem?_getD, List.getElem?_set_self h]
      simp
    · rw [List.getD_eq_getElem?_getD, List.getElem?_set_ne hc, ← List.getD_eq_getElem?_getD, show (j == c) = false by rw [beq_eq_false_iff_ne]; exact fun h => hc h.symm, Bool.false_or]
def byR (n : Nat) (cs : List Nat) : List Int := ((List.range n).filter fun i => cs.contains i).map fun n : Nat => (n : Int)
theorem moBy_l0 (PL : List S76) (cnt : Nat → Nat) (ws : List Nat) (k0 : Nat) (n : Nat) (hn : n ≤ 1000) (hL : ws.length ≤ 16777216) (hc : ∀ x ∈ ws, cnt x < n ∧ ∀ k, k0 ≤ k → spec_sqCount.f k PL (x : Int) = some ((cnt x : Nat) : Int)) (hk0 : n < k0) : ∀ (d k i : Nat) (X : List Bool), ws.length - i = d → i ≤ ws.length → k0 + d < k → X.length = n →
    spec_moBy.l0 k PL X (ws.map fun n : Nat => (n : Int)) ((ws.map fun n : Nat => (n : Int)).length : Int) (i : Int) = some (idxs 0 (setAll X ((ws.drop i).map cnt)), true) := by
  intro d
  induction d with
  | zero =>
    intro k i X h1 h2 h3 h4
    obtain ⟨k, rfl⟩ : ∃ q, k = q + 1 := ⟨k - 1, by omega⟩
    simp only [spec_moBy.l0]
    rw [if_neg (by rw [List.length_map]; omega), List.drop_of_length_le (by omega)]
    have := moBy_l1 X (by omega) X.length k 0 [] (by omega) (by omega) (by omega) (by simp)
    rw [List.drop_zero, List.nil_append] at this
    exact this
  | succ d ih =>
    intro k i X h1 h2 h3 h4
    obtain ⟨k, rfl⟩ : ∃ q, k = q + 1 := ⟨k - 1, by omega⟩
    have hi : i < ws.length := by omega
    obtain ⟨c1, c2⟩ := hc ws[i] (List.getElem_mem hi)
    have hz : (ws.map fun n : Nat => (n : Int)).length = ws.length := List.length_map _
    have a1 : (i : Int) < (ws.length : Int) := by clear ih hc c2; omega
    have a2 : (0 : Int) ≤ (i : Int) := Int.natCast_nonneg i
    have a3 : (0 : Int) ≤ ((cnt ws[i] : Nat) : Int) := Int.natCast_nonneg _
    have a4 : ((cnt ws[i] : Nat) : Int) < (X.length : Int) := by rw [h4]; exact_mod_cast c1
    have a5 : k0 ≤ k := by clear ih hc c2; omega
    have a6 : ws.length - (i + 1) = d := by clear ih hc c2; omega
    have a7 : i + 1 ≤ ws.length := hi
    have a8 : k0 + d < k := by clear ih hc c2; omega
    have hw : wrap64 ((i : Int) + 1) = ((i + 1 : Nat) : Int) := by clear ih hc c2 c1 a3 a4 hz; unfold wrap64; omega
    have hrd : rd (ws.map fun n : Nat => (n : Int)) (i : Int) = ((ws[i] : Nat) : Int) := by
      rw [rd_nat _ i (by rw [List.length_map]; exact hi), List.getElem_map]
    have hih := ih k (i + 1) (X.set (cnt ws[i]) true) a6 a7 a8 (by rw [List.length_set]; exact h4)
    rw [hz] at hih ⊢
    simp only [spec_moBy.l0]
    rw [hz, if_pos a1, if_pos a2, if_pos a1, hrd, c2 k a5, Option.bind_some, if_pos a3, if_pos a4, Int.toNat_natCast, hw, hih, List.drop_eq_getElem_cons hi, List.map_cons]
    rfl
theorem byR_eq (n : Nat) (cs : List Nat) : idxs 0 (setAll (List.replicate n false) cs) = byR n cs := by
  have hl : (setAll (List.replicate n false) cs).length = n := by rw [setAll_length, List.length_replicate]
  rw [idxs_eq (fun i => cs.contains i) _ 0 (fun j hj => by
    rw [hl] at hj
    rw [setAll_get _ _ _ (by rw [List.length_replicate]; exact hj), Nat.zero_add, List.getD_eq_getElem?_getD, List.getElem?_replicate, if_pos hj]
    rfl), hl, ← List.range_eq_range']
  rfl
def numsOf (cnt : Nat → Nat) (acc : List Nat) (ws : List Nat) : List Nat := ws.foldl (fun acc x => if cnt x ∈ acc then acc else acc ++ [cnt x]) acc
theorem numsOf_spec (cnt : Nat → Nat) : ∀ (ws acc : List Nat), acc.Nodup → (numsOf cnt acc ws).Nodup ∧ ∀ c, c ∈ numsOf cnt acc ws ↔ c ∈ acc ∨ c ∈ ws.map cnt
  | [], acc, h => ⟨h, fun c => by simp [numsOf]⟩
  | x :: ws, acc, h => by
    unfold numsOf
    rw [List.foldl_cons]
    by_cases hx : cnt x ∈ acc
    · rw [if_pos hx]
      obtain ⟨h1, h2⟩ := numsOf_spec cnt ws acc h
      refine ⟨h1, fun c => (h2 c).trans ?_⟩
      rw [List.map_cons, List.mem_cons]
      constructor
      · rintro (h | h)
        · exact .inl h
        · exact .inr (.inr h)
      · rintro (h | rfl | h)
        · exact .inl h
        · exact .inl hx
        · exact .inr h
    · rw [if_neg hx]
      obtain ⟨h1, h2⟩ := numsOf_spec cnt ws (acc ++ [cnt x]) (List.nodup_append.2 ⟨h, by simp, fun a ha b hb => by
        rw [List.mem_singleton] at hb
        subst hb
        exact fun e => hx (e ▸ ha)⟩)
      refine ⟨h1, fun c => (h2 c).trans ?_⟩
      rw [List.map_cons, List.mem_cons, List.mem_append, List.mem_singleton]
      constructor
      · rintro ((h | h) | h)
        · exact .inl h
        · exact .inr (.inl h)
        · exact .inr (.inr h)
      · rintro (h | h | h)
        · exact .inl (.inl h)
        · exact .inl (.inr h)
        · exact .inr h
theorem cast_nodup {l : List Nat} (h : l.Nodup) : (l.map fun n : Nat => (n : Int)).Nodup := by
  unfold List.Nodup at h ⊢
  rw [List.pairwise_map]
  exact h.imp fun hne e => hne (by exact_mod_cast e)
theorem byR_sorted (n : Nat) (cs : List Nat) : (byR n cs).Pairwise (fun a b => a ≤ b) ∧ (byR n cs).Nodup := by
  have h : ((List.range n).filter fun i => cs.contains i).Pairwise (fun a b => a < b) := List.Pairwise.filter _ List.pairwise_lt_range
  unfold byR
  refine ⟨?_, cast_nodup (h.imp fun hab => Nat.ne_of_lt hab)⟩
  rw [List.pairwise_map]
  exact h.imp fun hab => by omega
theorem nums_sorted (cnt : Nat → Nat) (ws : List Nat) (n : Nat) (hn : ∀ x ∈ ws, cnt x < n) : ((numsOf cnt [] ws).map fun n : Nat => (n : Int)).mergeSort (fun x y => decide (x ≤ y)) = byR n (ws.map cnt) := by
  obtain ⟨h1, h2⟩ := numsOf_spec cnt ws [] List.nodup_nil
  obtain ⟨s1, s2⟩ := byR_sorted n (ws.map cnt)
  have hp := List.mergeSort_perm ((numsOf cnt [] ws).map fun n : Nat => (n : Int)) (fun x y => decide (x ≤ y))
  have hs := List.pairwise_mergeSort (le := fun x y : Int => decide (x ≤ y)) (fun a b c h1 h2 => by
    have h1 := of_decide_eq_true h1
    have h2 := of_decide_eq_true h2
    exact decide_eq_true (by omega)) (fun a b => by
    by_cases h : a ≤ b
    · simp [h]
    · simp [show b ≤ a by omega]) ((numsOf cnt [] ws).map fun n : Nat => (n : Int))
  refine List.Perm.eq_of_pairwise (le := fun a b : Int => a ≤ b) (fun a b _ _ h1 h2 => by omega) (hs.imp fun h => of_decide_eq_true h) s1 (hp.trans ?_)
  refine (List.perm_ext_iff_of_nodup (cast_nodup h1) s2).2 fun a => ?_
  unfold byR
  rw [List.mem_map, List.mem_map]
  constructor
  · rintro ⟨c, hc, rfl⟩
    have hm := (h2 c).1 hc
    have hm : c ∈ ws.map cnt := by
      rcases hm with h | h
      · cases h
      · exact h
    obtain ⟨x, hx, rfl⟩ := List.mem_map.1 hm
    exact ⟨cnt x, List.mem_filter.2 ⟨List.mem_range.2 (hn x hx), by rw [List.contains_iff_mem]; exact hm⟩, rfl⟩
  · rintro ⟨c, hc, rfl⟩
    obtain ⟨_, hc⟩ := List.mem_filter.1 hc
    rw [List.contains_iff_mem] at hc
    exact ⟨c, (h2 c).2 (.inr hc), rfl⟩
theorem by_room {n k : Nat} (h : n ≤ 64 ^ 4) (hk : 20000000 < k) : 50 + n < k := by
  have h2 : n ≤ 16777216 := h
  omega
theorem by_all {w h : Int} {a u : List Int} (hf : fewB w h a u = true) (ha : a.length ≤ 1000000) (hu : u.length ≤ 1000000) (k : Nat) (hk : 20000000 < k) :
    ∃ (s al : Nat) (L : List S83) (cn : Nat → Nat) (nd : Nat → Int) (n : Nat), FigOK k w h a u s al L (fun x => ((cn x : Nat) : Int)) nd ∧ n ≤ 31 ∧ (∀ x, cn x < n) ∧ ∀ (mt : Int) (mv : Bool), rightM true mt mv = true → spec_moBy.f k w h a u mt mv = some (byR n ((waysW mv mt.toNat al s).map cn), true) := by
  have hf0 := hf
  unfold fewB at hf
  rw [Bool.and_eq_true] at hf
  obtain ⟨hf, -⟩ := hf
  have hf1 := hf
  unfold figB at hf1
  simp only [Bool.and_eq_true] at hf1
  obtain ⟨hg, -⟩ := hf1
  obtain ⟨b1, b2, b3, b4⟩ := grid_bounds (by simp only [Bool.and_eq_true]; exact hg)
  clear hg
  obtain ⟨w, rfl⟩ := Int.eq_ofNat_of_zero_le (show 0 ≤ w by omega)
  obtain ⟨h, rfl⟩ := Int.eq_ofNat_of_zero_le (show 0 ≤ h by omega)
  have hM := figMask_edges hf
  have hM60 := figMask_lt hf
  obtain ⟨L, PL, E, hL, hP, hLE, hPE, hE, hl⟩ := squares_f b1 b2 b3 b4 k (by omega)
  have hEl : E.length ≤ 30 := by have := congrArg List.length hLE; simp at this; omega
  have hN := edgesN_le (w := w) (h := h) (by omega) (by omega)
  have hbits := bits_all w h (by omega) (by omega) (by omega) (by omega)
  unfold bitsSame at hbits
  rw [Bool.and_eq_true, beq_iff_eq, beq_iff_eq] at hbits
  obtain ⟨hb1, hb2⟩ := hbits
  have hmask := sqMask_f hf ha hu k (by omega)
  have hset := set_f hf ha hu k (by omega)
  generalize figMask (w : Int) (h : Int) a u = M at hM hM60 hmask hset
  have hal : 2 ^ edgesN w h - 1 < 2 ^ 60 := by
    have := Nat.pow_le_pow_right (show 0 < 2 by omega) (show edgesN w h ≤ 59 by omega)
    omega
  have hcn : ∀ x, cntN E x < E.length + 1 := fun x => by
    unfold cntN
    have := List.length_filter_le (fun e => subE e x) E
    omega
  refine ⟨M, 2 ^ edgesN w h - 1, L, fun x => cntN E x, fun x => (restN E x x : Nat), E.length + 1, ⟨hM60, hal, hset, hb2, hL, fun x hx => countOf_f hLE hE hEl x hx k (by omega), fun x hx => needless_f hLE hE hl x hx k (by omega)⟩, by omega, hcn, fun mt mv hr => ?_⟩
  have hask := moAsked_f (w : Int) (h : Int) a u ha hu mt mv k (by omega)
  rw [hf0, hr] at hask
  unfold rightM mostM at hr
  simp only [Bool.true_and, Bool.and_eq_true, decide_eq_true_eq] at hr
  obtain ⟨m, rfl⟩ := Int.eq_ofNat_of_zero_le hr.1
  rw [Int.toNat_natCast]
  have hbk : spec_moBits.f k (w : Int) (h : Int) = some ((List.range (edgesN w h)).map g2) := up_rounds (fun k => spec_moBits.mono _ _ k) (show 100 ≤ k by omega) hb1
  have hmade : spec_moMade.f k (w : Int) (h : Int) a u (m : Int) mv = some ((waysW mv m (2 ^ edgesN w h - 1) M).map fun n : Nat => (n : Int)) := by
    unfold spec_moMade.f
    rw [hmask, Option.bind_some, hbk, Option.bind_some, if_pos ⟨hr.1, hr.2, by rw [List.length_map, List.length_range]; omega⟩, Int.toNat_natCast, made_eq hM (by omega)]
  have hlt := waysW_lt (mv := mv) (mt := m) hM60 hal
  have hlen : (waysW mv m (2 ^ edgesN w h - 1) M).length ≤ 64 ^ 4 := by
    unfold waysW piecesW
    have h0 := subsW_len m (bitsI M) 0
    have h1 : (bitsI M).length ^ m ≤ 64 ^ m := Nat.pow_le_pow_left (bitsI_len M) m
    cases mv with
    | false =>
      rw [if_neg (by simp), flatMap_one]
      have h2 : 64 ^ m ≤ 64 ^ 4 := Nat.pow_le_pow_right (by omega) (by have := hr.2; simp at this; omega)
      omega
    | true =>
      rw [if_pos rfl]
      have h2 := flatMap_le (putsW_len m (2 ^ edgesN w h - 1) M) (subsW m (bitsI M) 0)
      have h3 : 64 ^ m ≤ 64 ^ 2 := Nat.pow_le_pow_right (by omega) (by have := hr.2; simp at this; omega)
      have h4 : (subsW m (bitsI M) 0).length * 64 ^ m ≤ 64 ^ 2 * 64 ^ 2 := Nat.mul_le_mul (by omega) h3
      omega
  have hPl : PL.length = E.length := by have := congrArg List.length hPE; simpa using this
  have hw1 : wrap64 ((PL.length : Int) + 1) = ((E.length + 1 : Nat) : Int) := by rw [hPl]; exact wrap_i1 _ (by omega)
  unfold spec_moBy.f
  rw [hask, Option.bind_some, if_pos rfl, hP, Option.bind_some, hw1, if_pos (Int.natCast_nonneg _), Int.toNat_natCast, if_pos (Nat.le_trans (Nat.succ_le_succ hEl) (by decide)), hmade, Option.bind_some]
  have q := moBy_l0 PL (fun x => cntN E x) (waysW mv m (2 ^ edgesN w h - 1) M) 50 (E.length + 1) (Nat.le_trans (Nat.succ_le_succ hEl) (by decide)) hlen (fun x hx => ⟨hcn x, fun k hk => sqCount_f hPE hE hEl x (hlt x hx) k (Nat.le_trans (by decide) hk)⟩) (Nat.lt_of_le_of_lt (Nat.succ_le_succ hEl) (by decide)) _ k 0 (List.replicate (E.length + 1) false) (Nat.sub_zero _) (Nat.zero_le _) (by_room hlen hk) (List.length_replicate)
  rw [List.drop_zero, byR_eq] at q
  exact q
def byAns (few : Bool) (s al n : Nat) (cn : Nat → Nat) (mt : Int) (mv : Bool) : List Int × Bool :=
  if rightM few mt mv = true then (byR n ((waysW mv mt.toNat al s).map cn), true) else ([], false)
theorem SquaresBy_pure {w h : Int} {a u : List Int} (ha : a.length ≤ 1000000) (hu : u.length ≤ 1000000) (k : Nat) (hk : 20000000 < k) : ∃ (s al : Nat) (L : List S83) (cn : Nat → Nat) (nd : Nat → Int) (n : Nat), (fewB w h a u = true → FigOK k w h a u s al L (fun x => ((cn x : Nat) : Int)) nd) ∧ n ≤ 31 ∧ (∀ x, cn x < n) ∧
    ∀ (mt : Int) (mv : Bool), spec_moBy.f k w h a u mt mv = some (byAns (fewB w h a u) s al n cn mt mv) := by
  cases hf : fewB w h a u with
  | false =>
    refine ⟨0, 0, [], fun _ => 0, fun _ => 0, 1, (fun h => by cases h), (by omega), fun _ => Nat.one_pos, fun mt mv => ?_⟩
    have hask := moAsked_f w h a u ha hu mt mv k (by omega)
    have hr : rightM false mt mv = false := rfl
    rw [hf, hr] at hask
    unfold spec_moBy.f byAns
    rw [hask, Option.bind_some, if_neg (by simp), hr, if_neg (by simp)]
  | true =>
    obtain ⟨s, al, L, cn, nd, n, h1, h2, h3, h4⟩ := by_all hf ha hu k hk
    refine ⟨s, al, L, cn, nd, n, fun _ => h1, h2, h3, fun mt mv => ?_⟩
    unfold byAns
    by_cases hr : rightM true mt mv = true
    · rw [h4 mt mv hr, if_pos hr]
    · have hask := moAsked_f w h a u ha hu mt mv k (by omega)
      rw [hf, Bool.eq_false_iff.2 hr] at hask
      rw [if_neg hr]
      unfold spec_moBy.f
      rw [hask, Option.bind_some, if_neg (by simp)]
theorem byAns_len (few : Bool) (s al n : Nat) (cn : Nat → Nat) (mt : Int) (mv : Bool) (hn : n ≤ 31) : (byAns few s al n cn mt mv).1.length ≤ 1000000 := by
  unfold byAns
  split
  · unfold byR
    rw [List.length_map]
    have := List.length_filter_le (fun i => ((waysW mv mt.toNat al s).map cn).contains i) (List.range n)
    rw [List.length_range] at this
    omega
  · exact Nat.zero_le _

end Go.Proofs.YtgakmcoeccmkbaaDoor.P


namespace Go.Proofs.YtgakmcoeccmkbaaDoor.P
open Go.RowKit Go.Proofs.YtgakmcoeccmkbaaDoorW.PrintWords Go.Proofs.YtgakmcoeccmkbaaDoorW.PrintLast Go.Proofs.YtgakmcoeccmkbaaDoorW.PrintMore
attribute [local go_sem] max2_int min2_int max_two min_two max_three min_three max_four min_four   -- for this text's walks alone
set_option linter.unusedVariables false
set_option linter.unusedSimpArgs false

section
open Go.Maps
def heldR (v : Value) : Option (DataW Value × List MemPlace) := some (.held v, [])
def MapIs {κ : Type} (w : World) (P : Program) (k b m : Nat) (en : κ → Value) (f : κ → Option Value) : Prop :=
  ∃ D : DataW Value, w.ownsMap P k heldR b m D ∧ Maps.size D = m ∧ ∀ c kl, keyOf P k (en c) = some kl → Maps.has D kl = (f c).isSome ∧ ∀ z, D.atKey kl (.held z) = .held ((f c).getD z)
section
variable {κ : Type} {w w1 : World} {P : Program} {k b m : Nat} {en : κ → Value} {f : κ → Option Value}
theorem MapIs.made (w : World) (P : Program) (k : Nat) (en : κ → Value) : MapIs (w.alloc (.map #[] 0)) P k w.heap.size 0 en (fun _ => none) :=
  ⟨.map [], World.ownsMap_made w P k heldR, rfl, fun c kl _ => ⟨rfl, fun z => rfl⟩⟩
theorem MapIs.lt (h : MapIs w P k b m en f) : b < w.heap.size := by
  obtain ⟨D, h, _⟩ := h
  exact h.lt
theorem MapIs.move (h : MapIs w P k b m en f) (hm : w1.heap[b]? = w.heap[b]?) : MapIs w1 P k b m en f := by
  obtain ⟨D, ⟨es, clock, hb, F, hs, hD⟩, h2⟩ := h
  exact ⟨D, ⟨es, clock, hm.trans hb, F, hs, hD⟩, h2⟩
theorem MapIs.below (h : MapIs w P k b m en f) (hb : Below w.heap.size w w1) : MapIs w1 P k b m en f := h.move (hb.block b h.lt)
theorem MapIs.alloc (h : MapIs w P k b m en f) (o : Obj) : MapIs (w.alloc o) P k b m en f := h.below ((Below.refl _ _).alloc (Nat.le_refl _) o)
theorem MapIs.congr (h : MapIs w P k b m en f) {g : κ → Option Value} (hg : ∀ c kl, keyOf P k (en c) = some kl → g c = f c) : MapIs w P k b m en g := by
  obtain ⟨D, h1, h2, h3⟩ := h
  exact ⟨D, h1, h2, fun c kl hk => by rw [hg c kl hk]; exact h3 c kl hk⟩
theorem MapIs.look (h : MapIs w P k b m en f) (K : Keyed P k) {t e : TypeId} (ht : P.underlying t = some (.map k e)) {z : Value} (hz : (zeroValue e).run P w = .ok z w) {c : κ} {kl : Lit} (hkey : keyOf P k (en c) = some kl) :
    (Instr.lookup t (.map (some b)) (en c) false).run P w = .ok ((f c).getD z) w := by
  obtain ⟨D, h1, _, h3⟩ := h
  obtain ⟨v, ps, hrun, hv⟩ := h1.lookup K ht hz (zd := .held z) (zp := []) rfl hkey
  rw [(h3 c kl hkey).2] at hv
  simp only [heldR, Option.some.injEq, Prod.mk.injEq, DataW.held.injEq] at hv
  rw [hrun, hv.1]
theorem MapIs.len (h : MapIs w P k b m en f) {t e : TypeId} (ht : P.underlying t = some (.map k e)) (ty : TypeId) : (Builtin.len_ #[t] ty #[.map (some b)]).run P w = .ok (.int .i64 m) w := by
  obtain ⟨D, h1, h2, _⟩ := h
  rw [h1.len ht ty, h2]
theorem MapIs.store [DecidableEq κ] (h : MapIs w P k b m en f) (K : Keyed P k) {t e : TypeId} (ht : P.underlying t = some (.map k e)) (hn : m < maxLen) (hinj : ∀ a c, en a = en c → a = c) {c : κ} {kl : Lit} (hkey : keyOf P k (en c) = some kl) (v : Value) :
    ∃ w', (Instr.mapUpdate t (.map (some b)) (en c) v).run P w = .ok () w' ∧ MapIs w' P k b (if (f c).isSome then m else m + 1) en (fun a => if a = c then some v else f a) ∧ w.mapTurned w' b := by
  obtain ⟨D, h1, h2, h3⟩ := h
  obtain ⟨w', hrun, ho, ht'⟩ := h1.store K ht hn hkey (d := .held v) (ps := []) rfl
  have hsz : Maps.size (D.put kl (.held v)) = if (f c).isSome then m else m + 1 := by
    rw [size_put (h1.tidy K), (h3 c kl hkey).1, h2]
  refine ⟨w', hrun, ⟨D.put kl (.held v), ?_, hsz, fun a la hla => ?_⟩, ht'⟩
  · obtain ⟨es, clock, hb, F, hs, hD⟩ := ho
    refine ⟨es, clock, hb, F, ?_, hD⟩
    have e1 : Maps.size (D.put kl (.held v)) = es.size := by rw [hD]; simp [Maps.size, length_sorted]
    rw [← hsz, e1]
    exact Nat.le_refl _
  · by_cases hac : a = c
    · subst hac
      have : la = kl := Option.some.inj (hla.symm.trans hkey)
      subst this
      simp only [if_true]
      exact ⟨has_put_same h1.isMap (K.key hkey) _, fun z => atKey_put_same h1.isMap (K.key hkey) _ _⟩
    · simp only [if_neg hac]
      have hne : la ≠ kl := fun e => hac (hinj _ _ (K.inj (e ▸ hla) hkey))
      exact ⟨(has_put_other hne _).trans (h3 a la hla).1, fun z => (atKey_put_other hne _ _).trans ((h3 a la hla).2 z)⟩
theorem MapIs.drop [DecidableEq κ] (h : MapIs w P k b m en f) (K : Keyed P k) {t e : TypeId} (ht : P.underlying t = some (.map k e)) (hinj : ∀ a c, en a = en c → a = c) {c : κ} {kl : Lit} (hkey : keyOf P k (en c) = some kl) (ty : TypeId) :
    ∃ w', (Builtin.delete_ #[t, k] ty #[.map (some b), en c]).run P w = .ok (.tuple #[]) w' ∧ MapIs w' P k b (if (f c).isSome then m - 1 else m) en (fun a => if a = c then none else f a) ∧ w.mapTurned w' b := by
  obtain ⟨D, h1, h2, h3⟩ := h
  obtain ⟨w', hrun, ho, ht'⟩ := h1.drop K ht hkey ty
  have hsz : Maps.size (D.del kl) = if (f c).isSome then m - 1 else m := by
    have := size_del (k := kl) (h1.tidy K)
    rw [(h3 c kl hkey).1, h2] at this
    split at this <;> rename_i hx <;> simp [hx] <;> omega
  refine ⟨w', hrun, ⟨D.del kl, ?_, hsz, fun a la hla => ?_⟩, ht'⟩
  · obtain ⟨es, clock, hb, F, hs, hD⟩ := ho
    refine ⟨es, clock, hb, F, ?_, hD⟩
    have e1 : Maps.size (D.del kl) = es.size := by rw [hD]; simp [Maps.size, length_sorted]
    rw [← hsz, e1]
    exact Nat.le_refl _
  · by_cases hac : a = c
    · subst hac
      have : la = kl := Option.some.inj (hla.symm.trans hkey)
      subst this
      simp only [if_true]
      exact ⟨has_del_same, fun z => atKey_del_same _⟩
    · simp only [if_neg hac]
      have hne : la ≠ kl := fun e => hac (hinj _ _ (K.inj (e ▸ hla) hkey))
      exact ⟨(has_del_other hne).trans (h3 a la hla).1, fun z => (atKey_del_other hne _).trans ((h3 a la hla).2 z)⟩
end
end

end Go.Proofs.YtgakmcoeccmkbaaDoor.P


namespace Go.Proofs.YtgakmcoeccmkbaaDoor.P
open Go.RowKit Go.Proofs.YtgakmcoeccmkbaaDoorW.PrintWords Go.Proofs.YtgakmcoeccmkbaaDoorW.PrintLast Go.Proofs.YtgakmcoeccmkbaaDoorW.PrintMore
attribute [local go_sem] max2_int min2_int max_two min_two max_three min_three max_four min_four   -- for this text's walks alone
set_option linter.unusedVariables false
set_option linter.unusedSimpArgs false

section
open Go.Maps
theorem intKeyed : Keyed Tryd.prog 3 := int_keyed Tryd.underlying3
def intV (n : Nat) : Value := .int .i64 (n : Int)
theorem intV_inj (a c : Nat) (h : intV a = intV c) : a = c := by
  unfold intV at h
  injection h with _ h
  exact_mod_cast h
def inN (S : List Nat) (c : Nat) : Option Value := if c ∈ S then some (.bool true) else none
theorem lit_small {n : Nat} (hn : n ≤ 1000000) : (Lit.int .i64 (n : Int)).wf = true := by
  have h1 : IntKind.i64.min = -9223372036854775808 := by decide
  have h2 : IntKind.i64.max = 9223372036854775807 := by decide
  show (decide (IntKind.i64.min ≤ (n : Int)) && decide ((n : Int) ≤ IntKind.i64.max)) = true
  rw [h1, h2, decide_eq_true (by omega), decide_eq_true (by omega)]
  rfl
theorem intKey (n : Nat) (hn : n ≤ 1000000) : keyOf Tryd.prog 3 (intV n) = some (.int .i64 (n : Int)) := keyOf_int_mk Tryd.underlying3 (lit_small hn)
theorem lookN {W : World} {bm ms : Nat} {S : List Nat} {n : Nat} (h : MapIs W Tryd.prog 3 bm ms intV (inN S)) (hn : n ≤ 1000000) (b : Bool) (hb : decide (n ∈ S) = b) :
    (Instr.lookup 65 (.map (some bm)) (.int .i64 (n : Int)) false).run Tryd.prog W = .ok (.bool b) W := by
  have := h.look intKeyed Tryd.underlying65 (z := .bool false) (by kernel_rfl) (intKey n hn)
  rw [show (inN S n).getD (.bool false) = .bool b from by subst hb; unfold inN; by_cases h : n ∈ S <;> simp [h]] at this
  exact this
theorem storeN {W : World} {bm ms : Nat} {S : List Nat} {n : Nat} (h : MapIs W Tryd.prog 3 bm ms intV (inN S)) (hn : n ≤ 1000000) (hS : n ∉ S) (hms : ms ≤ 100000000) :
    ∃ w', (Instr.mapUpdate 65 (.map (some bm)) (.int .i64 (n : Int)) (.bool true)).run Tryd.prog W = .ok () w' ∧ MapIs w' Tryd.prog 3 bm (ms + 1) intV (inN (n :: S)) ∧ W.mapTurned w' bm := by
  obtain ⟨w', hrun, hm, ht⟩ := h.store intKeyed Tryd.underlying65 (by unfold maxLen; omega) intV_inj (intKey n hn) (.bool true)
  refine ⟨w', hrun, ?_, ht⟩
  have e : (if (inN S n).isSome then ms else ms + 1) = ms + 1 := by unfold inN; simp [hS]
  rw [e] at hm
  exact hm.congr (fun a kl _ => by unfold inN; by_cases ha : a = n <;> simp [ha])
end

end Go.Proofs.YtgakmcoeccmkbaaDoor.P


namespace Go.Proofs.YtgakmcoeccmkbaaDoor.P
open Go.RowKit Go.Proofs.YtgakmcoeccmkbaaDoorW.PrintWords Go.Proofs.YtgakmcoeccmkbaaDoorW.PrintLast Go.Proofs.YtgakmcoeccmkbaaDoorW.PrintMore
attribute [local go_sem] max2_int min2_int max_two min_two max_three min_three max_four min_four   -- for this text's walks alone
set_option linter.unusedVariables false
set_option linter.unusedSimpArgs false

def NumInv (Bl Bs Bo bm base : Nat) (A : Option Addr) (c : Nat) (L : List S83) (cn : Nat → Nat) (acc : List Nat) (O : Nat → Prop) (W : World) : Prop :=
  ∃ v ms, W.cell? ⟨Bo, 0, none⟩ = some v ∧ W.frozen? ⟨Bo, 0, none⟩ = false ∧ W.cell? ⟨Bl, 0, none⟩ = some (.slice A L.length c) ∧ W.cell? ⟨Bs, 0, none⟩ = some (.map (some bm)) ∧
    Kd.R k83 83 W base (fun k => some k = (Value.slice A L.length c).ownBlock) (.slice A L.length c) L ∧
    MapIs W Tryd.prog 3 bm ms intV (inN (numsOf cn [] acc)) ∧ ms = (numsOf cn [] acc).length ∧
    Kd.R (Kd.int .i64) 3 W base (fun k => k ≠ Bo ∧ k ≠ Bl ∧ k ≠ Bs ∧ k ≠ bm ∧ some k ≠ (Value.slice A L.length c).ownBlock) v ((numsOf cn [] acc).map fun n : Nat => (n : Int)) ∧
    ∀ k, O k ↔ (k = Bo ∨ k = Bl ∨ k = Bs ∨ k = bm ∨ some k = (Value.slice A L.length c).ownBlock) ∨ some k = v.ownBlock
theorem NumInv.move {Bl Bs Bo bm base : Nat} {A : Option Addr} {c : Nat} {L : List S83} {cn : Nat → Nat} {acc : List Nat} {O : Nat → Prop} {W W' : World} (hI : NumInv Bl Bs Bo bm base A c L cn acc O W) (hk : ∀ k, O k → W'.heap[k]? = W.heap[k]?) : NumInv Bl Bs Bo bm base A c L cn acc O W' := by
  obtain ⟨v, ms, co, fo, cl, cs, hL, hm, hms, hR, hO⟩ := hI
  have ho := hk Bo ((hO Bo).2 (.inl (.inl rfl)))
  have hl := hk Bl ((hO Bl).2 (.inl (.inr (.inl rfl))))
  have hs := hk Bs ((hO Bs).2 (.inl (.inr (.inr (.inl rfl)))))
  have hb := hk bm ((hO bm).2 (.inl (.inr (.inr (.inr (.inl rfl))))))
  exact ⟨v, ms, (World.cell?_of_block (w := W) (a := ⟨Bo, 0, none⟩) ho).trans co, (World.frozen?_of_block (w := W) (a := ⟨Bo, 0, none⟩) ho).trans fo, (World.cell?_of_block (w := W) (a := ⟨Bl, 0, none⟩) hl).trans cl, (World.cell?_of_block (w := W) (a := ⟨Bs, 0, none⟩) hs).trans cs,
    Kd.R_move hL (fun k h => hk k ((hO k).2 (.inl (.inr (.inr (.inr (.inr h))))))), hm.move hb, hms, Kd.R_mono (Kd.R_move (Kd.R_tight rfl hR) (fun k h => hk k ((hO k).2 (.inr h)))) (fun k h => hR.1 k h.symm), hO⟩
theorem NumInv.lt {Bl Bs Bo bm base : Nat} {A : Option Addr} {c : Nat} {L : List S83} {cn : Nat → Nat} {acc : List Nat} {O : Nat → Prop} {W : World} (hI : NumInv Bl Bs Bo bm base A c L cn acc O W) (k : Nat) (hk : O k) : k < W.heap.size := by
  obtain ⟨v, ms, co, fo, cl, cs, hL, hm, hms, hR, hO⟩ := hI
  rcases (hO k).1 hk with (rfl | rfl | rfl | rfl | h) | h
  · exact World.block_lt_of_cell? W _ co
  · exact World.block_lt_of_cell? W _ cl
  · exact World.block_lt_of_cell? W _ cs
  · exact hm.lt
  · exact Kd.R_lt hL k h.symm
  · exact Kd.R_lt hR k h.symm
theorem numsOf_snoc (cn : Nat → Nat) (acc : List Nat) (x : Nat) : numsOf cn [] (acc ++ [x]) = if cn x ∈ numsOf cn [] acc then numsOf cn [] acc else numsOf cn [] acc ++ [cn x] := by
  unfold numsOf
  rw [List.foldl_append]
  rfl
theorem NumInv.skip {Bl Bs Bo bm base : Nat} {A : Option Addr} {c : Nat} {L : List S83} {cn : Nat → Nat} {acc : List Nat} {O : Nat → Prop} {W W' : World} {x : Nat} (hI : NumInv Bl Bs Bo bm base A c L cn acc O W) (hx : cn x ∈ numsOf cn [] acc) (hB : Below W.heap.size W W') : NumInv Bl Bs Bo bm base A c L cn (acc ++ [x]) O W' := by
  have h := hI.move (W' := W') (fun k hk => hB.block k (hI.lt k hk))
  unfold NumInv at h ⊢
  rw [numsOf_snoc, if_pos hx]
  exact h
set_option maxRecDepth 100000 in
set_option maxHeartbeats 8000000 in
theorem numLit_no (Bl Bs Bo bm base : Nat) (A : Option Addr) (c : Nat) (L : List S83) (cn : Nat → Nat) (K x : Nat) (hcn : impl_countOf.f K L (x : Int) = some ((cn x : Nat) : Int)) (hn : cn x ≤ 1000000)
    (acc : List Nat) (O : Nat → Prop) (W : World) (hx : cn x ∈ numsOf cn [] acc) (hI : NumInv Bl Bs Bo bm base A c L cn acc O W) :
    Calls Tryd.prog 57 #[.int .u64 (x : Int), .pointer (some ⟨Bl, 0, none⟩), .pointer (some ⟨Bs, 0, none⟩), .pointer (some ⟨Bo, 0, none⟩)] W fun e w' => e = .returned (.tuple #[]) ∧ ∃ O', NumInv Bl Bs Bo bm base A c L cn (acc ++ [x]) O' w' ∧ FrameBut O W w' ∧ ∀ k, O' k → O k ∨ W.heap.size ≤ k := by
  have HEnd : Aside0 (∀ w', Below W.heap.size W w' → ∃ O', NumInv Bl Bs Bo bm base A c L cn (acc ++ [x]) O' w' ∧ FrameBut O W w' ∧ ∀ k, O' k → O k ∨ W.heap.size ≤ k) := ⟨fun w' h => ⟨O, hI.skip hx h, FrameBut.of_below h, fun k hk => .inl hk⟩⟩
  obtain ⟨v, ms, co, fo, cl, cs, hL, hm, hms, hR, hO⟩ := hI
  have HL := Aside0.mk (Kd.R_reads' hL).2
  have HC := Aside0.mk hcn
  have HM := Aside0.mk hm
  have HX : Aside0 (decide (cn x ∈ numsOf cn [] acc) = true) := ⟨decide_eq_true hx⟩
  have HN := Aside0.mk hn
  clear hL hR hO hcn hm hms hx hn co fo
  generalize cn x = q at HC HX HN
  go_enter Tryd.func57, Tryd.ntmps57
  go_wp2_with (go_at_call 58; refine (impl_countOf.calls K A c L _ (q : Int) _ HL.out.2 HL.out.1 HC.out).mono ?_; rintro e wx ⟨rfl, hbx⟩; have csx := pw_cell_below hbx cs; have hlk := lookN (HM.out.below hbx) HN.out true HX.out; have HB := Aside0.mk hbx; clear hbx)
  exact bodyPost_end (v := .tuple #[]) (by simp [results, Tryd.results57, go_sem]) rfl ⟨rfl, HEnd.out _ HB.out⟩
theorem NumInv.put {Bl Bs Bo bm base : Nat} (hbase : base ≤ Bo) (hbm : base ≤ bm) {A : Option Addr} {c : Nat} {L : List S83} (hne : Bl ≠ Bo ∧ Bs ≠ Bo ∧ bm ≠ Bo ∧ Bl ≠ bm ∧ Bs ≠ bm ∧ some Bo ≠ (Value.slice A L.length c).ownBlock ∧ some bm ≠ (Value.slice A L.length c).ownBlock) {cn : Nat → Nat} {acc : List Nat} {O : Nat → Prop} {W wx wt w1 : World} {x ms : Nat} {A1 : Option Addr} {d1 : Nat} (hnew : cn x ∉ numsOf cn [] acc)
    (co : W.cell? ⟨Bo, 0, none⟩ = some (.slice A1 (numsOf cn [] acc).length d1)) (fo : W.frozen? ⟨Bo, 0, none⟩ = false) (cl : W.cell? ⟨Bl, 0, none⟩ = some (.slice A L.length c)) (cs : W.cell? ⟨Bs, 0, none⟩ = some (.map (some bm)))
    (hL : Kd.R k83 83 W base (fun k => some k = (Value.slice A L.length c).ownBlock) (.slice A L.length c) L)
    (hR : Kd.R (Kd.int .i64) 3 W base (fun k => k ≠ Bo ∧ k ≠ Bl ∧ k ≠ Bs ∧ k ≠ bm ∧ some k ≠ (Value.slice A L.length c).ownBlock) (.slice A1 (numsOf cn [] acc).length d1) ((numsOf cn [] acc).map fun n : Nat => (n : Int)))
    (hO : ∀ k, O k ↔ (k = Bo ∨ k = Bl ∨ k = Bs ∨ k = bm ∨ some k = (Value.slice A L.length c).ownBlock) ∨ some k = (Value.slice A1 (numsOf cn [] acc).length d1).ownBlock)
    (hbmW : bm < W.heap.size) (hms : ms = (numsOf cn [] acc).length) (hB : Below W.heap.size W wx) (ht : wx.mapTurned wt bm) (hM : MapIs wt Tryd.prog 3 bm (ms + 1) intV (inN (cn x :: numsOf cn [] acc)))
    {A2 : Option Addr} {n2 d2 : Nat} {o : Obj} (hr : Kd.R (Kd.int .i64) 3 w1 base (fun k => k ≠ Bo ∧ k ≠ Bl ∧ k ≠ Bs ∧ k ≠ bm ∧ some k ≠ (Value.slice A L.length c).ownBlock) (.slice A2 n2 d2) (((numsOf cn [] acc).map fun n : Nat => (n : Int)) ++ [((cn x : Nat) : Int)]))
    (hg : (wt.alloc o).grownBy w1 (Value.slice A1 (numsOf cn [] acc).length d1).ownBlock) (hat : (Value.slice A2 n2 d2).ownBlock = (Value.slice A1 (numsOf cn [] acc).length d1).ownBlock ∨ ∃ b, (Value.slice A2 n2 d2).ownBlock = some b ∧ (wt.alloc o).heap.size ≤ b) :
    ∃ O', NumInv Bl Bs Bo bm base A c L cn (acc ++ [x]) O' (w1.setCell ⟨Bo, 0, none⟩ (.slice A2 n2 d2)) ∧ FrameBut O W (w1.setCell ⟨Bo, 0, none⟩ (.slice A2 n2 d2)) ∧ ∀ k, O' k → O k ∨ W.heap.size ≤ k := by
  have bo : Bo < W.heap.size := World.block_lt_of_cell? W _ co
  have bl : Bl < W.heap.size := World.block_lt_of_cell? W _ cl
  have bs : Bs < W.heap.size := World.block_lt_of_cell? W _ cs
  have hz := hB.size
  have hz2 : wx.heap.size ≤ wt.heap.size := ht.grown.size
  have turned : ∀ k, k < W.heap.size → k ≠ bm → wt.heap[k]? = W.heap[k]? := fun k hk hn => (ht.grown.block k (by omega) (fun e => hn (by cases e; rfl))).trans (hB.block k hk)
  have kept : ∀ k, k < W.heap.size → k ≠ bm → some k ≠ (Value.slice A1 (numsOf cn [] acc).length d1).ownBlock → w1.heap[k]? = W.heap[k]? := fun k hk hn hne => (hg.block k (by simp; omega) hne).trans ((Below.heap_alloc _ _ _ (by omega)).trans (turned k hk hn))
  have own1 : ∀ k, some k = (Value.slice A1 (numsOf cn [] acc).length d1).ownBlock → k ≠ Bo ∧ k ≠ Bl ∧ k ≠ Bs ∧ k ≠ bm ∧ some k ≠ (Value.slice A L.length c).ownBlock := fun k hk => hR.1 k hk.symm
  have ho := kept Bo bo hne.2.2.1.symm (fun h => (own1 _ h).1 rfl)
  have hl := kept Bl bl hne.2.2.2.1 (fun h => (own1 _ h).2.1 rfl)
  have hs := kept Bs bs hne.2.2.2.2.1 (fun h => (own1 _ h).2.2.1 rfl)
  have hb1 : w1.heap[bm]? = wt.heap[bm]? := (hg.block bm (by simp; omega) (fun h => (own1 _ h).2.2.2.1 rfl)).trans (Below.heap_alloc _ _ _ (by omega))
  have set1 : ∀ k, k ≠ Bo → (w1.setCell ⟨Bo, 0, none⟩ (.slice A2 n2 d2)).heap[k]? = w1.heap[k]? := fun k hk => Below.heap_setCell _ _ _ _ hk
  have cell1 : ∀ {b : Nat} {u : Value}, b ≠ Bo → w1.cell? ⟨b, 0, none⟩ = some u → (w1.setCell ⟨Bo, 0, none⟩ (.slice A2 n2 d2)).cell? ⟨b, 0, none⟩ = some u := fun {b u} hb h => (World.cell?_of_block (w := w1) (a := ⟨b, 0, none⟩) (set1 b hb)).trans h
  have hsn : numsOf cn [] (acc ++ [x]) = numsOf cn [] acc ++ [cn x] := by rw [numsOf_snoc, if_neg hnew]
  refine ⟨fun k => (k = Bo ∨ k = Bl ∨ k = Bs ∨ k = bm ∨ some k = (Value.slice A L.length c).ownBlock) ∨ some k = (Value.slice A2 n2 d2).ownBlock, ⟨_, ms + 1, ?_, ?_, ?_, ?_, ?_, ?_, ?_, ?_, fun k => Iff.rfl⟩, ?_, fun k hk => ?_⟩
  · apply World.cell?_setCell_same; exact (World.cell?_of_block (w := W) (a := ⟨Bo, 0, none⟩) ho).trans co
  · rw [World.frozen?_setCell]; exact (World.frozen?_of_block (w := W) (a := ⟨Bo, 0, none⟩) ho).trans fo
  · exact cell1 hne.1 ((World.cell?_of_block (w := W) (a := ⟨Bl, 0, none⟩) hl).trans cl)
  · exact cell1 hne.2.1 ((World.cell?_of_block (w := W) (a := ⟨Bs, 0, none⟩) hs).trans cs)
  · exact Kd.R_move hL (fun k hk => (set1 k (fun h => hne.2.2.2.2.2.1 (h ▸ hk))).trans (kept k (Kd.R_lt hL k hk.symm) (fun h => hne.2.2.2.2.2.2 (h ▸ hk)) (fun h => (own1 k h).2.2.2.2 hk)))
  · rw [hsn]
    exact (hM.move ((set1 bm hne.2.2.1).trans hb1)).congr (fun a kl _ => by unfold inN; by_cases ha : a = cn x <;> by_cases hb : a ∈ numsOf cn [] acc <;> simp [ha, hb])
  · rw [hsn, hms, List.length_append]; rfl
  · rw [hsn, List.map_append]; exact Kd.R_far (p := ⟨Bo, 0, none⟩) hr (fun k hk => hk.1) _
  · exact (((((FrameBut.of_below (O := O) hB).turned ht (.inl ((hO bm).2 (.inl (.inr (.inr (.inr (.inl rfl)))))))).alloc _).grown hg (fun k hk => .inl ((hO k).2 (.inr hk.symm)))).setCell (.inl ((hO Bo).2 (.inl (.inl rfl)))) _)
  · rcases hk with hk | hk
    · exact .inl ((hO k).2 (.inl hk))
    · rcases hat with h | ⟨b, h, hb⟩
      · exact .inl ((hO k).2 (.inr (hk.trans h)))
      · rw [h] at hk
        cases hk
        exact .inr (by simp at hb; omega)
set_option maxRecDepth 100000 in
set_option maxHeartbeats 8000000 in
theorem numLit_yes (Bl Bs Bo bm base : Nat) (hbase : base ≤ Bo) (hbm : base ≤ bm) (A : Option Addr) (c : Nat) (L : List S83) (hne : Bl ≠ Bo ∧ Bs ≠ Bo ∧ bm ≠ Bo ∧ Bl ≠ bm ∧ Bs ≠ bm ∧ some Bo ≠ (Value.slice A L.length c).ownBlock ∧ some bm ≠ (Value.slice A L.length c).ownBlock) (cn : Nat → Nat) (K x : Nat) (hcn : impl_countOf.f K L (x : Int) = some ((cn x : Nat) : Int)) (hn : cn x ≤ 1000000)
    (acc : List Nat) (O : Nat → Prop) (W : World) (hlen : (numsOf cn [] acc).length ≤ 100000000) (hx : cn x ∉ numsOf cn [] acc) (hI : NumInv Bl Bs Bo bm base A c L cn acc O W) :
    Calls Tryd.prog 57 #[.int .u64 (x : Int), .pointer (some ⟨Bl, 0, none⟩), .pointer (some ⟨Bs, 0, none⟩), .pointer (some ⟨Bo, 0, none⟩)] W fun e w' => e = .returned (.tuple #[]) ∧ ∃ O', NumInv Bl Bs Bo bm base A c L cn (acc ++ [x]) O' w' ∧ FrameBut O W w' ∧ ∀ k, O' k → O k ∨ W.heap.size ≤ k := by
  obtain ⟨v, ms, co, fo, cl, cs, hL, hm, hms, hR, hO⟩ := hI
  have bo : Bo < W.heap.size := World.block_lt_of_cell? W _ co
  have bl : Bl < W.heap.size := World.block_lt_of_cell? W _ cl
  have bs : Bs < W.heap.size := World.block_lt_of_cell? W _ cs
  have bmW : bm < W.heap.size := hm.lt
  obtain ⟨A1, d1, rfl⟩ := Kd.R_slice hR
  have hll : ((numsOf cn [] acc).map fun n : Nat => (n : Int)).length = (numsOf cn [] acc).length := List.length_map _
  rw [hll] at co hO hR
  have HPut : Aside0 (∀ (wx wt w1 : World) (A2 : Option Addr) (n2 d2 : Nat) (o : Obj), Below W.heap.size W wx → wx.mapTurned wt bm → MapIs wt Tryd.prog 3 bm (ms + 1) intV (inN (cn x :: numsOf cn [] acc)) → Kd.R (Kd.int .i64) 3 w1 base (fun k => k ≠ Bo ∧ k ≠ Bl ∧ k ≠ Bs ∧ k ≠ bm ∧ some k ≠ (Value.slice A L.length c).ownBlock) (.slice A2 n2 d2) (((numsOf cn [] acc).map fun n : Nat => (n : Int)) ++ [((cn x : Nat) : Int)]) →
      (wt.alloc o).grownBy w1 (Value.slice A1 (numsOf cn [] acc).length d1).ownBlock → ((Value.slice A2 n2 d2).ownBlock = (Value.slice A1 (numsOf cn [] acc).length d1).ownBlock ∨ ∃ b, (Value.slice A2 n2 d2).ownBlock = some b ∧ (wt.alloc o).heap.size ≤ b) →
      ∃ O', NumInv Bl Bs Bo bm base A c L cn (acc ++ [x]) O' (w1.setCell ⟨Bo, 0, none⟩ (.slice A2 n2 d2)) ∧ FrameBut O W (w1.setCell ⟨Bo, 0, none⟩ (.slice A2 n2 d2)) ∧ ∀ k, O' k → O k ∨ W.heap.size ≤ k) :=
    ⟨fun wx wt w1 A2 n2 d2 o h1 h2 h3 h4 h5 h6 => NumInv.put hbase hbm hne hx co fo cl cs hL hR hO bmW hms h1 h2 h3 h4 h5 h6⟩
  have HNew : Aside0 (∀ (wz : World) (k : Nat), W.heap.size ≤ wz.heap.size → (wz.alloc (.cells #[.int .i64 ((cn x : Nat) : Int)] 3)).heap.size ≤ k → k ≠ Bo ∧ k ≠ Bl ∧ k ≠ Bs ∧ k ≠ bm ∧ some k ≠ (Value.slice A L.length c).ownBlock) := ⟨fun wz k h1 h2 => by
    simp at h2
    refine ⟨by omega, by omega, by omega, by omega, fun h => ?_⟩
    have := Kd.R_lt hL k h.symm
    omega⟩
  have HL := Aside0.mk (Kd.R_reads' hL).2
  have HC := Aside0.mk hcn
  have HM := Aside0.mk hm
  have HR := Aside0.mk hR
  have HX : Aside0 (decide (cn x ∈ numsOf cn [] acc) = false) := ⟨decide_eq_false hx⟩
  have HXn := Aside0.mk hx
  have HN := Aside0.mk hn
  have HMS : Aside0 (ms ≤ 100000000) := ⟨by omega⟩
  have HLN := Aside0.mk hlen
  have HBW : Aside0 (base ≤ W.heap.size) := ⟨by omega⟩
  have HBM := Aside0.mk hbm
  have HNE := Aside0.mk hne
  have HOWN : Aside0 (∀ k, some k = (Value.slice A1 (numsOf cn [] acc).length d1).ownBlock → k ≠ Bo ∧ k ≠ Bl ∧ k ≠ Bs ∧ k ≠ bm) := ⟨fun k hk => by have h := hR.1 k hk.symm; exact ⟨h.1, h.2.1, h.2.2.1, h.2.2.2.1⟩⟩
  have hnv : some Bo ≠ (Value.slice A1 (numsOf cn [] acc).length d1).ownBlock := fun h => (HOWN.out Bo h).1 rfl
  have hi5 : (Tryd.prog.info? 3).map (fun i => (i.zero, i.size, i.bytes)) = some (some (.int .i64 0), 1, 8) := by kernel_rfl
  clear hL hR hO hcn hm hms hx hn hlen hbase hbm hne hll
  generalize cn x = q at HC HX HN HXn HPut HNew
  generalize numsOf cn [] acc = S at HLN HX HXn HM HR HPut HOWN hnv co
  go_enter Tryd.func57, Tryd.ntmps57
  go_wp2_with (first
    | (go_at_call 58; refine (impl_countOf.calls K A c L _ (q : Int) _ HL.out.2 HL.out.1 HC.out).mono ?_; rintro e wx ⟨rfl, hbx⟩; have csx := pw_cell_below hbx cs; have hlk := lookN (HM.out.below hbx) HN.out false HX.out; obtain ⟨wt, hst, hMt, htt⟩ := storeN (HM.out.below hbx) HN.out HXn.out HMS.out; have HB := Aside0.mk hbx; clear hbx; have HT := Aside0.mk htt; have HMt := Aside0.mk hMt; clear htt hMt; have TB0 : Aside0 (∀ k, k < W.heap.size → k ≠ bm → wt.heap[k]? = W.heap[k]?) := ⟨fun k hk hn => (HT.out.grown.block k (by have := HB.out.size; omega) (fun e => hn (by cases e; rfl))).trans (HB.out.block k hk)⟩; have cot : wt.cell? ⟨Bo, 0, none⟩ = some (.slice A1 S.length d1) := (World.cell?_of_block (w := W) (a := ⟨Bo, 0, none⟩) (TB0.out Bo bo HNE.out.2.2.1.symm)).trans co; have fot : wt.frozen? ⟨Bo, 0, none⟩ = false := (World.frozen?_of_block (w := W) (a := ⟨Bo, 0, none⟩) (TB0.out Bo bo HNE.out.2.2.1.symm)).trans fo; have HRt : Aside0 (Kd.R (Kd.int .i64) 3 wt base (fun k => k ≠ Bo ∧ k ≠ Bl ∧ k ≠ Bs ∧ k ≠ bm ∧ some k ≠ (Value.slice A L.length c).ownBlock) (.slice A1 S.length d1) (S.map fun n : Nat => (n : Int))) := ⟨Kd.R_mono (Kd.R_move (Kd.R_tight rfl HR.out) (fun k h => TB0.out k (Kd.R_lt HR.out k h.symm) (HOWN.out k h).2.2.2)) (fun k h => HR.out.1 k h.symm)⟩; have HBb : Aside0 (Below base W wt) := ⟨((FrameBut.of_below (O := fun k => k = bm) HB.out).turned HT.out (.inl rfl)).toBelow HBW.out (fun k hk e => by have := HBM.out; omega)⟩; have hzt : W.heap.size ≤ wt.heap.size := (by have := HB.out.size; have := HT.out.grown.size; omega); have bz : Bo < wt.heap.size := (by omega); have HBA : Aside0 (∀ o, Bo < (wt.alloc o).heap.size) := ⟨fun o => by simp; omega⟩; have HZ := Aside0.mk hzt; have HSL : Aside0 ((S.map fun n : Nat => (n : Int)).length = S.length) := ⟨List.length_map _⟩; clear co fo cl)
    | (at_builtin; refine Kd.R_append_row (w0 := W) (h1 := fun _ => rfl) (Value.int .i64) (0 : Int) base rfl _ _ _ _ _ 8 rfl Tryd.underlying22 hi5 rfl (by decide) (.slice A1 S.length d1) (S.map fun n : Nat => (n : Int)) [(q : Int)] _ 1 _ (fun k => k ≠ Bo ∧ k ≠ Bl ∧ k ≠ Bs ∧ k ≠ bm ∧ some k ≠ (Value.slice A L.length c).ownBlock) rfl rfl ?xF ?xA ?xB ?xC ?xD ?xE ?_; (case xF => exact fun k hk => HNew.out _ _ HZ.out hk); (case xA => exact Kd.R_alloc HRt.out _); (case xB => exact lit1_C (Value.int .i64) (fun _ => rfl) 3 _ (q : Int)); (case xC => exact HBb.out.alloc (Nat.le_trans HBW.out HZ.out) _); (case xD => have hb_ := HBW.out; simp; omega); (case xE => have h_ := HSL.out; have h2_ := HLN.out; first | omega | (rw [h_]; omega)); intro v1 w1 ho hb hg hat; obtain ⟨A2, d2, rfl⟩ := Kd.R_slice ho; have cx : w1.cell? ⟨Bo, 0, none⟩ = some (.slice A1 S.length d1) := cell_grown hg ((World.cell?_alloc_lt _ _ _ bz).trans cot) hnv; have fx : w1.frozen? ⟨Bo, 0, none⟩ = false := (World.frozen?_of_block (a := ⟨Bo, 0, none⟩) (hg.block Bo (HBA.out _) hnv)).trans ((World.frozen?_of_block (w := wt) (a := ⟨Bo, 0, none⟩) (Below.heap_alloc _ _ _ bz)).trans fot); have HE := Aside0.mk (HPut.out _ _ _ A2 _ d2 _ HB.out HT.out HMt.out ho hg hat); clear ho hb hg hat))
  rw [List.length_append, HSL.out] at HE
  exact bodyPost_end (v := .tuple #[]) (by simp [results, Tryd.results57, go_sem]) rfl ⟨rfl, HE.out⟩
theorem numsOf_len (cn : Nat → Nat) : ∀ (ws acc : List Nat), (numsOf cn acc ws).length ≤ acc.length + ws.length
  | [], acc => Nat.le_refl _
  | x :: ws, acc => by
    unfold numsOf
    rw [List.foldl_cons]
    have h := numsOf_len cn ws (if cn x ∈ acc then acc else acc ++ [cn x])
    unfold numsOf at h
    have h2 : (if cn x ∈ acc then acc else acc ++ [cn x]).length ≤ acc.length + 1 := by
      split
      · exact Nat.le_succ _
      · rw [List.length_append]; exact Nat.le_refl _
    rw [List.length_cons]
    omega
theorem numCB (Bl Bs Bo bm base : Nat) (hbase : base ≤ Bo) (hbm : base ≤ bm) (A : Option Addr) (c : Nat) (L : List S83) (hne : Bl ≠ Bo ∧ Bs ≠ Bo ∧ bm ≠ Bo ∧ Bl ≠ bm ∧ Bs ≠ bm ∧ some Bo ≠ (Value.slice A L.length c).ownBlock ∧ some bm ≠ (Value.slice A L.length c).ownBlock) (cn : Nat → Nat) (K : Nat) (hcn : ∀ x, x < 2 ^ 60 → impl_countOf.f K L ((x : Nat) : Int) = some ((cn x : Nat) : Int)) (hn : ∀ x, cn x ≤ 1000000) :
    CB Tryd.prog 57 #[.pointer (some ⟨Bl, 0, none⟩), .pointer (some ⟨Bs, 0, none⟩), .pointer (some ⟨Bo, 0, none⟩)] en64 (fun n => n < 2 ^ 60) (64 ^ 4) (NumInv Bl Bs Bo bm base A c L cn) where
  call := fun acc O W x hlen hx hI => by
    by_cases hp : cn x ∈ numsOf cn [] acc
    · exact numLit_no Bl Bs Bo bm base A c L cn K x (hcn x hx) (hn x) acc O W hp hI
    · exact numLit_yes Bl Bs Bo bm base hbase hbm A c L hne cn K x (hcn x hx) (hn x) acc O W (by
        have h := numsOf_len cn acc []
        have h2 : acc.length < 16777216 := hlen
        simp at h
        omega) hp hI
  move := fun acc O W W' hI hz ho ht hu hk => hI.move hk
  lt := fun acc O W hI k hk => hI.lt k hk

end Go.Proofs.YtgakmcoeccmkbaaDoor.P


namespace Go.Proofs.YtgakmcoeccmkbaaDoor.P
open Go.RowKit Go.Proofs.YtgakmcoeccmkbaaDoorW.PrintWords Go.Proofs.YtgakmcoeccmkbaaDoorW.PrintLast Go.Proofs.YtgakmcoeccmkbaaDoorW.PrintMore
attribute [local go_sem] max2_int min2_int max_two min_two max_three min_three max_four min_four   -- for this text's walks alone
set_option linter.unusedVariables false
set_option linter.unusedSimpArgs false

theorem sort_any (base : Nat) (v : Value) (zs : List Int) (ok : Nat → Prop) (w : World) (hr : Kd.R (Kd.int .i64) 3 w base ok v zs) (hlen : zs.length ≤ 1000000) :
    Calls Tryd.prog 59 #[v] w fun e w' => e = .returned (.tuple #[]) ∧ Kd.R (Kd.int .i64) 3 w' base ok v (zs.mergeSort fun x y => decide (x ≤ y)) ∧ w.grownBy w' v.ownBlock := by
  have hown := Kd.own_of_R (enc := Value.int .i64) (h1 := fun _ => rfl) hr
  rcases hown.2 with ⟨rfl, h0⟩ | ⟨g, cap, cur, rfl, hg, hb, hn, hcap, hsz, htk⟩
  · have hz : zs = [] := List.length_eq_zero_iff.1 h0
    subst hz
    refine (Tryd.slices_Sort_int_none none 0 w).mono ?_
    rintro e w' ⟨rfl, rfl⟩
    exact ⟨rfl, by simpa using hr, ⟨rfl, rfl, rfl, Nat.le_refl _, fun k _ _ => rfl⟩⟩
  · refine (Tryd.slices_Sort_int g 0 cap zs w (holds_of_blockI hb (by rw [Nat.mul_one] at htk; exact htk)) (Array.getElem?_eq_some_iff.1 hb).1 (by omega)).mono ?_
    rintro e w' ⟨rfl, n, os, rfl⟩
    refine ⟨rfl, ?_, grownBy_sortedI _⟩
    have h := ownsRow_sortedI (n := n) (os := os) (ts := zs.mergeSort fun x y => decide (x ≤ y)) (ss := zs) (List.length_mergeSort zs) hg hb hn hcap hsz
    exact Kd.R_of_own (enc := Value.int .i64) (h1 := fun _ => rfl) (by rw [List.length_mergeSort]; exact h) hr.1

end Go.Proofs.YtgakmcoeccmkbaaDoor.P


namespace Go.Proofs.YtgakmcoeccmkbaaDoor.P
open Go.RowKit Go.Proofs.YtgakmcoeccmkbaaDoorW.PrintWords Go.Proofs.YtgakmcoeccmkbaaDoorW.PrintLast Go.Proofs.YtgakmcoeccmkbaaDoorW.PrintMore
attribute [local go_sem] max2_int min2_int max_two min_two max_three min_three max_four min_four   -- for this text's walks alone
set_option linter.unusedVariables false
set_option linter.unusedSimpArgs false

set_option maxRecDepth 100000 in
set_option maxHeartbeats 8000000 in
theorem numbers_right (K : Nat) (fW fH : Int) (A2 A3 : Option Addr) (c2 c3 : Nat) (l2 l3 : List Int) (m s al : Nat) (mv : Bool) (L : List S83) (cn : Nat → Nat) (nd : Nat → Int) (n : Nat) (w : World)
    (hr2 : Kd.C (Kd.int .i64) w A2 l2.length l2) (hc2 : l2.length ≤ c2) (hr3 : Kd.C (Kd.int .i64) w A3 l3.length l3) (hc3 : l3.length ≤ c3) (hT : TB w) (hm : m ≤ if mv then 2 else 4) (hri : impl_way_isRight.f K fW fH l2 l3 (m : Int) mv = some true) (ok : FigOK K fW fH l2 l3 s al L (fun x => ((cn x : Nat) : Int)) nd) (hn31 : n ≤ 31) (hcnn : ∀ x, cn x < n) :
    Calls Tryd.prog 42 #[.agg #[.int .i64 fW, .int .i64 fH, .slice A2 l2.length c2, .slice A3 l3.length c3, .int .i64 (m : Int), .bool mv]] w fun e w' => ∃ v, e = .returned (.tuple #[v, .bool true]) ∧ Kd.R (Kd.int .i64) 3 w' w.heap.size (fun _ => True) v (byR n ((waysW mv m al s).map cn)) ∧ Below w.heap.size w w' := by
  have hmm := @run_makeMap Tryd.prog
  have hmf : ∀ (fn : Fn) (first cap : Array Value) (w : World), (Instr.makeFunc fn first cap).run Tryd.prog w = .ok (.func fn first cap) w := fun _ _ _ _ => rfl
  have eg : ∀ args w, (callFunc 57 args).run Tryd.prog w = .ok (.enter 57 args) w := enters_of Tryd.func57 (by kernel_rfl) rfl
  have HE : Aside0 (∀ (W : World) (Bl Bs Bo bm : Nat) (A : Option Addr) (c : Nat) (v : Value), Below w.heap.size w W → w.heap.size ≤ Bl → w.heap.size ≤ Bs → w.heap.size ≤ Bo → w.heap.size ≤ bm → (Bl ≠ Bo ∧ Bs ≠ Bo ∧ bm ≠ Bo ∧ Bl ≠ bm ∧ Bs ≠ bm ∧ some Bo ≠ (Value.slice A L.length c).ownBlock ∧ some bm ≠ (Value.slice A L.length c).ownBlock) → W.cell? ⟨Bo, 0, none⟩ = some v → W.frozen? ⟨Bo, 0, none⟩ = false → W.cell? ⟨Bl, 0, none⟩ = some (.slice A L.length c) → W.cell? ⟨Bs, 0, none⟩ = some (.map (some bm)) →
      Kd.R k83 83 W w.heap.size (fun _ => True) (.slice A L.length c) L → MapIs W Tryd.prog 3 bm 0 intV (inN []) → Kd.R (Kd.int .i64) 3 W w.heap.size (fun k => k ≠ Bo ∧ k ≠ Bl ∧ k ≠ Bs ∧ k ≠ bm ∧ some k ≠ (Value.slice A L.length c).ownBlock) v [] →
      Calls Tryd.prog 56 #[.agg #[.int .i64 fW, .int .i64 fH, .slice A2 l2.length c2, .slice A3 l3.length c3, .int .i64 (m : Int), .bool mv], .func (.func 57) #[] #[.pointer (some ⟨Bl, 0, none⟩), .pointer (some ⟨Bs, 0, none⟩), .pointer (some ⟨Bo, 0, none⟩)]] W
        fun e w' => e = .returned (.tuple #[]) ∧ ∃ v', w'.cell? ⟨Bo, 0, none⟩ = some v' ∧ Kd.R (Kd.int .i64) 3 w' w.heap.size (fun k => k ≠ Bo) v' ((numsOf cn [] (waysW mv m al s)).map fun n : Nat => (n : Int)) ∧ Below w.heap.size w w') := ⟨fun W Bl Bs Bo bm A c v hW h1 h2 h3 h4 hne co fo cl cs hL hM hR => by
    refine (each_any _ _ _ (numCB Bl Bs Bo bm w.heap.size h3 h4 A c L hne cn K ok.hcn (fun x => by have := hcnn x; omega)) eg K fW fH A2 A3 c2 c3 l2 l3 m s al mv w (fun k => (k = Bo ∨ k = Bl ∨ k = Bs ∨ k = bm ∨ some k = (Value.slice A L.length c).ownBlock) ∨ some k = v.ownBlock) W hr2 hc2 hr3 hc3 hT hm ok.hs ok.hal ok.hset ok.ha hW (fun k hk => ?_)
      ⟨v, 0, co, fo, cl, cs, Kd.R_tight rfl hL, hM, rfl, hR, fun k => Iff.rfl⟩).mono ?_
    · rcases hk with (rfl | rfl | rfl | rfl | h) | h
      · exact h3
      · exact h1
      · exact h2
      · exact h4
      · exact Kd.R_base hL k h.symm
      · exact Kd.R_base hR k h.symm
    · rintro e w9 ⟨rfl, O', ⟨v', ms', co9, _, _, _, _, _, _, hR9, _⟩, hF, hO'⟩
      refine ⟨rfl, v', co9, by rw [List.nil_append] at hR9; exact Kd.R_mono hR9 (fun _ h => h.1), hW.trans (hF.toBelow hW.size (fun k hk h => ?_))⟩
      rcases h with (rfl | rfl | rfl | rfl | h) | h
      · omega
      · omega
      · omega
      · omega
      · have := Kd.R_base hL k h.symm; omega
      · have := Kd.R_base hR k h.symm; omega⟩
  have HSort : Aside0 (∀ (W : World) (Bo : Nat) (v : Value), Below w.heap.size w W → w.heap.size ≤ Bo → W.cell? ⟨Bo, 0, none⟩ = some v → Kd.R (Kd.int .i64) 3 W w.heap.size (fun k => k ≠ Bo) v ((numsOf cn [] (waysW mv m al s)).map fun n : Nat => (n : Int)) →
      Calls Tryd.prog 59 #[v] W fun e w' => e = .returned (.tuple #[]) ∧ w'.cell? ⟨Bo, 0, none⟩ = some v ∧ Kd.R (Kd.int .i64) 3 w' w.heap.size (fun _ => True) v (byR n ((waysW mv m al s).map cn)) ∧ Below w.heap.size w w') := ⟨fun W Bo v hW h1 co hR => by
    have hlen : ((numsOf cn [] (waysW mv m al s)).map fun n : Nat => (n : Int)).length ≤ 1000000 := by
      rw [← List.length_mergeSort (le := fun x y => decide (x ≤ y)), nums_sorted cn _ n (fun x _ => hcnn x)]
      unfold byR
      rw [List.length_map]
      have := List.length_filter_le (fun i => ((waysW mv m al s).map cn).contains i) (List.range n)
      rw [List.length_range] at this
      omega
    refine (sort_any w.heap.size v _ _ W hR hlen).mono ?_
    rintro e w9 ⟨rfl, hr9, hg9⟩
    rw [nums_sorted cn _ n (fun x _ => hcnn x)] at hr9
    have bo := World.block_lt_of_cell? W _ co
    refine ⟨rfl, (World.cell?_of_block (w := W) (a := ⟨Bo, 0, none⟩) (hg9.block Bo bo (fun h => hR.1 Bo h.symm rfl))).trans co, Kd.R_mono hr9 (fun _ _ => trivial), hW.trans ?_⟩
    refine ((FrameBut.of_below (O := fun k => some k = v.ownBlock) (Below.refl _ W)).grown hg9 (fun k hk => .inl hk.symm)).toBelow hW.size (fun k hk h => ?_)
    have := Kd.R_base hR k h.symm
    omega⟩
  have HR2 := Aside0.mk hr2
  have HR3 := Aside0.mk hr3
  have HQ2 := Aside0.mk hc2
  have HQ3 := Aside0.mk hc3
  have HS := Aside0.mk ok.hsq
  have HI := Aside0.mk hri
  clear hr2 hr3 hc2 hc3 hT hm hri ok hn31 hcnn eg
  generalize byR n ((waysW mv m al s).map cn) = R at HSort ⊢
  generalize (numsOf cn [] (waysW mv m al s)).map (fun n : Nat => (n : Int)) = R0 at HSort HE
  go_enter Tryd.func42, Tryd.ntmps42
  go_wp2_with fail
  go_at_call 47
  refine (impl_way_isRight.calls K fW fH A2 c2 l2 A3 c3 l3 (m : Int) mv true _ (Kd.C_alloc HR2.out _) HQ2.out (Kd.C_alloc HR3.out _) HQ3.out HI.out).mono ?_
  rintro e w0 ⟨rfl, hb⟩
  have Q0 : w0.heap[w.heap.size]? = some (.cells #[.int .i64 fW, .int .i64 fH, .slice A2 l2.length c2, .slice A3 l3.length c3, .int .i64 (m : Int), .bool mv] 42 (0, 0)) := blk_keep (heap_alloc_new w _) hb
  have HB0 := Aside0.mk (below_step (below_alloc (Below.refl w.heap.size w) _) hb)
  clear hb
  have HQ := Aside0.mk Q0
  have p0 : w0.cell? ⟨w.heap.size, 0, none⟩ = some (.int .i64 fW) := (blk_cell Q0 0).trans rfl
  have p1 : w0.cell? ⟨w.heap.size, 1, none⟩ = some (.int .i64 fH) := (blk_cell Q0 1).trans rfl
  have p2 : w0.cell? ⟨w.heap.size, 2, none⟩ = some (.slice A2 l2.length c2) := (blk_cell Q0 2).trans rfl
  have p3 : w0.cell? ⟨w.heap.size, 3, none⟩ = some (.slice A3 l3.length c3) := (blk_cell Q0 3).trans rfl
  clear Q0
  go_wp2_with fail
  go_at_call 54
  refine (impl_Figure_grid.calls fW fH A2 c2 l2 A3 c3 l3 fW fH _ (Kd.C_below HR2.out HB0.out) HQ2.out (Kd.C_below HR3.out HB0.out) HQ3.out rfl).mono ?_
  rintro e w1 ⟨rfl, hb⟩
  have HB := Aside0.mk (below_step HB0.out hb)
  have HQ1 := Aside0.mk (blk_keep HQ.out hb)
  clear hb p0 p1 p2 p3 HB0 HQ
  go_wp2_with fail
  go_at_call 55
  refine (impl_grid_squares.calls K fW fH L _ HS.out).mono ?_
  rintro e w2 ⟨v2, rfl, hr, hb⟩
  obtain ⟨A, c, rfl⟩ := Kd.R_slice hr
  have hz1 : w.heap.size < w1.heap.size := (Array.getElem?_eq_some_iff.1 HQ1.out).1
  have hz2 : w1.heap.size ≤ w2.heap.size := hb.size
  have HL := Aside0.mk (Kd.R_lower hr (show w.heap.size ≤ w1.heap.size by omega))
  have HB2 := Aside0.mk (below_step HB.out hb)
  have HQ2' := Aside0.mk (blk_keep HQ1.out hb)
  clear hr hb HB HQ1
  have hz3 : w.heap.size < w2.heap.size := by omega
  have p0 : w2.cell? ⟨w.heap.size, 0, none⟩ = some (.int .i64 fW) := (blk_cell HQ2'.out 0).trans rfl
  have p1 : w2.cell? ⟨w.heap.size, 1, none⟩ = some (.int .i64 fH) := (blk_cell HQ2'.out 1).trans rfl
  have p2 : w2.cell? ⟨w.heap.size, 2, none⟩ = some (.slice A2 l2.length c2) := (blk_cell HQ2'.out 2).trans rfl
  have p3 : w2.cell? ⟨w.heap.size, 3, none⟩ = some (.slice A3 l3.length c3) := (blk_cell HQ2'.out 3).trans rfl
  have p4 : w2.cell? ⟨w.heap.size, 4, none⟩ = some (.int .i64 (m : Int)) := (blk_cell HQ2'.out 4).trans rfl
  have p5 : w2.cell? ⟨w.heap.size, 5, none⟩ = some (.bool mv) := (blk_cell HQ2'.out 5).trans rfl
  have hz4 : w.heap.size < w2.heap.size + 1 := by omega
  have hz5 : w.heap.size < w2.heap.size + 1 + 1 := by omega
  have hz6 : w.heap.size < w2.heap.size + 1 + 1 + 1 := by omega
  have hz7 : w.heap.size < w2.heap.size + 1 + 1 + 1 + 1 := by omega
  go_wp2_with fail
  go_at_call 56
  refine (HE.out _ (w2.heap.size + 1) (w2.heap.size + 1 + 1 + 1 + 1) (w2.heap.size + 1 + 1) (w2.heap.size + 1 + 1 + 1) A c (.slice (some ⟨w2.heap.size, 0, none⟩) 0 0) ?xB (by omega) (by omega) (by omega) (by omega) ⟨by omega, by omega, by omega, by omega, by omega, fun h => ?xN, fun h => ?xM⟩ ?xo ?xf ?xl ?xs ?xL ?xm ?xR).mono ?_
  · exact below_alloc (below_alloc (below_alloc (below_alloc (below_alloc HB2.out _) _) _) _) _
  · have := Kd.R_lt HL.out _ h.symm; omega
  · have := Kd.R_lt HL.out _ h.symm; omega
  · exact pw_cell_below (below_alloc (below_alloc (Below.refl _ _) _) _) (cell_new (by simp) rfl)
  · exact ((World.frozen?_of_block (a := ⟨w2.heap.size + 1 + 1, 0, none⟩) ((Below.heap_alloc _ _ _ (by simp)).trans (Below.heap_alloc _ _ _ (by simp))))).trans (frozen_new (by simp))
  · exact pw_cell_below (below_alloc (below_alloc (below_alloc (Below.refl _ _) _) _) _) (cell_new (by simp) rfl)
  · exact cell_new (by simp) rfl
  · exact Kd.R_alloc (Kd.R_alloc (Kd.R_alloc (Kd.R_alloc (Kd.R_alloc HL.out _) _) _) _) _
  · have h1 := MapIs.made (((w2.alloc (.cells #[] 3)).alloc (.cells #[.slice A L.length c] 60)).alloc (.cells #[.slice (some ⟨w2.heap.size, 0, none⟩) 0 0] 22)) Tryd.prog 3 intV
    have h2 : (((w2.alloc (.cells #[] 3)).alloc (.cells #[.slice A L.length c] 60)).alloc (.cells #[.slice (some ⟨w2.heap.size, 0, none⟩) 0 0] 22)).heap.size = w2.heap.size + 1 + 1 + 1 := by simp
    rw [h2] at h1
    exact (h1.congr (fun c kl _ => by unfold inN; simp)).alloc _
  · refine Kd.R_mono (Kd.R_alloc (Kd.R_alloc (Kd.R_alloc (Kd.R_alloc (R_lit0 (Kd.int .i64) 3 w2 w.heap.size (by omega)) _) _) _) _) (fun k hk => ⟨by omega, by omega, by omega, by omega, fun h => ?_⟩)
    have := Kd.R_lt HL.out _ h.symm
    omega
  rintro e w9 ⟨rfl, v', co9, hr9, hb9⟩
  have HC9 := Aside0.mk (HSort.out _ (w2.heap.size + 1 + 1) v' hb9 (by omega) co9 hr9)
  clear hr9 hb9
  go_wp2_with fail
  go_at_call 59
  refine HC9.out.mono ?_
  rintro e w10 ⟨rfl, co10, hr10, hb10⟩
  have HR10 := Aside0.mk hr10
  have HB10 := Aside0.mk hb10
  clear hr10 hb10 co9 HC9
  go_wp2_with fail
  go_ret2
  exact ⟨_, rfl, HR10.out, HB10.out⟩
set_option maxRecDepth 100000 in
set_option maxHeartbeats 8000000 in
theorem numbers_no (K : Nat) (fW fH : Int) (A2 A3 : Option Addr) (c2 c3 : Nat) (l2 l3 : List Int) (mt : Int) (mv : Bool) (w : World)
    (hr2 : Kd.C (Kd.int .i64) w A2 l2.length l2) (hc2 : l2.length ≤ c2) (hr3 : Kd.C (Kd.int .i64) w A3 l3.length l3) (hc3 : l3.length ≤ c3) (hri : impl_way_isRight.f K fW fH l2 l3 mt mv = some false) :
    Calls Tryd.prog 42 #[.agg #[.int .i64 fW, .int .i64 fH, .slice A2 l2.length c2, .slice A3 l3.length c3, .int .i64 mt, .bool mv]] w fun e w' => ∃ v, e = .returned (.tuple #[v, .bool false]) ∧ Kd.R (Kd.int .i64) 3 w' w.heap.size (fun _ => True) v [] ∧ Below w.heap.size w w' := by
  have HI := Aside0.mk hri
  have HR2 := Aside0.mk hr2
  have HR3 := Aside0.mk hr3
  have HQ2 := Aside0.mk hc2
  have HQ3 := Aside0.mk hc3
  clear hr2 hr3 hc2 hc3 hri
  go_enter Tryd.func42, Tryd.ntmps42
  go_wp2_with (first
    | (go_at_call 47; refine (impl_way_isRight.calls K fW fH A2 c2 l2 A3 c3 l3 mt mv false _ (Kd.C_alloc HR2.out _) HQ2.out (Kd.C_alloc HR3.out _) HQ3.out HI.out).mono ?_; rintro e w1 ⟨rfl, hb⟩; have HB := Aside0.mk (below_step (below_alloc (Below.refl w.heap.size w) _) hb); clear hb))
  go_ret2
  exact ⟨_, rfl, Kd.R_nil _ _ _ _ _, HB.out⟩
theorem numbers_any (K : Nat) (fW fH : Int) (A2 A3 : Option Addr) (c2 c3 : Nat) (l2 l3 : List Int) (mt : Int) (mv few : Bool) (s al n : Nat) (L : List S83) (cn : Nat → Nat) (nd : Nat → Int) (w : World)
    (hr2 : Kd.C (Kd.int .i64) w A2 l2.length l2) (hc2 : l2.length ≤ c2) (hr3 : Kd.C (Kd.int .i64) w A3 l3.length l3) (hc3 : l3.length ≤ c3) (hT : TB w) (hfew : impl_isFew.f K fW fH l2 l3 = some few) (hok : few = true → FigOK K fW fH l2 l3 s al L (fun x => ((cn x : Nat) : Int)) nd) (hn : n ≤ 31) (hcn : ∀ x, cn x < n) :
    Calls Tryd.prog 42 #[.agg #[.int .i64 fW, .int .i64 fH, .slice A2 l2.length c2, .slice A3 l3.length c3, .int .i64 mt, .bool mv]] w fun e w' => ∃ v, e = .returned (.tuple #[v, .bool (byAns few s al n cn mt mv).2]) ∧ Kd.R (Kd.int .i64) 3 w' w.heap.size (fun _ => True) v (byAns few s al n cn mt mv).1 ∧ Below w.heap.size w w' := by
  have HI := isRight_f hfew mt mv
  unfold byAns
  by_cases h1 : rightM few mt mv = true
  · rw [if_pos h1]
    rw [h1] at HI
    have hfw : few = true ∧ 0 ≤ mt ∧ mt ≤ mostM mv := by unfold rightM at h1; simpa using h1
    obtain ⟨hfw, hm0, hm1⟩ := hfw
    obtain ⟨m, rfl⟩ := Int.eq_ofNat_of_zero_le hm0
    rw [Int.toNat_natCast]
    exact numbers_right K fW fH A2 A3 c2 c3 l2 l3 m s al mv L cn nd n w hr2 hc2 hr3 hc3 hT (by unfold mostM at hm1; cases mv <;> simp at hm1 ⊢ <;> omega) HI (hok hfw) hn hcn
  · rw [if_neg h1]
    rw [Bool.eq_false_iff.2 h1] at HI
    exact numbers_no K fW fH A2 A3 c2 c3 l2 l3 mt mv w hr2 hc2 hr3 hc3 HI

end Go.Proofs.YtgakmcoeccmkbaaDoor.P


namespace Go.Proofs.YtgakmcoeccmkbaaDoor.P
open Go.RowKit Go.Proofs.YtgakmcoeccmkbaaDoorW.PrintWords Go.Proofs.YtgakmcoeccmkbaaDoorW.PrintLast Go.Proofs.YtgakmcoeccmkbaaDoorW.PrintMore
attribute [local go_sem] max2_int min2_int max_two min_two max_three min_three max_four min_four   -- for this text's walks alone
set_option linter.unusedVariables false
set_option linter.unusedSimpArgs false

set_option maxHeartbeats 4000000 in
theorem impl_SquaresByMoves_any (K : Nat) (fW fH : Int) (A2 A3 : Option Addr) (c2 c3 : Nat) (l2 l3 : List Int) (mt : Int) (few : Bool) (s al n : Nat) (L : List S83) (cn : Nat → Nat) (nd : Nat → Int) (w : World) (hr2 : Kd.C (Kd.int .i64) w A2 l2.length l2) (hc2 : l2.length ≤ c2) (hr3 : Kd.C (Kd.int .i64) w A3 l3.length l3) (hc3 : l3.length ≤ c3) (hT : TB w) (hfew : impl_isFew.f K fW fH l2 l3 = some few) (hok : few = true → FigOK K fW fH l2 l3 s al L (fun x => ((cn x : Nat) : Int)) nd) (hn : n ≤ 31) (hcn : ∀ x, cn x < n) :
    Calls Tryd.prog 27 #[.agg #[.int .i64 fW, .int .i64 fH, .slice A2 l2.length c2, .slice A3 l3.length c3], .int .i64 mt] w fun e w' => ∃ v, e = .returned (.tuple #[v, .bool (byAns few s al n cn mt true).2]) ∧ Kd.R (Kd.int .i64) 3 w' w.heap.size (fun _ => True) v (byAns few s al n cn mt true).1 ∧ Below w.heap.size w w' := by
  have HC := Aside0.mk (numbers_any K fW fH A2 A3 c2 c3 l2 l3 mt true few s al n L cn nd (w.alloc (.cells #[.int .i64 fW, .int .i64 fH, .slice A2 l2.length c2, .slice A3 l3.length c3] 28)) (Kd.C_alloc hr2 _) hc2 (Kd.C_alloc hr3 _) hc3 (hT.below (below_alloc (Below.refl _ _) _)) hfew hok hn hcn)
  clear hr2 hc2 hr3 hc3 hT hfew hok hn hcn
  generalize byAns few s al n cn mt true = R at HC ⊢
  obtain ⟨R1, R2⟩ := R
  go_enter Tryd.func27, Tryd.ntmps27
  go_wp2_with ((go_at_call 42; refine HC.out.mono ?_; rintro e w1 ⟨v, rfl, ho, hb⟩; have HO := Aside0.mk (Kd.R_lower ho (show w.heap.size ≤ _ by simp)); have HB := Aside0.mk (below_step (below_alloc (Below.refl w.heap.size w) _) hb); clear hb ho))
  go_ret2
  exact ⟨_, rfl, HO.out, HB.out⟩

end Go.Proofs.YtgakmcoeccmkbaaDoor.P


namespace Go.Proofs.YtgakmcoeccmkbaaDoor.P
open Go.RowKit Go.Proofs.YtgakmcoeccmkbaaDoorW.PrintWords Go.Proofs.YtgakmcoeccmkbaaDoorW.PrintLast Go.Proofs.YtgakmcoeccmkbaaDoorW.PrintMore
attribute [local go_sem] max2_int min2_int max_two min_two max_three min_three max_four min_four   -- for this text's walks alone
set_option linter.unusedVariables false
set_option linter.unusedSimpArgs false

def spec_SquaresByMoves.f (k : Nat) (a0_0 : Int) (a0_1 : Int) (l0_2 : List Int) (l0_3 : List Int) (a1 : Int) : Option (List Int × Bool) := (spec_moBy.f k a0_0 a0_1 l0_2 l0_3 a1 true).bind fun bt299 => (some (bt299.1, bt299.2))
theorem spec_SquaresByMoves.mono : ∀ a0 a1 a2 a3 a4 k, LeO (spec_SquaresByMoves.f k a0 a1 a2 a3 a4) (spec_SquaresByMoves.f (k + 1) a0 a1 a2 a3 a4) := by
  intro a0 a1 a2 a3 a4 k
  unfold spec_SquaresByMoves.f
  repeat' first
      | (with_reducible exact spec_moBy.mono _ _ _ _ _ _ _)
      | (with_reducible exact LeO.refl _)
      | (with_reducible exact LeO.none _)
      | (with_reducible refine LeO.ite ?_ ?_)
      | (with_reducible refine LeO.bind ?_ (fun _ => ?_))
      | exact spec_moBy.mono _ _ _ _ _ _ _
      | exact LeO.none _
      | refine LeO.ite ?_ ?_
      | refine LeO.bind ?_ (fun _ => ?_)
set_option maxHeartbeats 8000000 in
set_option maxRecDepth 100000 in
theorem spec_SquaresByMoves.calls (k : Nat) (a0_0 : Int) (a0_1 : Int) (A0_2 : Option Addr) (c0_2 : Nat) (l0_2 : List Int) (A0_3 : Option Addr) (c0_3 : Nat) (l0_3 : List Int) (a1 : Int) (r1 : List Int) (r2 : Bool) (w : World) (hr0_2 : Kd.C (Kd.int .i64) w A0_2 l0_2.length l0_2) (hc0_2 : l0_2.length ≤ c0_2) (hr0_3 : Kd.C (Kd.int .i64) w A0_3 l0_3.length l0_3) (hc0_3 : l0_3.length ≤ c0_3) (h : spec_SquaresByMoves.f k a0_0 a0_1 l0_2 l0_3 a1 = some (r1, r2)) :
    Calls Tryd.prog 26 #[.agg #[.int .i64 a0_0, .int .i64 a0_1, .slice A0_2 l0_2.length c0_2, .slice A0_3 l0_3.length c0_3], .int .i64 a1] w fun e w' => ∃ v0_ : Value, e = .returned (.tuple #[v0_, .bool r2]) ∧ Kd.R (Kd.int .i64) 3 w' w.heap.size (fun _ => True) v0_ r1 ∧ Below w.heap.size w w' := by
  have hu28 := Tryd.underlying28
  have HR0_2 := Aside0.mk hr0_2
  have HC0_2 := Aside0.mk hc0_2
  clear hr0_2 hc0_2
  have HR0_3 := Aside0.mk hr0_3
  have HC0_3 := Aside0.mk hc0_3
  clear hr0_3 hc0_3
  have HB := Aside0.mk (Below.refl w.heap.size w)
  have H : ((spec_moBy.f k a0_0 a0_1 l0_2 l0_3 a1 true).bind fun bt299 => (some (bt299.1, bt299.2))) = some (r1, r2) := h
  clear h
  replace H := Option.bind_eq_some_iff.mp H
  obtain ⟨⟨t299, t302⟩, A30, H⟩ := H
  replace H : (some (t299, t302)) = some (r1, r2) := H
  have A3 := Aside0.mk A30
  clear A30
  simp only [Option.some.injEq, Prod.mk.injEq] at H
  obtain ⟨rfl, rfl⟩ := H
  go_enter Tryd.func26, Tryd.ntmps26
  go_wp2_with (first | ((with_reducible refine gate_dst (N := 2) rfl ?_); refine box_event ?hg (N := 2) ?hd (cs := #[.int .i64 a0_0, .int .i64 a0_1, .slice A0_2 l0_2.length c0_2, .slice A0_3 l0_3.length c0_3]) (t := 28) ?hr ?_; (case hd => rfl); (case hg => rfl); (case hr => first | (go_simp; done) | (go_simp; rfl)); intro gb298 hg w4 hbox hb; have n0_ := Aside0.mk (below_step (by repeat (first | (with_reducible first | exact HB.out | apply below_alloc | apply pw_below_drewN | apply below_drew1) | exact HB.out)) hb); have n1_ := Aside0.mk (hbox); have n2_ := Aside0.mk ((by rw [hg]; exact (below_size (by repeat (first | (with_reducible first | exact HB.out | apply below_alloc | apply pw_below_drewN | apply below_drew1) | exact HB.out))) : w.heap.size ≤ gb298)); have n3_ := Aside0.mk ((by rw [hg]; exact (below_size (by repeat (first | (with_reducible first | exact HB.out | apply below_alloc | apply pw_below_drewN | apply below_drew1) | exact HB.out))) : w.heap.size ≤ gb298)); clear HB; have HB := n0_; have BK298 := n1_; have GW298 := n2_; have GE298 := n3_; clear n0_ n1_ n2_ n3_; clear hb hbox hg; have hcz5_0 : w4.cell? ⟨gb298, 0, none⟩ = some (.int .i64 a0_0) := (blk_cell BK298.out 0).trans rfl; have hcz5_1 : w4.cell? ⟨gb298, 1, none⟩ = some (.int .i64 a0_1) := (blk_cell BK298.out 1).trans rfl; have hcz5_2 : w4.cell? ⟨gb298, 2, none⟩ = some (.slice A0_2 l0_2.length c0_2) := (blk_cell BK298.out 2).trans rfl; have hcz5_3 : w4.cell? ⟨gb298, 3, none⟩ = some (.slice A0_3 l0_3.length c0_3) := (blk_cell BK298.out 3).trans rfl; have hfz5_0 := blk_frozen BK298.out 0; have hfz5_1 := blk_frozen BK298.out 1; have hfz5_2 := blk_frozen BK298.out 2; have hfz5_3 := blk_frozen BK298.out 3) | ((with_reducible refine gate_callee (f := 41) rfl ?_); refine goesL_ (some 8) rfl rfl Tryd.func41 (by kernel_rfl) rfl #[.agg #[.int .i64 a0_0, .int .i64 a0_1, .slice A0_2 l0_2.length c0_2, .slice A0_3 l0_3.length c0_3], .int .i64 a1, .bool true] rfl (by (try simp only [List.map_toArray, List.map_cons, List.map_nil]); first | done | rfl | (simp only [List.length_drop, List.length_take]; rfl)) ?_; (with_reducible refine (spec_moBy.calls k a0_0 a0_1 _ _ l0_2 _ _ l0_3 a1 true t299 t302 _ ?side1 ?side2 ?side3 ?side4 A3.out).mono ?_); (case side1 => repeat (first | exact (Kd.C_below HR0_2.out HB.out) | (with_reducible refine Kd.C_alloc ?_ _) | (with_reducible refine Kd.C_drewN ?_ _) | (with_reducible refine Kd.C_drew ?_))); (case side2 => exact HC0_2.out); (case side3 => repeat (first | exact (Kd.C_below HR0_3.out HB.out) | (with_reducible refine Kd.C_alloc ?_ _) | (with_reducible refine Kd.C_drewN ?_ _) | (with_reducible refine Kd.C_drew ?_))); (case side4 => exact HC0_3.out); rintro e w6 ⟨v300, rfl, ho0, hb⟩; refine ⟨_, rfl, ?_⟩; have n0_ := Aside0.mk (Kd.R_lower ho0 (below_size (by repeat (first | (with_reducible first | exact HB.out | apply below_alloc | apply pw_below_drewN | apply below_drew1 | refine below_set ?_ GE298.out) | exact HB.out)))); have n1_ := Aside0.mk (blk_below (g := gb298) (o := .cells #[.int .i64 a0_0, .int .i64 a0_1, .slice A0_2 l0_2.length c0_2, .slice A0_3 l0_3.length c0_3] 28 (0, 0)) (by (with_reducible repeat (first | refine blk_drewN ?_ _ | refine blk_drew ?_ | refine blk_alloc ?_ _)); exact BK298.out) hb); have n2_ := Aside0.mk (below_step (by repeat (first | (with_reducible first | exact HB.out | apply below_alloc | apply pw_below_drewN | apply below_drew1 | refine below_set ?_ GE298.out) | exact HB.out)) hb); clear BK298; clear HB; have HO301 := n0_; have BK298 := n1_; have HB := n2_; clear n0_ n1_ n2_; (try clear hb); (try clear hb2); (try clear hk); (try clear hi); (try clear ho0)))
  go_ret2
  exact ⟨_, by first | rfl | (simp [errW_none, errW_some] <;> rfl) | (simp [*, errW_none, errW_some] <;> rfl), by (with_reducible repeat (first | apply Kd.R_alloc | apply Kd.R_drewN | apply Kd.R_drew)); exact HO301.out, by repeat (first | (with_reducible first | exact HB.out | apply below_alloc | apply pw_below_drewN | apply below_drew1 | refine below_set ?_ GE298.out) | exact HB.out)⟩

end Go.Proofs.YtgakmcoeccmkbaaDoor.P


/- What the row's listed variable, math/bits' table, gives a walk; a world in which it is laid. -/
namespace Go.Proofs.YtgakmcoeccmkbaaDoor.Laid
open Go.RowKit
theorem mapM_at {α β : Type} {f : α → Option β} : ∀ {l : List α} {xs : List β}, l.mapM f = some xs → ∀ (j : Nat) (x : α), l[j]? = some x → ∃ y, xs[j]? = some y ∧ f x = some y
  | [], xs, _, j, x, hj => by simp at hj
  | a :: l, xs, h, j, x, hj => by
    rw [List.mapM_cons] at h
    obtain ⟨y, hy, h⟩ := Option.bind_eq_some_iff.1 h
    obtain ⟨ys, hys, h⟩ := Option.bind_eq_some_iff.1 h
    obtain rfl := Option.some.inj h
    cases j with
    | zero => simp at hj; subst hj; exact ⟨y, rfl, hy⟩
    | succ j => exact mapM_at hys j x (by simpa using hj)
theorem int_of_trod {H : Type} {enc : TypeId × Value → H} {P : Program} {w : World} {base : Nat} {sp : Nat → Bool} {held : Bool} {fuel : Nat} {t : TypeId} {k : IntKind} {c : Value} {y : DataW H × List MemPlace}
    (ht : P.underlying t = some (.int k)) (h : DataW.trod enc P w base sp held fuel t [c] = some y) : ∃ n, c = .int k n ∧ y = (.lit (.int k n), []) := by
  cases fuel with
  | zero => simp [DataW.trod] at h
  | succ fuel =>
    cases c <;> simp [DataW.trod, ht] at h
    rename_i k' n
    obtain ⟨⟨rfl, _⟩, rfl⟩ := h
    exact ⟨n, rfl, rfl⟩
theorem bytes_of_trod {H : Type} {enc : TypeId × Value → H} {P : Program} {w : World} {base : Nat} {sp : Nat → Bool} {held : Bool} {fuel n : Nat} {t e : TypeId} {l : List Value} {tab : List Nat} {ps : List MemPlace} (ht : P.underlying t = some (.array n e)) (he : P.underlying e = some (.int .u8)) (h1 : P.cellsOf t = n) (h2 : P.cellsOf e = 1)
    (h : DataW.trod enc P w base sp held fuel t l = some (.agg (tab.map fun k : Nat => .lit (.int .u8 (k : Int))), ps)) (j : Nat) (hj : j < n) : l[j]? = some (.int .u8 ((tab.getD j 0 : Nat) : Int)) := by
  cases fuel with
  | zero => simp [DataW.trod] at h
  | succ fuel =>
    simp only [DataW.trod, ht, h1, h2] at h
    split at h
    · rename_i hl
      obtain ⟨xs, hxs, hy⟩ := Option.map_eq_some_iff.1 h
      obtain ⟨y, hyj, hf⟩ := mapM_at hxs j j (by rw [List.getElem?_range hj])
      obtain ⟨c, hc⟩ : ∃ c, l[j]? = some c := ⟨l[j]'(by omega), List.getElem?_eq_getElem _⟩
      rw [Nat.mul_one, show (l.drop j).take 1 = [c] from by rw [List.drop_eq_getElem_cons (by omega)]; rw [List.getElem?_eq_getElem (by omega)] at hc; injection hc with hc; rw [hc]; rfl] at hf
      obtain ⟨m, rfl, rfl⟩ := int_of_trod he hf
      have h3 := (Prod.mk.inj hy).1
      injection h3 with h3
      have h4 := congrArg (fun q => q[j]?) h3
      simp only [List.getElem?_map, hyj, Option.map_some] at h4
      rw [hc, List.getD_eq_getElem?_getD]
      cases ht2 : tab[j]? with
      | none => rw [ht2] at h4; cases h4
      | some q =>
        rw [ht2] at h4
        simp at h4
        rw [h4]; rfl
    · cases h
theorem gnum : Tryd.prog.globalNamed "math/bits.deBruijn64tab" = some 0 := by kernel_rfl
theorem gtype : (Tryd.prog.globals[0]?).map (·.type) = some 120 := by kernel_rfl
theorem cellsT : Tryd.prog.cellsOf 120 = 64 := by kernel_rfl
theorem cellsE : Tryd.prog.cellsOf 5 = 1 := by kernel_rfl
theorem tabIs : (Rows.laid_math_bits_deBruijn64tab : DataW Unit) = .agg (Lib.deBruijn64tab.map fun k => .lit (.int .u8 ((k : Nat) : Int))) := by rfl
theorem plain (w : World) : laidMetH Tryd.prog [("math/bits.deBruijn64tab", Rows.laid_math_bits_deBruijn64tab)] w → laidMet Tryd.prog [("math/bits.deBruijn64tab", Rows.laid_math_bits_deBruijn64tab)] w := fun h => h
theorem tb {W : World} (h : laidMetH Tryd.prog [("math/bits.deBruijn64tab", Rows.laid_math_bits_deBruijn64tab)] W) : P.TB W := by
  obtain ⟨ps, ⟨g, t, cs, fuel, p, q, hg, ht, hvar, hd, _, _⟩, _⟩ := plain W h
  obtain rfl := Option.some.inj (gnum.symm.trans hg)
  obtain rfl := Option.some.inj (gtype.symm.trans ht)
  intro j hj
  rw [World.var?_cell hg hvar j]
  rw [tabIs] at hd
  have := bytes_of_trod Tryd.underlying120 Tryd.underlying5 cellsT cellsE hd j hj
  rw [← Array.getElem?_toList]
  exact this
def cells64 : Array Value := (Lib.deBruijn64tab.map fun k => Value.int .u8 ((k : Nat) : Int)).toArray
noncomputable def laidWorld (os : Os) : World :=
  { World.holding Tryd.prog os ⟨#[], #[], []⟩ with heap := (World.holding Tryd.prog os ⟨#[], #[], []⟩).heap.modify 0 fun
      | .cells _ t frozen => .cells cells64 t frozen
      | o => o }
set_option maxRecDepth 100000 in
theorem laidWorld_met (os : Os) (args : Array Value) : laidMetH Tryd.prog [("math/bits.deBruijn64tab", Rows.laid_math_bits_deBruijn64tab)] ((laidWorld os).forCall (fun _ _ => 0) ⟨#[], args, []⟩).memory :=
  laidMetH_of_parts (laidMet_of_run' 8 (by kernel_rfl) (by kernel_rfl)) (by kernel_rfl)
end Go.Proofs.YtgakmcoeccmkbaaDoor.Laid


namespace Go.Proofs.YtgakmcoeccmkbaaDoor.fnExactSquaresByMoves
open Go.ChangeShapes Go.WideShapes Go.ChangeAt Go.RowKit Go.Proofs.YtgakmcoeccmkbaaDoorW.PrintWords Go.Joins
set_option linter.unusedVariables false
theorem own : ownKnob Tryd.prog.godebug = none := Closed.own
theorem laidOut : laidOutB Tryd.prog = true := Closed.laidOut
def IsRow (k : IntKind) (w : World) (a : Option Addr) (len cap : Nat) (zs : List Int) : Prop :=
  (a = none ∧ len = 0 ∧ cap = 0 ∧ zs = []) ∨
  ∃ x, a = some x ∧ len ≤ cap ∧ cap ≤ maxLen ∧ zs.length = cap ∧ (∀ i, i < zs.length → w.cell? (x.add i) = some (.int k (zs.getD i 0))) ∧ ∀ n ∈ zs, (Lit.int k n).wf = true
theorem opened {H : Type} {enc : TypeId × Value → H} {W : World} {m : Nat} {c : Value} {y : DataW H × List MemPlace} (hy : DataW.trod enc Tryd.prog W 0 (fun _ => true) true m 22 [c] = some y) :
    ∃ a len cap zs, c = .slice a len cap ∧ IsRow .i64 W a len cap zs := by
  rcases open_ints Tryd.underlying22 Tryd.underlying3 (by kernel_rfl) hy with ⟨hcs, _⟩ | ⟨x, l, c, zs, hcs, _, hl, hm, hz, _, hcell, hwz⟩
  · simp at hcs
    exact ⟨none, 0, 0, [], hcs, .inl ⟨rfl, rfl, rfl, rfl⟩⟩
  · simp at hcs
    exact ⟨some x, l, c, zs, hcs, .inr ⟨_, rfl, hl, hm, by simpa using hz, hcell, hwz⟩⟩
theorem walk (a b : Int) (A2 : Option Addr) (n2 c2 : Nat) (z2 : List Int) (A3 : Option Addr) (n3 c3 : Nat) (z3 : List Int) (x1 : Int) (w : World) (w2 : IsRow .i64 w A2 n2 c2 z2) (w3 : IsRow .i64 w A3 n3 c3 z3) (y2 : n2 * 8 ≤ 140737488351232) (y3 : n3 * 8 ≤ 140737488351232) (hT : P.TB w) :
    Calls Tryd.prog 9 #[.agg #[.int .i64 a, .int .i64 b, .slice A2 n2 c2, .slice A3 n3 c3], .int .i64 x1] w fun e w' => e = .returned (.bool true) ∧ Below w.heap.size w w' := by
  obtain ⟨l2, rfl, hr2, hm2, hw2, hc2⟩ := ReadsInt.ofRowC w2
  obtain ⟨l3, rfl, hr3, hm3, hw3, hc3⟩ := ReadsInt.ofRowC w3
  have k2 := Kd.C_of_reads (d := (0 : Int)) (h1 := fun _ => rfl) hr2
  have k3 := Kd.C_of_reads (d := (0 : Int)) (h1 := fun _ => rfl) hr3
  by_cases hbig : l2.length + l3.length ≤ 1000000
  · have b2 : l2.length ≤ 1000000 := Nat.le_trans (Nat.le_add_right _ _) hbig
    have b3 : l3.length ≤ 1000000 := Nat.le_trans (Nat.le_add_left _ _) hbig
    obtain ⟨s, al, L, cn, nd, n, hok, hn, hcn, hpure⟩ := P.SquaresBy_pure (w := a) (h := b) (a := l2) (u := l3) b2 b3 20000001 (by decide)
    exact P.law_SquaresByMoves_yes a b A2 c2 l2 A3 c3 l3 x1 4000001 _ _ P.TB (fun _ _ h hb => h.below hb) w k2 hc2 k3 hc3 hT hbig (P.byAns_len (P.fewB a b l2 l3) s al n cn x1 true hn) (Nat.lt_succ_self _)
      (fun B2 d2 B3 d3 W hu2 hd2 hu3 hd3 hG => P.spec_SquaresByMoves.calls 20000001 a b B2 d2 l2 B3 d3 l3 x1 _ _ W hu2 hd2 hu3 hd3 (by unfold P.spec_SquaresByMoves.f; rw [hpure x1 true]; rfl))
      (fun B2 d2 B3 d3 W hu2 hd2 hu3 hd3 hG => P.impl_SquaresByMoves_any 20000001 a b B2 B3 d2 d3 l2 l3 x1 (P.fewB a b l2 l3) s al n L cn nd W hu2 hd2 hu3 hd3 hG (P.isFew_f a b l2 l3 b2 b3 _ (by decide)) hok hn hcn)
  · exact P.law_SquaresByMoves_no a b A2 c2 l2 A3 c3 l3 x1 w k2 hc2 k3 hc3 (by clear hbig; omega) (by clear hbig; omega) hbig
theorem joined_mk (P : Program) (f : FuncId) (fn : Func) (s : ChangeSpec) (c : OpenClaim) (k0 : (c.wf (OpenSpec.ofChange s)) = true) (k1 : (laidOutB P) = true) (k2 : (mapsRowed P) = true) (k3 : (fn.params.all (P.readableRec ·)) = true) (k4 : (namedTie P c.named s.vars) = true) (k5 : ((c.stops == [])) = true) (k6 : ((P.stops == [])) = true) (k7 : ((c.knobs == [])) = true) (k8 : ((P.stopKnobs == [])) = true) (k9 : ((c.inPlace == P.inPlace f)) = true) (k10 : ((c.unfollowed == P.unfollowed f)) = true) (k11 : ((c.recurses == P.recurses f)) = true) (k12 : ((c.named == P.varsNamed f)) = true) (k13 : ((c.maps == (fn.params.toList ++ s.plain.varTypes P).any (P.mapsRec ·))) = true) (k14 : ((c.ifaces == (fn.params.toList ++ s.plain.varTypes P).any (P.ifacesRec ·))) = true) (k15 : ((c.mapsOut == P.mapsAmong fn.resultTypes.toList)) = true) (k16 : ((c.loops == (fn.params.toList ++ s.plain.varTypes P).any (P.loopsFrom ·))) = true) (k17 : ((c.wideKeys == (fn.params.toList ++ s.plain.varTypes P ++ fn.resultTypes.toList).any (P.wideKeysFrom ·))) = true) (k18 : (s.vars.all (P.varReadable ·)) = true) (k19 : (fn.resultTypes.all (fun t => P.readableRec t && decide (t < P.types.size))) = true) (k20 : ((c.ifacesOut == fn.resultTypes.toList.any (P.ifacesRec ·))) = true) (k21 : ((c.loopsOut == fn.resultTypes.toList.any (P.loopsFrom ·))) = true) (k22 : ((c.plainKeys == P.plainKeys)) = true) (k23 : (c.shortTexts.isNone) = true) (k24 : (P.stopsHeard) = true) (k25 : (P.mayEnter) = true) (k26 : ((c.lifted == P.liftsFinal)) = true) (k27 : ((P.make == some c.make)) = true) (hd : c.domain.isEmpty = true) (k28 : (c.kinds == []) = true) (k29 : ((c.pinned == c.pinnedBy)) = true) (k30 : ((c.veiled == (fn.params.toList ++ s.plain.varTypes P ++ fn.resultTypes.toList).any (P.veiledRec ·))) = true) (k31 : (c.veiledFits P fn.params.toList (fn.params.toList ++ s.plain.varTypes P ++ fn.resultTypes.toList)) = true) : joinedFacts P f fn s c = true := by
  unfold joinedFacts
  simp only [hd, if_true, k0, k1, k2, k3, k4, k5, k6, k7, k8, k9, k10, k11, k12, k13, k14, k15, k16, k17, k18, k19, k20, k21, k22, k23, k24, k25, k26, k27, k28, k29, k30, k31, Bool.and_self]
abbrev LAID : List (String × DataW Unit) := [("math/bits.deBruijn64tab", Rows.laid_math_bits_deBruijn64tab)]
set_option maxRecDepth 100000 in
theorem lifted (os : Os) (started : os.Started) (H : Type) (enc : TypeId × Value → H) :
    ReturnsInHanded {} Tryd.checked os 9 .any (fun w args => (Rows.fnExactSquaresByMovesSpec.pre enc Tryd.prog Tryd.f9 [] false w args ∧ laidMetH Tryd.prog LAID w) ∧ sizedMet enc Tryd.prog Tryd.f9 (OpenSpec.ofChange Rows.fnExactSquaresByMovesSpec) false w args) (Rows.fnExactSquaresByMovesSpec.post enc Tryd.prog Tryd.f9 false true false false) := by
  refine returnsInHanded_of_change_and (C := Tryd.checked) (X := fun w _ => laidMetH Tryd.prog LAID w) (fun _ _ _ hh h => h.of_heap hh) own started (by kernel_rfl) Tryd.func9 (ChangeSpec.witness_at (enc := enc) (C := Tryd.checked) (os := os) (X := fun w _ => laidMetH Tryd.prog LAID w) false (Laid.laidWorld os) #[.agg #[.int .i64 0, .int .i64 0, .slice none 0 0, .slice none 0 0], .int .i64 0] 8 rfl (by kernel_rfl) (by kernel_rfl) (by kernel_rfl) (by kernel_rfl) (by kernel_rfl) (Laid.laidWorld_met os _)) ?_
  intro W base args ds gs before hval0 hW hcnd hsz0 hL _
  have hT : P.TB W := Laid.tb hL
  have hsz : (DataW.weightsEach Tryd.prog (Tryd.f9.params.toList ++ Rows.fnExactSquaresByMovesSpec.plain.varTypes Tryd.prog) (ds ++ gs)).all (· ≤ reachBytes) = true := hsz0
  have hval : ∀ (j : Nat) t v, Tryd.f9.params[j]? = some t → args[j]? = some v → Value.okWide Tryd.prog W .any base t v := hval0
  have hW' := hW
  obtain ⟨p, q, hA0, hV, rfl, hfz, hnd⟩ := hW
  have hA : DataW.TrodAll enc Tryd.prog W 0 (fun _ => true) true Tryd.f9.params.toList args.toList ds p := hA0
  rw [Tryd.params9] at hA hval hsz
  obtain ⟨v0, vs0, d0, ds0, p0, q0, hargs, rfl, rfl, h0, r0⟩ := trodAll_cons hA
  obtain ⟨v1, vs1, d1, ds1, p1, q1, rfl, rfl, rfl, h1, r1⟩ := trodAll_cons r0
  obtain ⟨rfl, rfl, rfl⟩ := trodAll_nil r1
  obtain rfl : args = #[v0, v1] := by cases args; simp_all
  obtain ⟨rfl, rfl⟩ := trodVars_none hV
  have k0 := h0
  have lt0 : ∀ x ∈ p0, x.block < W.heap.size := by obtain ⟨m, hm⟩ := k0; exact DataW.trod_lt m _ _ _ hm
  obtain ⟨x1, rfl, rfl, rfl, wf1⟩ := open_int Tryd.underlying3 (hval 1 3 v1 rfl rfl) h1
  obtain ⟨c0, c1, c2, c3, y0, y1, y2, y3, m, rfl, rfl, rfl, hy0, hy1, hy2, hy3⟩ := open_agg4 Tryd.underlying24 (by kernel_rfl) (by kernel_rfl) (hval 0 24 v0 rfl rfl) h0
  have hsz2 : (DataW.weightsEach Tryd.prog [3, 3, 22, 22] [y0.1, y1.1, y2.1, y3.1]).all (· ≤ reachBytes) = true := by
    rw [List.all_eq_true]
    intro n hn
    exact List.all_eq_true.1 hsz n (DataW.weights_mem_each (j := 0) (t := 24) (d := .agg [y0.1, y1.1, y2.1, y3.1]) rfl rfl n (by simp only [DataW.weights, Tryd.underlying24]; exact hn))
  obtain ⟨a, e0, -, wa⟩ := DataW.trod_int Tryd.underlying3 hy0
  obtain ⟨b, e1, -, wb⟩ := DataW.trod_int Tryd.underlying3 hy1
  obtain ⟨a2, len2, cap2, z2, rfl, w2⟩ := opened hy2
  obtain ⟨a3, len3, cap3, z3, rfl, w3⟩ := opened hy3
  have z2_ : len2 * 8 ≤ 140737488351232 := sized_ints hsz2 (j := 2) (t := 22) rfl rfl Tryd.underlying22 Tryd.underlying3 (by kernel_rfl) (by kernel_rfl) (⟨m, by simpa [Value.cells] using hy2⟩ : DataW.Trod enc Tryd.prog W 0 (fun _ => true) true 22 (.slice a2 len2 cap2) y2.1 y2.2)
  have z3_ : len3 * 8 ≤ 140737488351232 := sized_ints hsz2 (j := 3) (t := 22) rfl rfl Tryd.underlying22 Tryd.underlying3 (by kernel_rfl) (by kernel_rfl) (⟨m, by simpa [Value.cells] using hy3⟩ : DataW.Trod enc Tryd.prog W 0 (fun _ => true) true 22 (.slice a3 len3 cap3) y3.1 y3.2)
  obtain rfl : c0 = .int .i64 a := by simpa using e0
  obtain rfl : c1 = .int .i64 b := by simpa using e1
  clear hA0 hval0 hsz0 hsz hsz2
  refine (walk a b a2 len2 cap2 z2 a3 len3 cap3 z3 x1 W w2 w3 z2_ z3_ hT).mono fun e W' ⟨he, bel⟩ => ?_
  subst he
  exact ⟨_, rfl, _, _, _, [], _, [], hW', trodAll_mk1 (shut_bool Tryd.underlying4 _), (trodAll_cons_mk (Below.trod laidOut (by kernel_rfl) (of_decide_eq_true (by kernel_rfl)) k0 bel lt0) (trodAll_cons_mk (shut_int Tryd.underlying3 wf1) trodAll_mk0)), rfl, bel.frame _, fun h => by cases h⟩
theorem k0_ : (Rows.fnExactSquaresByMovesRow.wf (OpenSpec.ofChange Rows.fnExactSquaresByMovesSpec)) = true := by kernel_rfl
theorem k1_ : (laidOutB Tryd.prog) = true := Closed.laidOut
theorem k2_ : (mapsRowed Tryd.prog) = true := Closed.mapsRowedP
theorem k3_ : (Tryd.f9.params.all (Tryd.prog.readableRec ·)) = true := by kernel_rfl
theorem k4_ : (namedTie Tryd.prog Rows.fnExactSquaresByMovesRow.named Rows.fnExactSquaresByMovesSpec.vars) = true := by kernel_rfl
theorem k5_ : ((Rows.fnExactSquaresByMovesRow.stops == [])) = true := by kernel_rfl
theorem k6_ : ((Tryd.prog.stops == [])) = true := Closed.noStops
theorem k7_ : ((Rows.fnExactSquaresByMovesRow.knobs == [])) = true := by kernel_rfl
theorem k8_ : ((Tryd.prog.stopKnobs == [])) = true := Closed.noKnobs
theorem k9_ : ((Rows.fnExactSquaresByMovesRow.inPlace == Tryd.prog.inPlace 9)) = true := by kernel_rfl
theorem k10_ : ((Rows.fnExactSquaresByMovesRow.unfollowed == Tryd.prog.unfollowed 9)) = true := by kernel_rfl
theorem k11_ : ((Rows.fnExactSquaresByMovesRow.recurses == Tryd.prog.recurses 9)) = true := by kernel_rfl
theorem k12_ : ((Rows.fnExactSquaresByMovesRow.named == Tryd.prog.varsNamed 9)) = true := by kernel_rfl
theorem k13_ : ((Rows.fnExactSquaresByMovesRow.maps == (Tryd.f9.params.toList ++ Rows.fnExactSquaresByMovesSpec.plain.varTypes Tryd.prog).any (Tryd.prog.mapsRec ·))) = true := by kernel_rfl
theorem k14_ : ((Rows.fnExactSquaresByMovesRow.ifaces == (Tryd.f9.params.toList ++ Rows.fnExactSquaresByMovesSpec.plain.varTypes Tryd.prog).any (Tryd.prog.ifacesRec ·))) = true := by kernel_rfl
theorem k15_ : ((Rows.fnExactSquaresByMovesRow.mapsOut == Tryd.prog.mapsAmong Tryd.f9.resultTypes.toList)) = true := by kernel_rfl
theorem k16_ : ((Rows.fnExactSquaresByMovesRow.loops == (Tryd.f9.params.toList ++ Rows.fnExactSquaresByMovesSpec.plain.varTypes Tryd.prog).any (Tryd.prog.loopsFrom ·))) = true := by kernel_rfl
theorem k17_ : ((Rows.fnExactSquaresByMovesRow.wideKeys == (Tryd.f9.params.toList ++ Rows.fnExactSquaresByMovesSpec.plain.varTypes Tryd.prog ++ Tryd.f9.resultTypes.toList).any (Tryd.prog.wideKeysFrom ·))) = true := by kernel_rfl
theorem k18_ : (Rows.fnExactSquaresByMovesSpec.vars.all (Tryd.prog.varReadable ·)) = true := by kernel_rfl
theorem k19_ : (Tryd.f9.resultTypes.all (fun t => Tryd.prog.readableRec t && decide (t < Tryd.prog.types.size))) = true := by kernel_rfl
theorem k20_ : ((Rows.fnExactSquaresByMovesRow.ifacesOut == Tryd.f9.resultTypes.toList.any (Tryd.prog.ifacesRec ·))) = true := by kernel_rfl
theorem k21_ : ((Rows.fnExactSquaresByMovesRow.loopsOut == Tryd.f9.resultTypes.toList.any (Tryd.prog.loopsFrom ·))) = true := by kernel_rfl
theorem k22_ : ((Rows.fnExactSquaresByMovesRow.plainKeys == Tryd.prog.plainKeys)) = true := by kernel_rfl
theorem k23_ : (Rows.fnExactSquaresByMovesRow.shortTexts.isNone) = true := by kernel_rfl
theorem k24_ : (Tryd.prog.stopsHeard) = true := Closed.stopsHeard
theorem k25_ : (Tryd.prog.mayEnter) = true := Closed.mayEnter
theorem k26_ : ((Rows.fnExactSquaresByMovesRow.lifted == Tryd.prog.liftsFinal)) = true := by rw [Closed.liftsFinal]; kernel_rfl
theorem k27_ : ((Tryd.prog.make == some Rows.fnExactSquaresByMovesRow.make)) = true := by rw [Closed.make]; kernel_rfl
theorem k28_ : ((Rows.fnExactSquaresByMovesRow.kinds == [])) = true := by kernel_rfl
theorem k29_ : ((Rows.fnExactSquaresByMovesRow.pinned == Rows.fnExactSquaresByMovesRow.pinnedBy)) = true := by kernel_rfl
theorem k30_ : ((Rows.fnExactSquaresByMovesRow.veiled == (Tryd.f9.params.toList ++ Rows.fnExactSquaresByMovesSpec.plain.varTypes Tryd.prog ++ Tryd.f9.resultTypes.toList).any (Tryd.prog.veiledRec ·))) = true := by kernel_rfl
theorem k31_ : (Rows.fnExactSquaresByMovesRow.veiledFits Tryd.prog Tryd.f9.params.toList (Tryd.f9.params.toList ++ Rows.fnExactSquaresByMovesSpec.plain.varTypes Tryd.prog ++ Tryd.f9.resultTypes.toList)) = true := by kernel_rfl
theorem k99_ : (Rows.fnExactSquaresByMovesRow.domain.isEmpty) = true := by kernel_rfl
theorem closed : joinedFacts Tryd.prog 9 Tryd.f9 Rows.fnExactSquaresByMovesSpec Rows.fnExactSquaresByMovesRow = true :=
  joined_mk _ _ _ _ _ k0_ k1_ k2_ k3_ k4_ k5_ k6_ k7_ k8_ k9_ k10_ k11_ k12_ k13_ k14_ k15_ k16_ k17_ k18_ k19_ k20_ k21_ k22_ k23_ k24_ k25_ k26_ k27_ k99_ k28_ k29_ k30_ k31_
theorem over : Rows.fnExactSquaresByMovesRow.holds Tryd.pinned (OpenSpec.ofChange Rows.fnExactSquaresByMovesSpec) :=
  OpenClaim.holds_of_wide 9 Tryd.f9 rfl rfl rfl rfl rfl rfl rfl ⟨rfl, rfl, rfl, rfl, rfl⟩ rfl rfl rfl rfl rfl (by kernel_rfl) Tryd.func9 closed
    (of_decide_eq_true (by kernel_rfl)) (by unfold Func.isWrapper; first | (rw [if_pos (by decide +kernel)]; kernel_rfl) | (rw [if_neg (by decide +kernel)]; exact ⟨rfl, rfl⟩))
    (fun os started H enc _ => lifted os started H enc)
theorem card : Rows.FnExactSquaresByMovesCardSaid :=
  Claim7.holds_tied_plain_at .later [] [.data] true (true, "84dbcbb6d9f469cebc263a6c6d20e1bf822bb068502ed41622d5dfe969e5e19b") false
    over (fun _ h => by cases h) (by kernel_rfl) (fun _ h => by cases h) fnExactSquaresByMoves_row_tie rfl ⟨rfl, rfl⟩ (by kernel_rfl) rfl
    (fun f fn hf hfn => by
      obtain rfl : f = 9 := Option.some.inj ((show Tryd.prog.funcNamed "loop.example/g01233/laws.FnExactSquaresByMoves" = some 9 by kernel_rfl).symm.trans hf) |>.symm
      obtain rfl : fn = Tryd.f9 := (Option.some.inj (Tryd.func9.symm.trans hfn)).symm
      exact ⟨by kernel_rfl, fun j t ht => by
        rw [Tryd.params9] at ht
        have h3 : t = 24 ∨ t = 3 := by
          rcases j with _ | _ | _ | j
          · left; simpa using ht.symm
          all_goals first | (right; simpa using ht.symm) | simp at ht
        rcases h3 with rfl | rfl
        · exact (show Tryd.prog.wantsStandIn 24 = false by kernel_rfl)
        · exact (show Tryd.prog.wantsStandIn 3 = false by kernel_rfl)⟩)
    (by kernel_rfl)
end Go.Proofs.YtgakmcoeccmkbaaDoor.fnExactSquaresByMoves
namespace Go.Proofs.YtgakmcoeccmkbaaDoor
theorem fnExactSquaresByMoves_holds : Rows.FnExactSquaresByMovesCardSaid := fnExactSquaresByMoves.card
end Go.Proofs.YtgakmcoeccmkbaaDoor


namespace Go.Proofs.YtgakmcoeccmkbaaDoor.P
open Go.RowKit Go.Proofs.YtgakmcoeccmkbaaDoorW.PrintWords Go.Proofs.YtgakmcoeccmkbaaDoorW.PrintLast Go.Proofs.YtgakmcoeccmkbaaDoorW.PrintMore
attribute [local go_sem] max2_int min2_int max_two min_two max_three min_three max_four min_four   -- for this text's walks alone
set_option linter.unusedVariables false
set_option linter.unusedSimpArgs false

set_option maxRecDepth 100000 in
set_option maxHeartbeats 8000000 in
theorem law_SquaresByTakes_no (a0_0 : Int) (a0_1 : Int) (A0_2 : Option Addr) (c0_2 : Nat) (l0_2 : List Int) (A0_3 : Option Addr) (c0_3 : Nat) (l0_3 : List Int) (x1 : Int) (w : World) (hr0_2 : Kd.C (Kd.int .i64) w A0_2 l0_2.length l0_2) (hc0_2 : l0_2.length ≤ c0_2) (hr0_3 : Kd.C (Kd.int .i64) w A0_3 l0_3.length l0_3) (hc0_3 : l0_3.length ≤ c0_3) (hl : l0_2.length ≤ 140737488355328) (hm : l0_3.length ≤ 140737488355328) (hbig : ¬ l0_2.length + l0_3.length ≤ 1000000) :
    Calls Tryd.prog 10 #[.agg #[.int .i64 a0_0, .int .i64 a0_1, .slice A0_2 l0_2.length c0_2, .slice A0_3 l0_3.length c0_3], .int .i64 x1] w fun e w' => e = .returned (.bool true) ∧ Below w.heap.size w w' := by
  have hsz := Aside0.mk (szFigure_no a0_0 a0_1 l0_2 l0_3 hl hm hbig)
  have HR2 := Aside0.mk hr0_2
  have HR3 := Aside0.mk hr0_3
  have HC2 := Aside0.mk hc0_2
  have HC3 := Aside0.mk hc0_3
  clear hr0_2 hr0_3 hc0_2 hc0_3 hl hm hbig
  go_enter Tryd.func10, Tryd.ntmps10
  go_wp2_with (go_at_call 11; refine (laws_szFigure.calls _ _ _ _ l0_2 _ _ l0_3 _ (-1) _ ?xA HC2.out ?xB HC3.out hsz.out).mono ?_; (case xA => first | exact Kd.C_alloc HR2.out _ | exact Kd.C_alloc (Kd.C_alloc HR2.out _) _ | exact Kd.C_alloc (Kd.C_alloc (Kd.C_alloc HR2.out _) _) _); (case xB => first | exact Kd.C_alloc HR3.out _ | exact Kd.C_alloc (Kd.C_alloc HR3.out _) _ | exact Kd.C_alloc (Kd.C_alloc (Kd.C_alloc HR3.out _) _) _); rintro e w1 ⟨rfl, hb⟩)
  go_ret
  exact ⟨rfl, below_step (by repeat (first | exact Below.refl _ _ | apply below_alloc)) hb⟩

set_option maxRecDepth 100000 in
set_option maxHeartbeats 16000000 in
theorem law_SquaresByTakes_yes (a0_0 : Int) (a0_1 : Int) (A0_2 : Option Addr) (c0_2 : Nat) (l0_2 : List Int) (A0_3 : Option Addr) (c0_3 : Nat) (l0_3 : List Int) (x1 : Int) (K : Nat) (R1 : List Int) (R2 : Bool) (G : World → Prop) (hG : ∀ w w', G w → Below w.heap.size w w' → G w') (w : World) (hr0_2 : Kd.C (Kd.int .i64) w A0_2 l0_2.length l0_2) (hc0_2 : l0_2.length ≤ c0_2) (hr0_3 : Kd.C (Kd.int .i64) w A0_3 l0_3.length l0_3) (hc0_3 : l0_3.length ≤ c0_3) (hGw : G w) (hbig : l0_2.length + l0_3.length ≤ 1000000) (hRb : R1.length ≤ 1000000) (hK : 4000000 < K)
    (hspec : AnswersI G 32 a0_0 a0_1 l0_2 l0_3 (fun v => #[v, .int .i64 x1]) R1 R2) (himpl : AnswersI G 33 a0_0 a0_1 l0_2 l0_3 (fun v => #[v, .int .i64 x1]) R1 R2) :
    Calls Tryd.prog 10 #[.agg #[.int .i64 a0_0, .int .i64 a0_1, .slice A0_2 l0_2.length c0_2, .slice A0_3 l0_3.length c0_3], .int .i64 x1] w fun e w' => e = .returned (.bool true) ∧ Below w.heap.size w w' := by
  have hsz := Aside0.mk (szFigure_ok a0_0 a0_1 l0_2 l0_3 hbig)
  have hT0 := Aside0.mk (toFigure_f a0_0 a0_1 l0_2 l0_3 false (by omega) (by omega) K (by omega))
  have hT1 := Aside0.mk (toFigure_f a0_0 a0_1 l0_2 l0_3 true (by omega) (by omega) K (by omega))
  have hM := Aside0.mk (markFigure_f a0_0 a0_1 l0_2 l0_3 hbig K (by omega))
  have hE := Aside0.mk (eqIntS_refl R1 (by omega) K (by omega))
  have hMC := Aside0.mk (markIntS_f R1 101 (by omega) (by omega) K (by omega))
  have hHC := Aside0.mk (heldIntS_f R1.length 101 (by omega) (by omega) K (by omega))
  have HS : Aside0 (∀ (A2 : Option Addr) (c2 : Nat) (A3 : Option Addr) (c3 : Nat) (W : World), Kd.C (Kd.int .i64) W A2 l0_2.length l0_2 → l0_2.length ≤ c2 → Kd.C (Kd.int .i64) W A3 l0_3.length l0_3 → l0_3.length ≤ c3 → G W → Calls Tryd.prog 32 #[.agg #[.int .i64 a0_0, .int .i64 a0_1, .slice A2 l0_2.length c2, .slice A3 l0_3.length c3], .int .i64 x1] W fun e w' => ∃ v, e = .returned (.tuple #[v, .bool R2]) ∧ Kd.R (Kd.int .i64) 3 w' W.heap.size (fun _ => True) v R1 ∧ Below W.heap.size W w') := ⟨hspec⟩
  have HI : Aside0 (∀ (A2 : Option Addr) (c2 : Nat) (A3 : Option Addr) (c3 : Nat) (W : World), Kd.C (Kd.int .i64) W A2 l0_2.length l0_2 → l0_2.length ≤ c2 → Kd.C (Kd.int .i64) W A3 l0_3.length l0_3 → l0_3.length ≤ c3 → G W → Calls Tryd.prog 33 #[.agg #[.int .i64 a0_0, .int .i64 a0_1, .slice A2 l0_2.length c2, .slice A3 l0_3.length c3], .int .i64 x1] W fun e w' => ∃ v, e = .returned (.tuple #[v, .bool R2]) ∧ Kd.R (Kd.int .i64) 3 w' W.heap.size (fun _ => True) v R1 ∧ Below W.heap.size W w') := ⟨himpl⟩
  have HGT : Aside0 (∀ W, Below w.heap.size w W → G W) := ⟨fun W h => hG w W hGw h⟩
  have HL2 : Aside0 (l0_2.length ≤ 1000000) := ⟨by omega⟩
  have HL3 : Aside0 (l0_3.length ≤ 1000000) := ⟨by omega⟩
  have hl0 : (0 : Int) ≤ 1000000 - (l0_2.length : Int) - (l0_3.length : Int) := by omega
  have hl1 : 1000000 - (l0_2.length : Int) - (l0_3.length : Int) ≤ 1000000 := by omega
  have hk0 : (0 : Int) ≤ 101 + (l0_2.length : Int) + (l0_3.length : Int) := by omega
  have hm0 : (0 : Int) ≤ 101 + (R1.length : Int) := by omega
  generalize hmm : 101 + (R1.length : Int) = mm at hMC hHC hm0
  generalize hmk : 101 + (l0_2.length : Int) + (l0_3.length : Int) = mk at hM hk0
  generalize hsl : 1000000 - (l0_2.length : Int) - (l0_3.length : Int) = sl at hsz hl0 hl1
  clear hmm hmk hsl
  have HR2 := Aside0.mk hr0_2
  have HR3 := Aside0.mk hr0_3
  have HC2 := Aside0.mk hc0_2
  have HC3 := Aside0.mk hc0_3
  clear hr0_2 hr0_3 hc0_2 hc0_3 hbig hRb hK hspec himpl hG hGw
  have tok0 : True := trivial
  go_enter Tryd.func10, Tryd.ntmps10

  go_wp2_with (first
    | (go_at_call 11; have _t := tok0; (with_reducible refine (laws_szFigure.calls _ _ _ _ l0_2 _ _ l0_3 _ sl _ ?sA HC2.out ?sB HC3.out hsz.out).mono ?_); (case sA => first | exact Kd.C_alloc HR2.out _ | exact Kd.C_alloc (Kd.C_alloc HR2.out _) _ | exact Kd.C_alloc (Kd.C_alloc (Kd.C_alloc HR2.out _) _) _); (case sB => first | exact Kd.C_alloc HR3.out _ | exact Kd.C_alloc (Kd.C_alloc HR3.out _) _ | exact Kd.C_alloc (Kd.C_alloc (Kd.C_alloc HR3.out _) _) _); rintro e w1 ⟨rfl, hb⟩; have Q0 := Aside0.mk (blk_keep (o := .cells #[.int .i64 a0_0, .int .i64 a0_1, .slice A0_2 l0_2.length c0_2, .slice A0_3 l0_3.length c0_3] 24 (0, 0)) (g := w.heap.size) (by first | exact heap_alloc_new w _ | exact blk_alloc (heap_alloc_new w _) _ | exact blk_alloc (blk_alloc (heap_alloc_new w _) _) _) hb);
       have HB : Aside0 (Below w.heap.size w w1) := ⟨below_step (by repeat (first | exact Below.refl _ _ | apply below_alloc)) hb⟩;
       have HW : Aside0 (w.heap.size < w1.heap.size) := ⟨by have := hb.size; simp at this; omega⟩;
       clear hb; have q0 : w1.cell? ⟨w.heap.size, 0, none⟩ = some (.int .i64 a0_0) := (blk_cell Q0.out 0).trans rfl; have q1 : w1.cell? ⟨w.heap.size, 1, none⟩ = some (.int .i64 a0_1) := (blk_cell Q0.out 1).trans rfl; have q2 : w1.cell? ⟨w.heap.size, 2, none⟩ = some (.slice A0_2 l0_2.length c0_2) := (blk_cell Q0.out 2).trans rfl; have q3 : w1.cell? ⟨w.heap.size, 3, none⟩ = some (.slice A0_3 l0_3.length c0_3) := (blk_cell Q0.out 3).trans rfl; clear _t tok0; have tok1 : True := trivial)
    | (go_at_call 13; have _t := tok1; (with_reducible refine (laws_toFigure.calls K a0_0 a0_1 A0_2 c0_2 l0_2 A0_3 c0_3 l0_3 false a0_0 a0_1 l0_2 l0_3 _ (Kd.C_below HR2.out HB.out) HC2.out (Kd.C_below HR3.out HB.out) HC3.out hT0.out).mono ?_); rintro e w2 ⟨u2, u3, rfl, hu2, hu3, hb⟩; have n0_ := Aside0.mk (below_step HB.out hb);
       have n1_ := Aside0.mk (blk_keep Q0.out hb);
       clear q0 q1 q2 q3 HB Q0;
       have HB := n0_;
       have Q0 := n1_;
       clear n0_ n1_;
       have q0 : w2.cell? ⟨w.heap.size, 0, none⟩ = some (.int .i64 a0_0) := (blk_cell Q0.out 0).trans rfl;
       have q1 : w2.cell? ⟨w.heap.size, 1, none⟩ = some (.int .i64 a0_1) := (blk_cell Q0.out 1).trans rfl;
       have q2 : w2.cell? ⟨w.heap.size, 2, none⟩ = some (.slice A0_2 l0_2.length c0_2) := (blk_cell Q0.out 2).trans rfl;
       have q3 : w2.cell? ⟨w.heap.size, 3, none⟩ = some (.slice A0_3 l0_3.length c0_3) := (blk_cell Q0.out 3).trans rfl;
       obtain ⟨B2, d2, rfl⟩ := Kd.R_slice hu2;
       obtain ⟨B3, d3, rfl⟩ := Kd.R_slice hu3;
       have U2 := Aside0.mk (Kd.R_reads' hu2).2;
       have U3 := Aside0.mk (Kd.R_reads' hu3).2;
       clear hb hu2 hu3; clear _t tok1; have tok2 : True := trivial)
    | (go_at_call 32; have _t := tok2; (with_reducible refine (HS.out B2 d2 B3 d3 _ U2.out.2 U2.out.1 U3.out.2 U3.out.1 (HGT.out _ HB.out)).mono ?_); rintro e w3 ⟨v4, rfl, ho, hb⟩; have HB2 := Aside0.mk (HB.out.size);
       have HW2 : Aside0 (w.heap.size < w3.heap.size) := ⟨by have := hb.size; have := HB.out.size; have := (Array.getElem?_eq_some_iff.1 Q0.out).1; omega⟩;
       have n0_ := Aside0.mk (below_step HB.out hb);
       have n1_ := Aside0.mk (blk_keep Q0.out hb);
       clear q0 q1 q2 q3 HB Q0;
       have HB := n0_;
       have Q0 := n1_;
       clear n0_ n1_;
       have q0 : w3.cell? ⟨w.heap.size, 0, none⟩ = some (.int .i64 a0_0) := (blk_cell Q0.out 0).trans rfl;
       have q1 : w3.cell? ⟨w.heap.size, 1, none⟩ = some (.int .i64 a0_1) := (blk_cell Q0.out 1).trans rfl;
       have q2 : w3.cell? ⟨w.heap.size, 2, none⟩ = some (.slice A0_2 l0_2.length c0_2) := (blk_cell Q0.out 2).trans rfl;
       have q3 : w3.cell? ⟨w.heap.size, 3, none⟩ = some (.slice A0_3 l0_3.length c0_3) := (blk_cell Q0.out 3).trans rfl;
       have V4 := Aside0.mk (Kd.R_lower (Kd.R_mono (Kd.R_bound ho) (fun k hk => hk.2.2.1) : Kd.R (Kd.int .i64) 3 w3 w2.heap.size (fun k => k < w3.heap.size) v4 R1) HB2.out);
       obtain ⟨A4, e4, rfl⟩ := Kd.R_slice ho;
       clear hb ho U2 U3 HB2; clear _t tok2; have tok3 : True := trivial)
    | (go_at_call 13; have _t := tok3; (with_reducible refine (laws_toFigure_full a0_0 a0_1 A0_2 c0_2 l0_2 A0_3 c0_3 l0_3 _ (Kd.C_below HR2.out HB.out) HC2.out (Kd.C_below HR3.out HB.out) HC3.out HL2.out HL3.out).mono ?_); rintro e w4 ⟨g2, cc2, g3, cc3, rfl, ho2, ho3, hne, hb⟩; have HG : Aside0 ((w3.heap.size ≤ g2 ∧ g2 < w4.heap.size) ∧ (w3.heap.size ≤ g3 ∧ g3 < w4.heap.size) ∧ g2 ≠ g3) := ⟨⟨Kd.R_base ho2 g2 (by simp [Value.ownBlock]), Kd.R_lt ho2 g2 (by simp [Value.ownBlock])⟩, ⟨Kd.R_base ho3 g3 (by simp [Value.ownBlock]), Kd.R_lt ho3 g3 (by simp [Value.ownBlock])⟩, hne⟩;
       have HS3 := Aside0.mk HB.out.size;
       have n0_ := Aside0.mk (below_step HB.out hb);
       have n1_ := Aside0.mk (blk_keep Q0.out hb);
       have n2_ := Aside0.mk (Kd.R_below V4.out hb);
       clear q0 q1 q2 q3 HB Q0 V4;
       have HB := n0_;
       have Q0 := n1_;
       have V4 := n2_;
       clear n0_ n1_ n2_;
       have q0 : w4.cell? ⟨w.heap.size, 0, none⟩ = some (.int .i64 a0_0) := (blk_cell Q0.out 0).trans rfl;
       have q1 : w4.cell? ⟨w.heap.size, 1, none⟩ = some (.int .i64 a0_1) := (blk_cell Q0.out 1).trans rfl;
       have q2 : w4.cell? ⟨w.heap.size, 2, none⟩ = some (.slice A0_2 l0_2.length c0_2) := (blk_cell Q0.out 2).trans rfl;
       have q3 : w4.cell? ⟨w.heap.size, 3, none⟩ = some (.slice A0_3 l0_3.length c0_3) := (blk_cell Q0.out 3).trans rfl;
       have G2 : Aside0 (Kd.R (Kd.int .i64) 3 w4 w.heap.size (fun k => k = g2) (.slice (some ⟨g2, 0, none⟩) (fullOf l0_2).length cc2) (fullOf l0_2)) := ⟨Kd.R_lower (Kd.R_mono (Kd.R_tight rfl ho2) (fun k hk => by simpa [Value.ownBlock] using hk)) HS3.out⟩;
       have G3 : Aside0 (Kd.R (Kd.int .i64) 3 w4 w.heap.size (fun k => k = g3) (.slice (some ⟨g3, 0, none⟩) (fullOf l0_3).length cc3) (fullOf l0_3)) := ⟨Kd.R_lower (Kd.R_mono (Kd.R_tight rfl ho3) (fun k hk => by simpa [Value.ownBlock] using hk)) HS3.out⟩;
       have T2 : Aside0 (l0_2.length ≤ cc2 ∧ Kd.C (Kd.int .i64) w4 (some ⟨g2, 0, none⟩) l0_2.length l0_2) := ⟨by have h := (Kd.R_reads' (Kd.R_take G2.out (m := l0_2.length) (by rw [fullOf_length]; omega))).2; rw [fullOf_take] at h; exact h⟩;
       have T3 : Aside0 (l0_3.length ≤ cc3 ∧ Kd.C (Kd.int .i64) w4 (some ⟨g3, 0, none⟩) l0_3.length l0_3) := ⟨by have h := (Kd.R_reads' (Kd.R_take G3.out (m := l0_3.length) (by rw [fullOf_length]; omega))).2; rw [fullOf_take] at h; exact h⟩;
       have hlt : w.heap.size < w4.heap.size := by have := HW2.out; have := hb.size; omega;
       clear hb ho2 ho3 hne HS3; clear _t tok3; have tok4 : True := trivial)
    | (go_at_call 33; have _t := tok4; (with_reducible refine (HI.out _ _ _ _ _ (Kd.C_alloc T2.out.2 _) T2.out.1 (Kd.C_alloc T3.out.2 _) T3.out.1 (HGT.out _ (below_alloc HB.out _))).mono ?_); rintro e w5 ⟨v7, rfl, ho, hb⟩; have HS4 : Aside0 (w.heap.size ≤ w4.heap.size + 1) := ⟨by have := HB.out.size; omega⟩;
       have n0_ := Aside0.mk (below_step (below_alloc HB.out _) hb);
       have n1_ := Aside0.mk (blk_keep (blk_alloc Q0.out _) hb);
       have n2_ := Aside0.mk (Kd.R_below (Kd.R_alloc V4.out _) hb);
       have n3_ := Aside0.mk (Kd.R_below (Kd.R_alloc G2.out _) hb);
       have n4_ := Aside0.mk (Kd.R_below (Kd.R_alloc G3.out _) hb);
       clear q0 q1 q2 q3 HB Q0 V4 G2 G3;
       have HB := n0_;
       have Q0 := n1_;
       have V4 := n2_;
       have G2 := n3_;
       have G3 := n4_;
       clear n0_ n1_ n2_ n3_ n4_;
       have X0n : Aside0 (w5.heap[w4.heap.size]? = some (.cells #[.int .i64 a0_0, .int .i64 a0_1, .slice (some ⟨g2, 0, none⟩) l0_2.length cc2, .slice (some ⟨g3, 0, none⟩) l0_3.length cc3] 28 (0, 0))) := ⟨blk_keep (heap_alloc_new w4 _) hb⟩;
       have X0 := X0n;
       clear X0n;
       have q0 : w5.cell? ⟨w.heap.size, 0, none⟩ = some (.int .i64 a0_0) := (blk_cell Q0.out 0).trans rfl;
       have q1 : w5.cell? ⟨w.heap.size, 1, none⟩ = some (.int .i64 a0_1) := (blk_cell Q0.out 1).trans rfl;
       have q2 : w5.cell? ⟨w.heap.size, 2, none⟩ = some (.slice A0_2 l0_2.length c0_2) := (blk_cell Q0.out 2).trans rfl;
       have q3 : w5.cell? ⟨w.heap.size, 3, none⟩ = some (.slice A0_3 l0_3.length c0_3) := (blk_cell Q0.out 3).trans rfl;
       have x0 : w5.cell? ⟨w4.heap.size, 0, none⟩ = some (.int .i64 a0_0) := (blk_cell X0.out 0).trans rfl;
       have x1 : w5.cell? ⟨w4.heap.size, 1, none⟩ = some (.int .i64 a0_1) := (blk_cell X0.out 1).trans rfl;
       have x2 : w5.cell? ⟨w4.heap.size, 2, none⟩ = some (.slice (some ⟨g2, 0, none⟩) l0_2.length cc2) := (blk_cell X0.out 2).trans rfl;
       have x3 : w5.cell? ⟨w4.heap.size, 3, none⟩ = some (.slice (some ⟨g3, 0, none⟩) l0_3.length cc3) := (blk_cell X0.out 3).trans rfl;
       have V7 : Aside0 (Kd.R (Kd.int .i64) 3 w5 w.heap.size (fun k => w4.heap.size < k) v7 R1) := ⟨Kd.R_lower (Kd.R_mono (Kd.R_bound ho) (fun k hk => by have := hk.2.1; simp at this; omega)) (by simpa using HS4.out)⟩;
       obtain ⟨A7, e7, rfl⟩ := Kd.R_slice ho;
       clear hb ho hlt HS4 T2 T3; clear _t tok4; have tok5 : True := trivial)
    | (go_at_call 28; have _t := tok5; (with_reducible refine (laws_eqIntS.calls K _ _ R1 _ _ R1 true _ (Kd.R_reads' V7.out).2.2 (Kd.R_reads' V7.out).2.1 (Kd.R_reads' V4.out).2.2 (Kd.R_reads' V4.out).2.1 hE.out).mono ?_); rintro e w6 ⟨rfl, ⟨nd6, rfl⟩⟩; have n0_ := Aside0.mk (pw_below_drewN HB.out nd6);
       have n1_ := Aside0.mk (blk_drewN Q0.out nd6);
       have n2_ := Aside0.mk (Kd.R_drewN V4.out nd6);
       have n3_ := Aside0.mk (Kd.R_drewN G2.out nd6);
       have n4_ := Aside0.mk (Kd.R_drewN G3.out nd6);
       have n5_ := Aside0.mk (blk_drewN X0.out nd6);
       have n6_ := Aside0.mk (Kd.R_drewN V7.out nd6);
       clear q0 q1 q2 q3 x0 x1 x2 x3 HB Q0 V4 G2 G3 X0 V7;
       have HB := n0_;
       have Q0 := n1_;
       have V4 := n2_;
       have G2 := n3_;
       have G3 := n4_;
       have X0 := n5_;
       have V7 := n6_;
       clear n0_ n1_ n2_ n3_ n4_ n5_ n6_;
       have q0 : (w5.drewN nd6).cell? ⟨w.heap.size, 0, none⟩ = some (.int .i64 a0_0) := (blk_cell Q0.out 0).trans rfl;
       have q1 : (w5.drewN nd6).cell? ⟨w.heap.size, 1, none⟩ = some (.int .i64 a0_1) := (blk_cell Q0.out 1).trans rfl;
       have q2 : (w5.drewN nd6).cell? ⟨w.heap.size, 2, none⟩ = some (.slice A0_2 l0_2.length c0_2) := (blk_cell Q0.out 2).trans rfl;
       have q3 : (w5.drewN nd6).cell? ⟨w.heap.size, 3, none⟩ = some (.slice A0_3 l0_3.length c0_3) := (blk_cell Q0.out 3).trans rfl;
       have x0 : (w5.drewN nd6).cell? ⟨w4.heap.size, 0, none⟩ = some (.int .i64 a0_0) := (blk_cell X0.out 0).trans rfl;
       have x1 : (w5.drewN nd6).cell? ⟨w4.heap.size, 1, none⟩ = some (.int .i64 a0_1) := (blk_cell X0.out 1).trans rfl;
       have x2 : (w5.drewN nd6).cell? ⟨w4.heap.size, 2, none⟩ = some (.slice (some ⟨g2, 0, none⟩) l0_2.length cc2) := (blk_cell X0.out 2).trans rfl;
       have x3 : (w5.drewN nd6).cell? ⟨w4.heap.size, 3, none⟩ = some (.slice (some ⟨g3, 0, none⟩) l0_3.length cc3) := (blk_cell X0.out 3).trans rfl; clear _t tok5; have tok6 : True := trivial))
  go_region_held3 (fun w' => w'.cell? ⟨w.heap.size, 0, none⟩ = some (.int .i64 a0_0) ∧ w'.cell? ⟨w.heap.size, 1, none⟩ = some (.int .i64 a0_1) ∧ w'.cell? ⟨w.heap.size, 2, none⟩ = some (.slice A0_2 l0_2.length c0_2) ∧ w'.cell? ⟨w.heap.size, 3, none⟩ = some (.slice A0_3 l0_3.length c0_3) ∧ w'.cell? ⟨w4.heap.size, 0, none⟩ = some (.int .i64 a0_0) ∧ w'.cell? ⟨w4.heap.size, 1, none⟩ = some (.int .i64 a0_1) ∧ w'.cell? ⟨w4.heap.size, 2, none⟩ = some (.slice (some ⟨g2, 0, none⟩) l0_2.length cc2) ∧ w'.cell? ⟨w4.heap.size, 3, none⟩ = some (.slice (some ⟨g3, 0, none⟩) l0_3.length cc3))
    (first | (exact ⟨q0, q1, q2, q3, x0, x1, x2, x3⟩) | (go_split_ands; exact ⟨pw_cell_below hbB (by assumption), pw_cell_below hbB (by assumption), pw_cell_below hbB (by assumption), pw_cell_below hbB (by assumption), pw_cell_below hbB (by assumption), pw_cell_below hbB (by assumption), pw_cell_below hbB (by assumption), pw_cell_below hbB (by assumption)⟩) | (go_split_ands; exact ⟨pw_cell_below hbA (by assumption), pw_cell_below hbA (by assumption), pw_cell_below hbA (by assumption), pw_cell_below hbA (by assumption), pw_cell_below hbA (by assumption), pw_cell_below hbA (by assumption), pw_cell_below hbA (by assumption), pw_cell_below hbA (by assumption)⟩))
    ((first
      | (go_at_call 13; refine (laws_toFigure_full a0_0 a0_1 A0_2 c0_2 l0_2 A0_3 c0_3 l0_3 _ (Kd.C_below HR2.out (below_drew HB.out)) HC2.out (Kd.C_below HR3.out (below_drew HB.out)) HC3.out HL2.out HL3.out).mono ?_; rintro e wA ⟨y2, yc2, y3, yc3, rfl, hyA, hyB, hyne, hbA⟩)
      | (go_at_call 15; refine (laws_intactFigure_full a0_0 a0_1 g2 cc2 g3 cc3 y2 yc2 y3 yc3 l0_2 l0_3 _ (Kd.R_reads' (Kd.R_below (Kd.R_drew G2.out) hbA)).2.2 (Kd.R_reads' G2.out).2.1 (Kd.R_reads' (Kd.R_below (Kd.R_drew G3.out) hbA)).2.2 (Kd.R_reads' G3.out).2.1 (Kd.R_reads' hyA).2.2 (Kd.R_reads' hyA).2.1 (Kd.R_reads' hyB).2.2 (Kd.R_reads' hyB).2.1 HL2.out HL3.out).mono ?_; rintro e wB ⟨rfl, hbB⟩)))
  have n0_ := Aside0.mk (below_step (below_step (below_drew HB.out) hbA) hbB)
  have n1_ := Aside0.mk (blk_keep (blk_keep (blk_drew Q0.out) hbA) hbB)
  have n2_ := Aside0.mk (Kd.R_below (Kd.R_below (Kd.R_drew V4.out) hbA) hbB)
  have n3_ := Aside0.mk (Kd.R_below (Kd.R_below (Kd.R_drew G2.out) hbA) hbB)
  have n4_ := Aside0.mk (Kd.R_below (Kd.R_below (Kd.R_drew G3.out) hbA) hbB)
  have n5_ := Aside0.mk (blk_keep (blk_keep (blk_drew X0.out) hbA) hbB)
  have n6_ := Aside0.mk (Kd.R_below (Kd.R_below (Kd.R_drew V7.out) hbA) hbB)
  go_split_ands
  clear q0 q1 q2 q3 x0 x1 x2 x3 HB Q0 V4 G2 G3 X0 V7 hyA hyB hyne hbA hbB
  have HB := n0_
  have Q0 := n1_
  have V4 := n2_
  have G2 := n3_
  have G3 := n4_
  have X0 := n5_
  have V7 := n6_
  clear n0_ n1_ n2_ n3_ n4_ n5_ n6_
  have q0 : wB.cell? ⟨w.heap.size, 0, none⟩ = some (.int .i64 a0_0) := (blk_cell Q0.out 0).trans rfl
  have q1 : wB.cell? ⟨w.heap.size, 1, none⟩ = some (.int .i64 a0_1) := (blk_cell Q0.out 1).trans rfl
  have q2 : wB.cell? ⟨w.heap.size, 2, none⟩ = some (.slice A0_2 l0_2.length c0_2) := (blk_cell Q0.out 2).trans rfl
  have q3 : wB.cell? ⟨w.heap.size, 3, none⟩ = some (.slice A0_3 l0_3.length c0_3) := (blk_cell Q0.out 3).trans rfl
  have x0 : wB.cell? ⟨w4.heap.size, 0, none⟩ = some (.int .i64 a0_0) := (blk_cell X0.out 0).trans rfl
  have x1 : wB.cell? ⟨w4.heap.size, 1, none⟩ = some (.int .i64 a0_1) := (blk_cell X0.out 1).trans rfl
  have x2 : wB.cell? ⟨w4.heap.size, 2, none⟩ = some (.slice (some ⟨g2, 0, none⟩) l0_2.length cc2) := (blk_cell X0.out 2).trans rfl
  have x3 : wB.cell? ⟨w4.heap.size, 3, none⟩ = some (.slice (some ⟨g3, 0, none⟩) l0_3.length cc3) := (blk_cell X0.out 3).trans rfl
  have P23 : Aside0 (∀ k : Nat, k = g2 → ¬ k = g3) := ⟨fun k h1 h2 => HG.out.2.2 (h1.symm.trans h2)⟩
  have P32 : Aside0 (∀ k : Nat, k = g3 → ¬ k = g2) := ⟨fun k h1 h2 => HG.out.2.2 (h2.symm.trans h1)⟩
  have T2 : Aside0 (Kd.R (Kd.int .i64) 3 wB w.heap.size (fun k => k = g2) (.slice (some ⟨g2, 0, none⟩) l0_2.length cc2) l0_2) := ⟨by have h := Kd.R_take G2.out (m := l0_2.length) (by rw [fullOf_length]; omega); rw [fullOf_take] at h; exact h⟩
  have T3 : Aside0 (Kd.R (Kd.int .i64) 3 wB w.heap.size (fun k => k = g3) (.slice (some ⟨g3, 0, none⟩) l0_3.length cc3) l0_3) := ⟨by have h := Kd.R_take G3.out (m := l0_3.length) (by rw [fullOf_length]; omega); rw [fullOf_take] at h; exact h⟩
  go_wp2_with (first
    | (go_at_call 29; have _t := tok6; (with_reducible refine (laws_markFigure.calls K a0_0 a0_1 (fun k => k = g2) _ l0_2 (fun k => k = g3) _ l0_3 101 mk (marks l0_2.length 101) (marks l0_3.length (101 + (l0_2.length : Int))) w _ HB.out T2.out P23.out T3.out P32.out hM.out).mono ?_); rintro e w8 ⟨rfl, hm2, hm3, hbw, hk⟩; have n0_ := Aside0.mk (hbw);
       have n1_ := Aside0.mk (blk_kept2 Q0.out hk (fun h => by have a := (Array.getElem?_eq_some_iff.1 Q0.out).1; have := HG.out; have := HW2.out; omega));
       have n2_ := Aside0.mk (Kd.R_kept V4.out hk (fun k hk_ h => by have := HG.out; omega));
       have n3_ := Aside0.mk (blk_kept2 X0.out hk (fun h => by have := HG.out; omega));
       have n4_ := Aside0.mk (Kd.R_kept V7.out hk (fun k hk_ h => by have := HG.out; omega));
       clear q0 q1 q2 q3 x0 x1 x2 x3 HB Q0 V4 X0 V7;
       have HB := n0_;
       have Q0 := n1_;
       have V4 := n2_;
       have X0 := n3_;
       have V7 := n4_;
       clear n0_ n1_ n2_ n3_ n4_;
       have q0 : w8.cell? ⟨w.heap.size, 0, none⟩ = some (.int .i64 a0_0) := (blk_cell Q0.out 0).trans rfl;
       have q1 : w8.cell? ⟨w.heap.size, 1, none⟩ = some (.int .i64 a0_1) := (blk_cell Q0.out 1).trans rfl;
       have q2 : w8.cell? ⟨w.heap.size, 2, none⟩ = some (.slice A0_2 l0_2.length c0_2) := (blk_cell Q0.out 2).trans rfl;
       have q3 : w8.cell? ⟨w.heap.size, 3, none⟩ = some (.slice A0_3 l0_3.length c0_3) := (blk_cell Q0.out 3).trans rfl;
       have x0 : w8.cell? ⟨w4.heap.size, 0, none⟩ = some (.int .i64 a0_0) := (blk_cell X0.out 0).trans rfl;
       have x1 : w8.cell? ⟨w4.heap.size, 1, none⟩ = some (.int .i64 a0_1) := (blk_cell X0.out 1).trans rfl;
       have x2 : w8.cell? ⟨w4.heap.size, 2, none⟩ = some (.slice (some ⟨g2, 0, none⟩) l0_2.length cc2) := (blk_cell X0.out 2).trans rfl;
       have x3 : w8.cell? ⟨w4.heap.size, 3, none⟩ = some (.slice (some ⟨g3, 0, none⟩) l0_3.length cc3) := (blk_cell X0.out 3).trans rfl;
       clear hm2 hm3 hbw hk T2 T3 G2 G3; clear _t tok6; have tok7 : True := trivial)
    | (go_at_call 28; have _t := tok7; (with_reducible refine (laws_eqIntS.calls K _ _ R1 _ _ R1 true _ (Kd.R_reads' V7.out).2.2 (Kd.R_reads' V7.out).2.1 (Kd.R_reads' V4.out).2.2 (Kd.R_reads' V4.out).2.1 hE.out).mono ?_); rintro e w9 ⟨rfl, ⟨nd9, rfl⟩⟩; have n0_ := Aside0.mk (pw_below_drewN HB.out nd9);
       have n1_ := Aside0.mk (blk_drewN Q0.out nd9);
       have n2_ := Aside0.mk (Kd.R_drewN V4.out nd9);
       have n3_ := Aside0.mk (blk_drewN X0.out nd9);
       have n4_ := Aside0.mk (Kd.R_drewN V7.out nd9);
       clear q0 q1 q2 q3 x0 x1 x2 x3 HB Q0 V4 X0 V7;
       have HB := n0_;
       have Q0 := n1_;
       have V4 := n2_;
       have X0 := n3_;
       have V7 := n4_;
       clear n0_ n1_ n2_ n3_ n4_;
       have q0 : (w8.drewN nd9).cell? ⟨w.heap.size, 0, none⟩ = some (.int .i64 a0_0) := (blk_cell Q0.out 0).trans rfl;
       have q1 : (w8.drewN nd9).cell? ⟨w.heap.size, 1, none⟩ = some (.int .i64 a0_1) := (blk_cell Q0.out 1).trans rfl;
       have q2 : (w8.drewN nd9).cell? ⟨w.heap.size, 2, none⟩ = some (.slice A0_2 l0_2.length c0_2) := (blk_cell Q0.out 2).trans rfl;
       have q3 : (w8.drewN nd9).cell? ⟨w.heap.size, 3, none⟩ = some (.slice A0_3 l0_3.length c0_3) := (blk_cell Q0.out 3).trans rfl;
       have x0 : (w8.drewN nd9).cell? ⟨w4.heap.size, 0, none⟩ = some (.int .i64 a0_0) := (blk_cell X0.out 0).trans rfl;
       have x1 : (w8.drewN nd9).cell? ⟨w4.heap.size, 1, none⟩ = some (.int .i64 a0_1) := (blk_cell X0.out 1).trans rfl;
       have x2 : (w8.drewN nd9).cell? ⟨w4.heap.size, 2, none⟩ = some (.slice (some ⟨g2, 0, none⟩) l0_2.length cc2) := (blk_cell X0.out 2).trans rfl;
       have x3 : (w8.drewN nd9).cell? ⟨w4.heap.size, 3, none⟩ = some (.slice (some ⟨g3, 0, none⟩) l0_3.length cc3) := (blk_cell X0.out 3).trans rfl;
       have TV7 := Aside0.mk (Kd.R_tight rfl V7.out);
       have HN7 : Aside0 (∀ k, some k = (Value.slice A7 R1.length e7).ownBlock → w4.heap.size < k) := ⟨fun k hk => V7.out.1 k hk.symm⟩; clear _t tok7; have tok8 : True := trivial)
    | (go_at_call 30; have _t := tok8; (with_reducible refine (laws_markIntS.calls K (fun k => some k = (Value.slice A7 R1.length e7).ownBlock) _ R1 101 mm (marks R1.length 101) w _ HB.out TV7.out hMC.out).mono ?_); rintro e w10 ⟨rfl, hm, hbw, hk⟩; have n0_ := Aside0.mk (hbw);
       have n1_ := Aside0.mk (blk_kept2 Q0.out hk (fun h => by have := HN7.out _ h; have := HG.out; have := HW2.out; omega));
       have n2_ := Aside0.mk (Kd.R_kept V4.out hk (fun k hk_ h => by have := HN7.out _ h; have := HG.out; omega));
       have n3_ := Aside0.mk (blk_kept2 X0.out hk (fun h => by have := HN7.out _ h; omega));
       clear q0 q1 q2 q3 x0 x1 x2 x3 HB Q0 V4 X0;
       have HB := n0_;
       have Q0 := n1_;
       have V4 := n2_;
       have X0 := n3_;
       clear n0_ n1_ n2_ n3_;
       have V7n := Aside0.mk hm;
       clear V7;
       have V7 := V7n;
       clear V7n;
       have q0 : w10.cell? ⟨w.heap.size, 0, none⟩ = some (.int .i64 a0_0) := (blk_cell Q0.out 0).trans rfl;
       have q1 : w10.cell? ⟨w.heap.size, 1, none⟩ = some (.int .i64 a0_1) := (blk_cell Q0.out 1).trans rfl;
       have q2 : w10.cell? ⟨w.heap.size, 2, none⟩ = some (.slice A0_2 l0_2.length c0_2) := (blk_cell Q0.out 2).trans rfl;
       have q3 : w10.cell? ⟨w.heap.size, 3, none⟩ = some (.slice A0_3 l0_3.length c0_3) := (blk_cell Q0.out 3).trans rfl;
       have x0 : w10.cell? ⟨w4.heap.size, 0, none⟩ = some (.int .i64 a0_0) := (blk_cell X0.out 0).trans rfl;
       have x1 : w10.cell? ⟨w4.heap.size, 1, none⟩ = some (.int .i64 a0_1) := (blk_cell X0.out 1).trans rfl;
       have x2 : w10.cell? ⟨w4.heap.size, 2, none⟩ = some (.slice (some ⟨g2, 0, none⟩) l0_2.length cc2) := (blk_cell X0.out 2).trans rfl;
       have x3 : w10.cell? ⟨w4.heap.size, 3, none⟩ = some (.slice (some ⟨g3, 0, none⟩) l0_3.length cc3) := (blk_cell X0.out 3).trans rfl;
       clear hm hbw hk TV7 HN7; clear _t tok8; have tok9 : True := trivial)
    | (go_at_call 31; have _t := tok9; (with_reducible refine (heldIntS_marks K R1.length 101 mm A7 e7 _ _ _ V7.out hHC.out).mono ?_); rintro e w11 ⟨rfl, ⟨nd, rfl⟩⟩; skip; clear _t tok9; have tok10 : True := trivial)
    | (go_at_call 13; have _t := tok10; (with_reducible refine (laws_toFigure.calls K a0_0 a0_1 A0_2 c0_2 l0_2 A0_3 c0_3 l0_3 true a0_0 a0_1 l0_2 l0_3 _ (Kd.C_below HR2.out (pw_below_drewN HB.out _)) HC2.out (Kd.C_below HR3.out (pw_below_drewN HB.out _)) HC3.out hT1.out).mono ?_); rintro e w12 ⟨u2, u3, rfl, hu2, hu3, hb⟩; have n0_ := Aside0.mk (below_step (pw_below_drewN HB.out _) hb);
       have n1_ := Aside0.mk (blk_keep (blk_drewN Q0.out _) hb);
       have n2_ := Aside0.mk (Kd.R_below (Kd.R_drewN V4.out _) hb);
       have n3_ := Aside0.mk (blk_keep (blk_drewN X0.out _) hb);
       have n4_ := Aside0.mk (Kd.R_below (Kd.R_drewN V7.out _) hb);
       clear q0 q1 q2 q3 x0 x1 x2 x3 HB Q0 V4 X0 V7;
       have HB := n0_;
       have Q0 := n1_;
       have V4 := n2_;
       have X0 := n3_;
       have V7 := n4_;
       clear n0_ n1_ n2_ n3_ n4_;
       have q0 : w12.cell? ⟨w.heap.size, 0, none⟩ = some (.int .i64 a0_0) := (blk_cell Q0.out 0).trans rfl;
       have q1 : w12.cell? ⟨w.heap.size, 1, none⟩ = some (.int .i64 a0_1) := (blk_cell Q0.out 1).trans rfl;
       have q2 : w12.cell? ⟨w.heap.size, 2, none⟩ = some (.slice A0_2 l0_2.length c0_2) := (blk_cell Q0.out 2).trans rfl;
       have q3 : w12.cell? ⟨w.heap.size, 3, none⟩ = some (.slice A0_3 l0_3.length c0_3) := (blk_cell Q0.out 3).trans rfl;
       have x0 : w12.cell? ⟨w4.heap.size, 0, none⟩ = some (.int .i64 a0_0) := (blk_cell X0.out 0).trans rfl;
       have x1 : w12.cell? ⟨w4.heap.size, 1, none⟩ = some (.int .i64 a0_1) := (blk_cell X0.out 1).trans rfl;
       have x2 : w12.cell? ⟨w4.heap.size, 2, none⟩ = some (.slice (some ⟨g2, 0, none⟩) l0_2.length cc2) := (blk_cell X0.out 2).trans rfl;
       have x3 : w12.cell? ⟨w4.heap.size, 3, none⟩ = some (.slice (some ⟨g3, 0, none⟩) l0_3.length cc3) := (blk_cell X0.out 3).trans rfl;
       obtain ⟨B2, d2, rfl⟩ := Kd.R_slice hu2;
       obtain ⟨B3, d3, rfl⟩ := Kd.R_slice hu3;
       have U2 := Aside0.mk (Kd.R_reads' hu2).2;
       have U3 := Aside0.mk (Kd.R_reads' hu3).2;
       clear hb hu2 hu3; clear _t tok10; have tok11 : True := trivial)
    | (go_at_call 33; have _t := tok11; (with_reducible refine (HI.out B2 d2 B3 d3 _ U2.out.2 U2.out.1 U3.out.2 U3.out.1 (HGT.out _ HB.out)).mono ?_); rintro e w13 ⟨v12, rfl, ho, hb⟩; have n0_ := Aside0.mk (below_step HB.out hb);
       have n1_ := Aside0.mk (blk_keep Q0.out hb);
       have n2_ := Aside0.mk (Kd.R_below V4.out hb);
       have n3_ := Aside0.mk (blk_keep X0.out hb);
       have n4_ := Aside0.mk (Kd.R_below V7.out hb);
       clear q0 q1 q2 q3 x0 x1 x2 x3 HB Q0 V4 X0 V7;
       have HB := n0_;
       have Q0 := n1_;
       have V4 := n2_;
       have X0 := n3_;
       have V7 := n4_;
       clear n0_ n1_ n2_ n3_ n4_;
       have q0 : w13.cell? ⟨w.heap.size, 0, none⟩ = some (.int .i64 a0_0) := (blk_cell Q0.out 0).trans rfl;
       have q1 : w13.cell? ⟨w.heap.size, 1, none⟩ = some (.int .i64 a0_1) := (blk_cell Q0.out 1).trans rfl;
       have q2 : w13.cell? ⟨w.heap.size, 2, none⟩ = some (.slice A0_2 l0_2.length c0_2) := (blk_cell Q0.out 2).trans rfl;
       have q3 : w13.cell? ⟨w.heap.size, 3, none⟩ = some (.slice A0_3 l0_3.length c0_3) := (blk_cell Q0.out 3).trans rfl;
       have x0 : w13.cell? ⟨w4.heap.size, 0, none⟩ = some (.int .i64 a0_0) := (blk_cell X0.out 0).trans rfl;
       have x1 : w13.cell? ⟨w4.heap.size, 1, none⟩ = some (.int .i64 a0_1) := (blk_cell X0.out 1).trans rfl;
       have x2 : w13.cell? ⟨w4.heap.size, 2, none⟩ = some (.slice (some ⟨g2, 0, none⟩) l0_2.length cc2) := (blk_cell X0.out 2).trans rfl;
       have x3 : w13.cell? ⟨w4.heap.size, 3, none⟩ = some (.slice (some ⟨g3, 0, none⟩) l0_3.length cc3) := (blk_cell X0.out 3).trans rfl;
       obtain ⟨A12, e12, rfl⟩ := Kd.R_slice ho;
       have V12 := Aside0.mk (Kd.R_reads' ho).2;
       clear hb ho U2 U3; clear _t tok11; have tok12 : True := trivial)
    | (go_at_call 28; have _t := tok12; (with_reducible refine (laws_eqIntS.calls K _ _ R1 _ _ R1 true _ V12.out.2 V12.out.1 (Kd.R_reads' V4.out).2.2 (Kd.R_reads' V4.out).2.1 hE.out).mono ?_); rintro e w14 ⟨rfl, ⟨nd14, rfl⟩⟩; have HBe := Aside0.mk HB.out;
       have n0_ := Aside0.mk (pw_below_drewN HB.out nd14);
       have n1_ := Aside0.mk (blk_drewN Q0.out nd14);
       have n2_ := Aside0.mk (Kd.R_drewN V4.out nd14);
       have n3_ := Aside0.mk (blk_drewN X0.out nd14);
       have n4_ := Aside0.mk (Kd.R_drewN V7.out nd14);
       clear q0 q1 q2 q3 x0 x1 x2 x3 HB Q0 V4 X0 V7;
       have HB := n0_;
       have Q0 := n1_;
       have V4 := n2_;
       have X0 := n3_;
       have V7 := n4_;
       clear n0_ n1_ n2_ n3_ n4_;
       clear V12; clear _t tok12; have tok13 : True := trivial)
    | (go_at_call 31; have _t := tok13; (with_reducible refine (heldIntS_marks K R1.length 101 mm A7 e7 _ _ _ V7.out hHC.out).mono ?_); rintro e w15 ⟨rfl, ⟨nd2, rfl⟩⟩; skip; clear _t tok13; have tok14 : True := trivial))
  go_ret
  exact ⟨by first | rfl | simp, pw_below_drewN HBe.out _⟩

end Go.Proofs.YtgakmcoeccmkbaaDoor.P


namespace Go.Proofs.YtgakmcoeccmkbaaDoor.P
open Go.RowKit Go.Proofs.YtgakmcoeccmkbaaDoorW.PrintWords Go.Proofs.YtgakmcoeccmkbaaDoorW.PrintLast Go.Proofs.YtgakmcoeccmkbaaDoorW.PrintMore
attribute [local go_sem] max2_int min2_int max_two min_two max_three min_three max_four min_four   -- for this text's walks alone
set_option linter.unusedVariables false
set_option linter.unusedSimpArgs false

set_option maxHeartbeats 4000000 in
theorem impl_SquaresByTakes_any (K : Nat) (fW fH : Int) (A2 A3 : Option Addr) (c2 c3 : Nat) (l2 l3 : List Int) (mt : Int) (few : Bool) (s al n : Nat) (L : List S83) (cn : Nat → Nat) (nd : Nat → Int) (w : World) (hr2 : Kd.C (Kd.int .i64) w A2 l2.length l2) (hc2 : l2.length ≤ c2) (hr3 : Kd.C (Kd.int .i64) w A3 l3.length l3) (hc3 : l3.length ≤ c3) (hT : TB w) (hfew : impl_isFew.f K fW fH l2 l3 = some few) (hok : few = true → FigOK K fW fH l2 l3 s al L (fun x => ((cn x : Nat) : Int)) nd) (hn : n ≤ 31) (hcn : ∀ x, cn x < n) :
    Calls Tryd.prog 33 #[.agg #[.int .i64 fW, .int .i64 fH, .slice A2 l2.length c2, .slice A3 l3.length c3], .int .i64 mt] w fun e w' => ∃ v, e = .returned (.tuple #[v, .bool (byAns few s al n cn mt false).2]) ∧ Kd.R (Kd.int .i64) 3 w' w.heap.size (fun _ => True) v (byAns few s al n cn mt false).1 ∧ Below w.heap.size w w' := by
  have HC := Aside0.mk (numbers_any K fW fH A2 A3 c2 c3 l2 l3 mt false few s al n L cn nd (w.alloc (.cells #[.int .i64 fW, .int .i64 fH, .slice A2 l2.length c2, .slice A3 l3.length c3] 28)) (Kd.C_alloc hr2 _) hc2 (Kd.C_alloc hr3 _) hc3 (hT.below (below_alloc (Below.refl _ _) _)) hfew hok hn hcn)
  clear hr2 hc2 hr3 hc3 hT hfew hok hn hcn
  generalize byAns few s al n cn mt false = R at HC ⊢
  obtain ⟨R1, R2⟩ := R
  go_enter Tryd.func33, Tryd.ntmps33
  go_wp2_with ((go_at_call 42; refine HC.out.mono ?_; rintro e w1 ⟨v, rfl, ho, hb⟩; have HO := Aside0.mk (Kd.R_lower ho (show w.heap.size ≤ _ by simp)); have HB := Aside0.mk (below_step (below_alloc (Below.refl w.heap.size w) _) hb); clear hb ho))
  go_ret2
  exact ⟨_, rfl, HO.out, HB.out⟩

end Go.Proofs.YtgakmcoeccmkbaaDoor.P


namespace Go.Proofs.YtgakmcoeccmkbaaDoor.P
open Go.RowKit Go.Proofs.YtgakmcoeccmkbaaDoorW.PrintWords Go.Proofs.YtgakmcoeccmkbaaDoorW.PrintLast Go.Proofs.YtgakmcoeccmkbaaDoorW.PrintMore
attribute [local go_sem] max2_int min2_int max_two min_two max_three min_three max_four min_four   -- for this text's walks alone
set_option linter.unusedVariables false
set_option linter.unusedSimpArgs false

def spec_SquaresByTakes.f (k : Nat) (a0_0 : Int) (a0_1 : Int) (l0_2 : List Int) (l0_3 : List Int) (a1 : Int) : Option (List Int × Bool) := (spec_moBy.f k a0_0 a0_1 l0_2 l0_3 a1 false).bind fun bt430 => (some (bt430.1, bt430.2))
theorem spec_SquaresByTakes.mono : ∀ a0 a1 a2 a3 a4 k, LeO (spec_SquaresByTakes.f k a0 a1 a2 a3 a4) (spec_SquaresByTakes.f (k + 1) a0 a1 a2 a3 a4) := by
  intro a0 a1 a2 a3 a4 k
  unfold spec_SquaresByTakes.f
  repeat' first
      | (with_reducible exact spec_moBy.mono _ _ _ _ _ _ _)
      | (with_reducible exact LeO.refl _)
      | (with_reducible exact LeO.none _)
      | (with_reducible refine LeO.ite ?_ ?_)
      | (with_reducible refine LeO.bind ?_ (fun _ => ?_))
      | exact spec_moBy.mono _ _ _ _ _ _ _
      | exact LeO.none _
      | refine LeO.ite ?_ ?_
      | refine LeO.bind ?_ (fun _ => ?_)
set_option maxHeartbeats 8000000 in
set_option maxRecDepth 100000 in
theorem spec_SquaresByTakes.calls (k : Nat) (a0_0 : Int) (a0_1 : Int) (A0_2 : Option Addr) (c0_2 : Nat) (l0_2 : List Int) (A0_3 : Option Addr) (c0_3 : Nat) (l0_3 : List Int) (a1 : Int) (r1 : List Int) (r2 : Bool) (w : World) (hr0_2 : Kd.C (Kd.int .i64) w A0_2 l0_2.length l0_2) (hc0_2 : l0_2.length ≤ c0_2) (hr0_3 : Kd.C (Kd.int .i64) w A0_3 l0_3.length l0_3) (hc0_3 : l0_3.length ≤ c0_3) (h : spec_SquaresByTakes.f k a0_0 a0_1 l0_2 l0_3 a1 = some (r1, r2)) :
    Calls Tryd.prog 32 #[.agg #[.int .i64 a0_0, .int .i64 a0_1, .slice A0_2 l0_2.length c0_2, .slice A0_3 l0_3.length c0_3], .int .i64 a1] w fun e w' => ∃ v0_ : Value, e = .returned (.tuple #[v0_, .bool r2]) ∧ Kd.R (Kd.int .i64) 3 w' w.heap.size (fun _ => True) v0_ r1 ∧ Below w.heap.size w w' := by
  have hu28 := Tryd.underlying28
  have HR0_2 := Aside0.mk hr0_2
  have HC0_2 := Aside0.mk hc0_2
  clear hr0_2 hc0_2
  have HR0_3 := Aside0.mk hr0_3
  have HC0_3 := Aside0.mk hc0_3
  clear hr0_3 hc0_3
  have HB := Aside0.mk (Below.refl w.heap.size w)
  have H : ((spec_moBy.f k a0_0 a0_1 l0_2 l0_3 a1 false).bind fun bt430 => (some (bt430.1, bt430.2))) = some (r1, r2) := h
  clear h
  replace H := Option.bind_eq_some_iff.mp H
  obtain ⟨⟨t430, t433⟩, A30, H⟩ := H
  replace H : (some (t430, t433)) = some (r1, r2) := H
  have A3 := Aside0.mk A30
  clear A30
  simp only [Option.some.injEq, Prod.mk.injEq] at H
  obtain ⟨rfl, rfl⟩ := H
  go_enter Tryd.func32, Tryd.ntmps32
  go_wp2_with (first | ((with_reducible refine gate_dst (N := 2) rfl ?_); refine box_event ?hg (N := 2) ?hd (cs := #[.int .i64 a0_0, .int .i64 a0_1, .slice A0_2 l0_2.length c0_2, .slice A0_3 l0_3.length c0_3]) (t := 28) ?hr ?_; (case hd => rfl); (case hg => rfl); (case hr => first | (go_simp; done) | (go_simp; rfl)); intro gb429 hg w4 hbox hb; have n0_ := Aside0.mk (below_step (by repeat (first | (with_reducible first | exact HB.out | apply below_alloc | apply pw_below_drewN | apply below_drew1) | exact HB.out)) hb); have n1_ := Aside0.mk (hbox); have n2_ := Aside0.mk ((by rw [hg]; exact (below_size (by repeat (first | (with_reducible first | exact HB.out | apply below_alloc | apply pw_below_drewN | apply below_drew1) | exact HB.out))) : w.heap.size ≤ gb429)); have n3_ := Aside0.mk ((by rw [hg]; exact (below_size (by repeat (first | (with_reducible first | exact HB.out | apply below_alloc | apply pw_below_drewN | apply below_drew1) | exact HB.out))) : w.heap.size ≤ gb429)); clear HB; have HB := n0_; have BK429 := n1_; have GW429 := n2_; have GE429 := n3_; clear n0_ n1_ n2_ n3_; clear hb hbox hg; have hcz5_0 : w4.cell? ⟨gb429, 0, none⟩ = some (.int .i64 a0_0) := (blk_cell BK429.out 0).trans rfl; have hcz5_1 : w4.cell? ⟨gb429, 1, none⟩ = some (.int .i64 a0_1) := (blk_cell BK429.out 1).trans rfl; have hcz5_2 : w4.cell? ⟨gb429, 2, none⟩ = some (.slice A0_2 l0_2.length c0_2) := (blk_cell BK429.out 2).trans rfl; have hcz5_3 : w4.cell? ⟨gb429, 3, none⟩ = some (.slice A0_3 l0_3.length c0_3) := (blk_cell BK429.out 3).trans rfl; have hfz5_0 := blk_frozen BK429.out 0; have hfz5_1 := blk_frozen BK429.out 1; have hfz5_2 := blk_frozen BK429.out 2; have hfz5_3 := blk_frozen BK429.out 3) | ((with_reducible refine gate_callee (f := 41) rfl ?_); refine goesL_ (some 8) rfl rfl Tryd.func41 (by kernel_rfl) rfl #[.agg #[.int .i64 a0_0, .int .i64 a0_1, .slice A0_2 l0_2.length c0_2, .slice A0_3 l0_3.length c0_3], .int .i64 a1, .bool false] rfl (by (try simp only [List.map_toArray, List.map_cons, List.map_nil]); first | done | rfl | (simp only [List.length_drop, List.length_take]; rfl)) ?_; (with_reducible refine (spec_moBy.calls k a0_0 a0_1 _ _ l0_2 _ _ l0_3 a1 false t430 t433 _ ?side1 ?side2 ?side3 ?side4 A3.out).mono ?_); (case side1 => repeat (first | exact (Kd.C_below HR0_2.out HB.out) | (with_reducible refine Kd.C_alloc ?_ _) | (with_reducible refine Kd.C_drewN ?_ _) | (with_reducible refine Kd.C_drew ?_))); (case side2 => exact HC0_2.out); (case side3 => repeat (first | exact (Kd.C_below HR0_3.out HB.out) | (with_reducible refine Kd.C_alloc ?_ _) | (with_reducible refine Kd.C_drewN ?_ _) | (with_reducible refine Kd.C_drew ?_))); (case side4 => exact HC0_3.out); rintro e w6 ⟨v431, rfl, ho0, hb⟩; refine ⟨_, rfl, ?_⟩; have n0_ := Aside0.mk (Kd.R_lower ho0 (below_size (by repeat (first | (with_reducible first | exact HB.out | apply below_alloc | apply pw_below_drewN | apply below_drew1 | refine below_set ?_ GE429.out) | exact HB.out)))); have n1_ := Aside0.mk (blk_below (g := gb429) (o := .cells #[.int .i64 a0_0, .int .i64 a0_1, .slice A0_2 l0_2.length c0_2, .slice A0_3 l0_3.length c0_3] 28 (0, 0)) (by (with_reducible repeat (first | refine blk_drewN ?_ _ | refine blk_drew ?_ | refine blk_alloc ?_ _)); exact BK429.out) hb); have n2_ := Aside0.mk (below_step (by repeat (first | (with_reducible first | exact HB.out | apply below_alloc | apply pw_below_drewN | apply below_drew1 | refine below_set ?_ GE429.out) | exact HB.out)) hb); clear BK429; clear HB; have HO432 := n0_; have BK429 := n1_; have HB := n2_; clear n0_ n1_ n2_; (try clear hb); (try clear hb2); (try clear hk); (try clear hi); (try clear ho0)))
  go_ret2
  exact ⟨_, by first | rfl | (simp [errW_none, errW_some] <;> rfl) | (simp [*, errW_none, errW_some] <;> rfl), by (with_reducible repeat (first | apply Kd.R_alloc | apply Kd.R_drewN | apply Kd.R_drew)); exact HO432.out, by repeat (first | (with_reducible first | exact HB.out | apply below_alloc | apply pw_below_drewN | apply below_drew1 | refine below_set ?_ GE429.out) | exact HB.out)⟩

end Go.Proofs.YtgakmcoeccmkbaaDoor.P


namespace Go.Proofs.YtgakmcoeccmkbaaDoor.fnExactSquaresByTakes
open Go.ChangeShapes Go.WideShapes Go.ChangeAt Go.RowKit Go.Proofs.YtgakmcoeccmkbaaDoorW.PrintWords Go.Joins
set_option linter.unusedVariables false
theorem own : ownKnob Tryd.prog.godebug = none := Closed.own
theorem laidOut : laidOutB Tryd.prog = true := Closed.laidOut
def IsRow (k : IntKind) (w : World) (a : Option Addr) (len cap : Nat) (zs : List Int) : Prop :=
  (a = none ∧ len = 0 ∧ cap = 0 ∧ zs = []) ∨
  ∃ x, a = some x ∧ len ≤ cap ∧ cap ≤ maxLen ∧ zs.length = cap ∧ (∀ i, i < zs.length → w.cell? (x.add i) = some (.int k (zs.getD i 0))) ∧ ∀ n ∈ zs, (Lit.int k n).wf = true
theorem opened {H : Type} {enc : TypeId × Value → H} {W : World} {m : Nat} {c : Value} {y : DataW H × List MemPlace} (hy : DataW.trod enc Tryd.prog W 0 (fun _ => true) true m 22 [c] = some y) :
    ∃ a len cap zs, c = .slice a len cap ∧ IsRow .i64 W a len cap zs := by
  rcases open_ints Tryd.underlying22 Tryd.underlying3 (by kernel_rfl) hy with ⟨hcs, _⟩ | ⟨x, l, c, zs, hcs, _, hl, hm, hz, _, hcell, hwz⟩
  · simp at hcs
    exact ⟨none, 0, 0, [], hcs, .inl ⟨rfl, rfl, rfl, rfl⟩⟩
  · simp at hcs
    exact ⟨some x, l, c, zs, hcs, .inr ⟨_, rfl, hl, hm, by simpa using hz, hcell, hwz⟩⟩
theorem walk (a b : Int) (A2 : Option Addr) (n2 c2 : Nat) (z2 : List Int) (A3 : Option Addr) (n3 c3 : Nat) (z3 : List Int) (x1 : Int) (w : World) (w2 : IsRow .i64 w A2 n2 c2 z2) (w3 : IsRow .i64 w A3 n3 c3 z3) (y2 : n2 * 8 ≤ 140737488351232) (y3 : n3 * 8 ≤ 140737488351232) (hT : P.TB w) :
    Calls Tryd.prog 10 #[.agg #[.int .i64 a, .int .i64 b, .slice A2 n2 c2, .slice A3 n3 c3], .int .i64 x1] w fun e w' => e = .returned (.bool true) ∧ Below w.heap.size w w' := by
  obtain ⟨l2, rfl, hr2, hm2, hw2, hc2⟩ := ReadsInt.ofRowC w2
  obtain ⟨l3, rfl, hr3, hm3, hw3, hc3⟩ := ReadsInt.ofRowC w3
  have k2 := Kd.C_of_reads (d := (0 : Int)) (h1 := fun _ => rfl) hr2
  have k3 := Kd.C_of_reads (d := (0 : Int)) (h1 := fun _ => rfl) hr3
  by_cases hbig : l2.length + l3.length ≤ 1000000
  · have b2 : l2.length ≤ 1000000 := Nat.le_trans (Nat.le_add_right _ _) hbig
    have b3 : l3.length ≤ 1000000 := Nat.le_trans (Nat.le_add_left _ _) hbig
    obtain ⟨s, al, L, cn, nd, n, hok, hn, hcn, hpure⟩ := P.SquaresBy_pure (w := a) (h := b) (a := l2) (u := l3) b2 b3 20000001 (by decide)
    exact P.law_SquaresByTakes_yes a b A2 c2 l2 A3 c3 l3 x1 4000001 _ _ P.TB (fun _ _ h hb => h.below hb) w k2 hc2 k3 hc3 hT hbig (P.byAns_len (P.fewB a b l2 l3) s al n cn x1 false hn) (Nat.lt_succ_self _)
      (fun B2 d2 B3 d3 W hu2 hd2 hu3 hd3 hG => P.spec_SquaresByTakes.calls 20000001 a b B2 d2 l2 B3 d3 l3 x1 _ _ W hu2 hd2 hu3 hd3 (by unfold P.spec_SquaresByTakes.f; rw [hpure x1 false]; rfl))
      (fun B2 d2 B3 d3 W hu2 hd2 hu3 hd3 hG => P.impl_SquaresByTakes_any 20000001 a b B2 B3 d2 d3 l2 l3 x1 (P.fewB a b l2 l3) s al n L cn nd W hu2 hd2 hu3 hd3 hG (P.isFew_f a b l2 l3 b2 b3 _ (by decide)) hok hn hcn)
  · exact P.law_SquaresByTakes_no a b A2 c2 l2 A3 c3 l3 x1 w k2 hc2 k3 hc3 (by clear hbig; omega) (by clear hbig; omega) hbig
theorem joined_mk (P : Program) (f : FuncId) (fn : Func) (s : ChangeSpec) (c : OpenClaim) (k0 : (c.wf (OpenSpec.ofChange s)) = true) (k1 : (laidOutB P) = true) (k2 : (mapsRowed P) = true) (k3 : (fn.params.all (P.readableRec ·)) = true) (k4 : (namedTie P c.named s.vars) = true) (k5 : ((c.stops == [])) = true) (k6 : ((P.stops == [])) = true) (k7 : ((c.knobs == [])) = true) (k8 : ((P.stopKnobs == [])) = true) (k9 : ((c.inPlace == P.inPlace f)) = true) (k10 : ((c.unfollowed == P.unfollowed f)) = true) (k11 : ((c.recurses == P.recurses f)) = true) (k12 : ((c.named == P.varsNamed f)) = true) (k13 : ((c.maps == (fn.params.toList ++ s.plain.varTypes P).any (P.mapsRec ·))) = true) (k14 : ((c.ifaces == (fn.params.toList ++ s.plain.varTypes P).any (P.ifacesRec ·))) = true) (k15 : ((c.mapsOut == P.mapsAmong fn.resultTypes.toList)) = true) (k16 : ((c.loops == (fn.params.toList ++ s.plain.varTypes P).any (P.loopsFrom ·))) = true) (k17 : ((c.wideKeys == (fn.params.toList ++ s.plain.varTypes P ++ fn.resultTypes.toList).any (P.wideKeysFrom ·))) = true) (k18 : (s.vars.all (P.varReadable ·)) = true) (k19 : (fn.resultTypes.all (fun t => P.readableRec t && decide (t < P.types.size))) = true) (k20 : ((c.ifacesOut == fn.resultTypes.toList.any (P.ifacesRec ·))) = true) (k21 : ((c.loopsOut == fn.resultTypes.toList.any (P.loopsFrom ·))) = true) (k22 : ((c.plainKeys == P.plainKeys)) = true) (k23 : (c.shortTexts.isNone) = true) (k24 : (P.stopsHeard) = true) (k25 : (P.mayEnter) = true) (k26 : ((c.lifted == P.liftsFinal)) = true) (k27 : ((P.make == some c.make)) = true) (hd : c.domain.isEmpty = true) (k28 : (c.kinds == []) = true) (k29 : ((c.pinned == c.pinnedBy)) = true) (k30 : ((c.veiled == (fn.params.toList ++ s.plain.varTypes P ++ fn.resultTypes.toList).any (P.veiledRec ·))) = true) (k31 : (c.veiledFits P fn.params.toList (fn.params.toList ++ s.plain.varTypes P ++ fn.resultTypes.toList)) = true) : joinedFacts P f fn s c = true := by
  unfold joinedFacts
  simp only [hd, if_true, k0, k1, k2, k3, k4, k5, k6, k7, k8, k9, k10, k11, k12, k13, k14, k15, k16, k17, k18, k19, k20, k21, k22, k23, k24, k25, k26, k27, k28, k29, k30, k31, Bool.and_self]
abbrev LAID : List (String × DataW Unit) := [("math/bits.deBruijn64tab", Rows.laid_math_bits_deBruijn64tab)]
set_option maxRecDepth 100000 in
theorem lifted (os : Os) (started : os.Started) (H : Type) (enc : TypeId × Value → H) :
    ReturnsInHanded {} Tryd.checked os 10 .any (fun w args => (Rows.fnExactSquaresByTakesSpec.pre enc Tryd.prog Tryd.f10 [] false w args ∧ laidMetH Tryd.prog LAID w) ∧ sizedMet enc Tryd.prog Tryd.f10 (OpenSpec.ofChange Rows.fnExactSquaresByTakesSpec) false w args) (Rows.fnExactSquaresByTakesSpec.post enc Tryd.prog Tryd.f10 false true false false) := by
  refine returnsInHanded_of_change_and (C := Tryd.checked) (X := fun w _ => laidMetH Tryd.prog LAID w) (fun _ _ _ hh h => h.of_heap hh) own started (by kernel_rfl) Tryd.func10 (ChangeSpec.witness_at (enc := enc) (C := Tryd.checked) (os := os) (X := fun w _ => laidMetH Tryd.prog LAID w) false (Laid.laidWorld os) #[.agg #[.int .i64 0, .int .i64 0, .slice none 0 0, .slice none 0 0], .int .i64 0] 8 rfl (by kernel_rfl) (by kernel_rfl) (by kernel_rfl) (by kernel_rfl) (by kernel_rfl) (Laid.laidWorld_met os _)) ?_
  intro W base args ds gs before hval0 hW hcnd hsz0 hL _
  have hT : P.TB W := Laid.tb hL
  have hsz : (DataW.weightsEach Tryd.prog (Tryd.f10.params.toList ++ Rows.fnExactSquaresByTakesSpec.plain.varTypes Tryd.prog) (ds ++ gs)).all (· ≤ reachBytes) = true := hsz0
  have hval : ∀ (j : Nat) t v, Tryd.f10.params[j]? = some t → args[j]? = some v → Value.okWide Tryd.prog W .any base t v := hval0
  have hW' := hW
  obtain ⟨p, q, hA0, hV, rfl, hfz, hnd⟩ := hW
  have hA : DataW.TrodAll enc Tryd.prog W 0 (fun _ => true) true Tryd.f10.params.toList args.toList ds p := hA0
  rw [Tryd.params10] at hA hval hsz
  obtain ⟨v0, vs0, d0, ds0, p0, q0, hargs, rfl, rfl, h0, r0⟩ := trodAll_cons hA
  obtain ⟨v1, vs1, d1, ds1, p1, q1, rfl, rfl, rfl, h1, r1⟩ := trodAll_cons r0
  obtain ⟨rfl, rfl, rfl⟩ := trodAll_nil r1
  obtain rfl : args = #[v0, v1] := by cases args; simp_all
  obtain ⟨rfl, rfl⟩ := trodVars_none hV
  have k0 := h0
  have lt0 : ∀ x ∈ p0, x.block < W.heap.size := by obtain ⟨m, hm⟩ := k0; exact DataW.trod_lt m _ _ _ hm
  obtain ⟨x1, rfl, rfl, rfl, wf1⟩ := open_int Tryd.underlying3 (hval 1 3 v1 rfl rfl) h1
  obtain ⟨c0, c1, c2, c3, y0, y1, y2, y3, m, rfl, rfl, rfl, hy0, hy1, hy2, hy3⟩ := open_agg4 Tryd.underlying24 (by kernel_rfl) (by kernel_rfl) (hval 0 24 v0 rfl rfl) h0
  have hsz2 : (DataW.weightsEach Tryd.prog [3, 3, 22, 22] [y0.1, y1.1, y2.1, y3.1]).all (· ≤ reachBytes) = true := by
    rw [List.all_eq_true]
    intro n hn
    exact List.all_eq_true.1 hsz n (DataW.weights_mem_each (j := 0) (t := 24) (d := .agg [y0.1, y1.1, y2.1, y3.1]) rfl rfl n (by simp only [DataW.weights, Tryd.underlying24]; exact hn))
  obtain ⟨a, e0, -, wa⟩ := DataW.trod_int Tryd.underlying3 hy0
  obtain ⟨b, e1, -, wb⟩ := DataW.trod_int Tryd.underlying3 hy1
  obtain ⟨a2, len2, cap2, z2, rfl, w2⟩ := opened hy2
  obtain ⟨a3, len3, cap3, z3, rfl, w3⟩ := opened hy3
  have z2_ : len2 * 8 ≤ 140737488351232 := sized_ints hsz2 (j := 2) (t := 22) rfl rfl Tryd.underlying22 Tryd.underlying3 (by kernel_rfl) (by kernel_rfl) (⟨m, by simpa [Value.cells] using hy2⟩ : DataW.Trod enc Tryd.prog W 0 (fun _ => true) true 22 (.slice a2 len2 cap2) y2.1 y2.2)
  have z3_ : len3 * 8 ≤ 140737488351232 := sized_ints hsz2 (j := 3) (t := 22) rfl rfl Tryd.underlying22 Tryd.underlying3 (by kernel_rfl) (by kernel_rfl) (⟨m, by simpa [Value.cells] using hy3⟩ : DataW.Trod enc Tryd.prog W 0 (fun _ => true) true 22 (.slice a3 len3 cap3) y3.1 y3.2)
  obtain rfl : c0 = .int .i64 a := by simpa using e0
  obtain rfl : c1 = .int .i64 b := by simpa using e1
  clear hA0 hval0 hsz0 hsz hsz2
  refine (walk a b a2 len2 cap2 z2 a3 len3 cap3 z3 x1 W w2 w3 z2_ z3_ hT).mono fun e W' ⟨he, bel⟩ => ?_
  subst he
  exact ⟨_, rfl, _, _, _, [], _, [], hW', trodAll_mk1 (shut_bool Tryd.underlying4 _), (trodAll_cons_mk (Below.trod laidOut (by kernel_rfl) (of_decide_eq_true (by kernel_rfl)) k0 bel lt0) (trodAll_cons_mk (shut_int Tryd.underlying3 wf1) trodAll_mk0)), rfl, bel.frame _, fun h => by cases h⟩
theorem k0_ : (Rows.fnExactSquaresByTakesRow.wf (OpenSpec.ofChange Rows.fnExactSquaresByTakesSpec)) = true := by kernel_rfl
theorem k1_ : (laidOutB Tryd.prog) = true := Closed.laidOut
theorem k2_ : (mapsRowed Tryd.prog) = true := Closed.mapsRowedP
theorem k3_ : (Tryd.f10.params.all (Tryd.prog.readableRec ·)) = true := by kernel_rfl
theorem k4_ : (namedTie Tryd.prog Rows.fnExactSquaresByTakesRow.named Rows.fnExactSquaresByTakesSpec.vars) = true := by kernel_rfl
theorem k5_ : ((Rows.fnExactSquaresByTakesRow.stops == [])) = true := by kernel_rfl
theorem k6_ : ((Tryd.prog.stops == [])) = true := Closed.noStops
theorem k7_ : ((Rows.fnExactSquaresByTakesRow.knobs == [])) = true := by kernel_rfl
theorem k8_ : ((Tryd.prog.stopKnobs == [])) = true := Closed.noKnobs
theorem k9_ : ((Rows.fnExactSquaresByTakesRow.inPlace == Tryd.prog.inPlace 10)) = true := by kernel_rfl
theorem k10_ : ((Rows.fnExactSquaresByTakesRow.unfollowed == Tryd.prog.unfollowed 10)) = true := by kernel_rfl
theorem k11_ : ((Rows.fnExactSquaresByTakesRow.recurses == Tryd.prog.recurses 10)) = true := by kernel_rfl
theorem k12_ : ((Rows.fnExactSquaresByTakesRow.named == Tryd.prog.varsNamed 10)) = true := by kernel_rfl
theorem k13_ : ((Rows.fnExactSquaresByTakesRow.maps == (Tryd.f10.params.toList ++ Rows.fnExactSquaresByTakesSpec.plain.varTypes Tryd.prog).any (Tryd.prog.mapsRec ·))) = true := by kernel_rfl
theorem k14_ : ((Rows.fnExactSquaresByTakesRow.ifaces == (Tryd.f10.params.toList ++ Rows.fnExactSquaresByTakesSpec.plain.varTypes Tryd.prog).any (Tryd.prog.ifacesRec ·))) = true := by kernel_rfl
theorem k15_ : ((Rows.fnExactSquaresByTakesRow.mapsOut == Tryd.prog.mapsAmong Tryd.f10.resultTypes.toList)) = true := by kernel_rfl
theorem k16_ : ((Rows.fnExactSquaresByTakesRow.loops == (Tryd.f10.params.toList ++ Rows.fnExactSquaresByTakesSpec.plain.varTypes Tryd.prog).any (Tryd.prog.loopsFrom ·))) = true := by kernel_rfl
theorem k17_ : ((Rows.fnExactSquaresByTakesRow.wideKeys == (Tryd.f10.params.toList ++ Rows.fnExactSquaresByTakesSpec.plain.varTypes Tryd.prog ++ Tryd.f10.resultTypes.toList).any (Tryd.prog.wideKeysFrom ·))) = true := by kernel_rfl
theorem k18_ : (Rows.fnExactSquaresByTakesSpec.vars.all (Tryd.prog.varReadable ·)) = true := by kernel_rfl
theorem k19_ : (Tryd.f10.resultTypes.all (fun t => Tryd.prog.readableRec t && decide (t < Tryd.prog.types.size))) = true := by kernel_rfl
theorem k20_ : ((Rows.fnExactSquaresByTakesRow.ifacesOut == Tryd.f10.resultTypes.toList.any (Tryd.prog.ifacesRec ·))) = true := by kernel_rfl
theorem k21_ : ((Rows.fnExactSquaresByTakesRow.loopsOut == Tryd.f10.resultTypes.toList.any (Tryd.prog.loopsFrom ·))) = true := by kernel_rfl
theorem k22_ : ((Rows.fnExactSquaresByTakesRow.plainKeys == Tryd.prog.plainKeys)) = true := by kernel_rfl
theorem k23_ : (Rows.fnExactSquaresByTakesRow.shortTexts.isNone) = true := by kernel_rfl
theorem k24_ : (Tryd.prog.stopsHeard) = true := Closed.stopsHeard
theorem k25_ : (Tryd.prog.mayEnter) = true := Closed.mayEnter
theorem k26_ : ((Rows.fnExactSquaresByTakesRow.lifted == Tryd.prog.liftsFinal)) = true := by rw [Closed.liftsFinal]; kernel_rfl
theorem k27_ : ((Tryd.prog.make == some Rows.fnExactSquaresByTakesRow.make)) = true := by rw [Closed.make]; kernel_rfl
theorem k28_ : ((Rows.fnExactSquaresByTakesRow.kinds == [])) = true := by kernel_rfl
theorem k29_ : ((Rows.fnExactSquaresByTakesRow.pinned == Rows.fnExactSquaresByTakesRow.pinnedBy)) = true := by kernel_rfl
theorem k30_ : ((Rows.fnExactSquaresByTakesRow.veiled == (Tryd.f10.params.toList ++ Rows.fnExactSquaresByTakesSpec.plain.varTypes Tryd.prog ++ Tryd.f10.resultTypes.toList).any (Tryd.prog.veiledRec ·))) = true := by kernel_rfl
theorem k31_ : (Rows.fnExactSquaresByTakesRow.veiledFits Tryd.prog Tryd.f10.params.toList (Tryd.f10.params.toList ++ Rows.fnExactSquaresByTakesSpec.plain.varTypes Tryd.prog ++ Tryd.f10.resultTypes.toList)) = true := by kernel_rfl
theorem k99_ : (Rows.fnExactSquaresByTakesRow.domain.isEmpty) = true := by kernel_rfl
theorem closed : joinedFacts Tryd.prog 10 Tryd.f10 Rows.fnExactSquaresByTakesSpec Rows.fnExactSquaresByTakesRow = true :=
  joined_mk _ _ _ _ _ k0_ k1_ k2_ k3_ k4_ k5_ k6_ k7_ k8_ k9_ k10_ k11_ k12_ k13_ k14_ k15_ k16_ k17_ k18_ k19_ k20_ k21_ k22_ k23_ k24_ k25_ k26_ k27_ k99_ k28_ k29_ k30_ k31_
theorem over : Rows.fnExactSquaresByTakesRow.holds Tryd.pinned (OpenSpec.ofChange Rows.fnExactSquaresByTakesSpec) :=
  OpenClaim.holds_of_wide 10 Tryd.f10 rfl rfl rfl rfl rfl rfl rfl ⟨rfl, rfl, rfl, rfl, rfl⟩ rfl rfl rfl rfl rfl (by kernel_rfl) Tryd.func10 closed
    (of_decide_eq_true (by kernel_rfl)) (by unfold Func.isWrapper; first | (rw [if_pos (by decide +kernel)]; kernel_rfl) | (rw [if_neg (by decide +kernel)]; exact ⟨rfl, rfl⟩))
    (fun os started H enc _ => lifted os started H enc)
theorem card : Rows.FnExactSquaresByTakesCardSaid :=
  Claim7.holds_tied_plain_at .later [] [.data] true (true, "84dbcbb6d9f469cebc263a6c6d20e1bf822bb068502ed41622d5dfe969e5e19b") false
    over (fun _ h => by cases h) (by kernel_rfl) (fun _ h => by cases h) fnExactSquaresByTakes_row_tie rfl ⟨rfl, rfl⟩ (by kernel_rfl) rfl
    (fun f fn hf hfn => by
      obtain rfl : f = 10 := Option.some.inj ((show Tryd.prog.funcNamed "loop.example/g01233/laws.FnExactSquaresByTakes" = some 10 by kernel_rfl).symm.trans hf) |>.symm
      obtain rfl : fn = Tryd.f10 := (Option.some.inj (Tryd.func10.symm.trans hfn)).symm
      exact ⟨by kernel_rfl, fun j t ht => by
        rw [Tryd.params10] at ht
        have h3 : t = 24 ∨ t = 3 := by
          rcases j with _ | _ | _ | j
          · left; simpa using ht.symm
          all_goals first | (right; simpa using ht.symm) | simp at ht
        rcases h3 with rfl | rfl
        · exact (show Tryd.prog.wantsStandIn 24 = false by kernel_rfl)
        · exact (show Tryd.prog.wantsStandIn 3 = false by kernel_rfl)⟩)
    (by kernel_rfl)
end Go.Proofs.YtgakmcoeccmkbaaDoor.fnExactSquaresByTakes
namespace Go.Proofs.YtgakmcoeccmkbaaDoor
theorem fnExactSquaresByTakes_holds : Rows.FnExactSquaresByTakesCardSaid := fnExactSquaresByTakes.card
end Go.Proofs.YtgakmcoeccmkbaaDoor


namespace Go.Proofs.YtgakmcoeccmkbaaDoor
theorem by_holds : Rows.FnExactSquaresByMovesCardSaid ∧ Rows.FnExactSquaresByTakesCardSaid :=
  ⟨fnExactSquaresByMoves_holds, fnExactSquaresByTakes_holds⟩
end Go.Proofs.YtgakmcoeccmkbaaDoor

