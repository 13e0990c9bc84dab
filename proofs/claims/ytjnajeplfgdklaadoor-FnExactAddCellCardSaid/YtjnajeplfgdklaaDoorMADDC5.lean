/- For every input the law FnExactAddCell answers true: the program's AddCell tells what the reference's AddCell tells; no condition. (part 5 of the proof; the words of the kit's print tool and the texts of this seat, merged by a program) -/
import Derived.Below
import Derived.ChangeOld
import Derived.FnData
import Derived.Handed
import Derived.JoinedOf
import Derived.LaidHandle
import Derived.LaidLaws
import Derived.Lib.SmallJoins
import Derived.OpenShut
import Derived.ProofKit
import Derived.SevenTiedAt
import Derived.SizedLaws
import Derived.Test.YtjnajeplfgdklaaDoorCards
import Derived.Test.YtjnajeplfgdklaaDoorClosed
import Derived.Test.YtjnajeplfgdklaaDoorRows
import Derived.Test.YtjnajeplfgdklaaDoorTie
import Derived.WalkKit
import Derived.Test.YtjnajeplfgdklaaDoorMADDC4
namespace Go.Proofs.YtjnajeplfgdklaaDoor.P
open Go.RowKit Go.Proofs.YtjnajeplfgdklaaDoorW.PrintWords Go.Proofs.YtjnajeplfgdklaaDoorW.PrintLast Go.Proofs.YtjnajeplfgdklaaDoorW.PrintMore
attribute [local go_sem] max2_int min2_int max_two min_two max_three min_three max_four min_four   -- for this text's walks alone
set_option linter.unusedVariables false
set_option linter.unusedSimpArgs false

def spec_fiAsked.f (k : Nat) (a0_0 : Int) (a0_1 : Int) (l0_2 : List Int) (l0_3 : List Int) (a1 : Bool) (a2 : Int) (a3 : Int) : Option (Bool) := (spec_fiGood.f k a0_0 a0_1 l0_2 l0_3).bind fun t567 => (if t567 = true then ((spec_fiEdge.f a0_0 a0_1 l0_2 l0_3 a1 a2 a3).bind fun bt568 => (some bt568.2)) else (some false))
theorem spec_fiAsked.mono : ∀ a0 a1 a2 a3 a4 a5 a6 k, LeO (spec_fiAsked.f k a0 a1 a2 a3 a4 a5 a6) (spec_fiAsked.f (k + 1) a0 a1 a2 a3 a4 a5 a6) := by
  intro a0 a1 a2 a3 a4 a5 a6 k
  unfold spec_fiAsked.f
  repeat' first
      | (with_reducible exact spec_fiGood.mono _ _ _ _ _)
      | (with_reducible exact LeO.refl _)
      | (with_reducible exact LeO.none _)
      | (with_reducible refine LeO.ite ?_ ?_)
      | (with_reducible refine LeO.bind ?_ (fun _ => ?_))
      | exact spec_fiGood.mono _ _ _ _ _
      | exact LeO.none _
      | refine LeO.ite ?_ ?_
      | refine LeO.bind ?_ (fun _ => ?_)
set_option maxHeartbeats 8000000 in
set_option maxRecDepth 100000 in
theorem spec_fiAsked.calls (k : Nat) (a0_0 : Int) (a0_1 : Int) (A0_2 : Option Addr) (c0_2 : Nat) (l0_2 : List Int) (A0_3 : Option Addr) (c0_3 : Nat) (l0_3 : List Int) (a1 : Bool) (a2 : Int) (a3 : Int) (r : Bool) (w : World) (hr0_2 : Kd.C (Kd.int .i64) w A0_2 l0_2.length l0_2) (hc0_2 : l0_2.length ≤ c0_2) (hr0_3 : Kd.C (Kd.int .i64) w A0_3 l0_3.length l0_3) (hc0_3 : l0_3.length ≤ c0_3) (h : spec_fiAsked.f k a0_0 a0_1 l0_2 l0_3 a1 a2 a3 = some r) :
    Calls Tryd.prog 51 #[.agg #[.int .i64 a0_0, .int .i64 a0_1, .slice A0_2 l0_2.length c0_2, .slice A0_3 l0_3.length c0_3], .bool a1, .int .i64 a2, .int .i64 a3] w fun e w' => e = .returned (.bool r) ∧ Below w.heap.size w w' := by
  have hu26 := Tryd.underlying26
  have HR0_2 := Aside0.mk hr0_2
  have HC0_2 := Aside0.mk hc0_2
  clear hr0_2 hc0_2
  have HR0_3 := Aside0.mk hr0_3
  have HC0_3 := Aside0.mk hc0_3
  clear hr0_3 hc0_3
  have HB := Aside0.mk (Below.refl w.heap.size w)
  have H : ((spec_fiGood.f k a0_0 a0_1 l0_2 l0_3).bind fun t567 => (if t567 = true then ((spec_fiEdge.f a0_0 a0_1 l0_2 l0_3 a1 a2 a3).bind fun bt568 => (some bt568.2)) else (some false))) = some r := h
  clear h
  replace H := Option.bind_eq_some_iff.mp H
  obtain ⟨t567, A50, H⟩ := H
  replace H : (if t567 = true then ((spec_fiEdge.f a0_0 a0_1 l0_2 l0_3 a1 a2 a3).bind fun bt568 => (some bt568.2)) else (some false)) = some r := H
  have A5 := Aside0.mk A50
  clear A50
  by_cases c6 : t567 = true
  · subst c6
    have H1 : ((spec_fiEdge.f a0_0 a0_1 l0_2 l0_3 a1 a2 a3).bind fun bt568 => (some bt568.2)) = some r := by rw [if_pos rfl] at H; exact H
    clear H
    have H := H1
    clear H1
    replace H := Option.bind_eq_some_iff.mp H
    obtain ⟨⟨t568, t569⟩, A70, H⟩ := H
    replace H : (some t569) = some r := H
    have A7 := Aside0.mk A70
    clear A70
    obtain rfl := Option.some.inj H
    go_enter Tryd.func51, Tryd.ntmps51
    go_wp2_with (first | ((with_reducible refine gate_dst (N := 4) rfl ?_); refine box_event ?hg (N := 4) ?hd (cs := #[.int .i64 a0_0, .int .i64 a0_1, .slice A0_2 l0_2.length c0_2, .slice A0_3 l0_3.length c0_3]) (t := 26) ?hr ?_; (case hd => rfl); (case hg => rfl); (case hr => first | (go_simp; done) | (go_simp; rfl)); intro gb566 hg w8 hbox hb; have n0_ := Aside0.mk (below_step (by repeat (first | (with_reducible first | exact HB.out | apply below_alloc | apply pw_below_drewN | apply below_drew1) | exact HB.out)) hb); have n1_ := Aside0.mk (hbox); have n2_ := Aside0.mk ((by rw [hg]; exact (below_size (by repeat (first | (with_reducible first | exact HB.out | apply below_alloc | apply pw_below_drewN | apply below_drew1) | exact HB.out))) : w.heap.size ≤ gb566)); have n3_ := Aside0.mk ((by rw [hg]; exact (below_size (by repeat (first | (with_reducible first | exact HB.out | apply below_alloc | apply pw_below_drewN | apply below_drew1) | exact HB.out))) : w.heap.size ≤ gb566)); clear HB; have HB := n0_; have BK566 := n1_; have GW566 := n2_; have GE566 := n3_; clear n0_ n1_ n2_ n3_; clear hb hbox hg; have hcz9_0 : w8.cell? ⟨gb566, 0, none⟩ = some (.int .i64 a0_0) := (blk_cell BK566.out 0).trans rfl; have hcz9_1 : w8.cell? ⟨gb566, 1, none⟩ = some (.int .i64 a0_1) := (blk_cell BK566.out 1).trans rfl; have hcz9_2 : w8.cell? ⟨gb566, 2, none⟩ = some (.slice A0_2 l0_2.length c0_2) := (blk_cell BK566.out 2).trans rfl; have hcz9_3 : w8.cell? ⟨gb566, 3, none⟩ = some (.slice A0_3 l0_3.length c0_3) := (blk_cell BK566.out 3).trans rfl; have hfz9_0 := blk_frozen BK566.out 0; have hfz9_1 := blk_frozen BK566.out 1; have hfz9_2 := blk_frozen BK566.out 2; have hfz9_3 := blk_frozen BK566.out 3) | ((with_reducible refine gate_callee (f := 54) rfl ?_); refine goesL_ (some 12) rfl rfl Tryd.func54 (by kernel_rfl) rfl #[.agg #[.int .i64 a0_0, .int .i64 a0_1, .slice A0_2 l0_2.length c0_2, .slice A0_3 l0_3.length c0_3]] rfl (by (try simp only [List.map_toArray, List.map_cons, List.map_nil]); first | done | rfl | (simp only [List.length_drop, List.length_take]; rfl)) ?_; (with_reducible refine (spec_fiGood.calls k a0_0 a0_1 _ _ l0_2 _ _ l0_3 true _ ?side1 ?side2 ?side3 ?side4 A5.out).mono ?_); (case side1 => repeat (first | exact (Kd.C_below HR0_2.out HB.out) | (with_reducible refine Kd.C_alloc ?_ _) | (with_reducible refine Kd.C_drewN ?_ _) | (with_reducible refine Kd.C_drew ?_))); (case side2 => exact HC0_2.out); (case side3 => repeat (first | exact (Kd.C_below HR0_3.out HB.out) | (with_reducible refine Kd.C_alloc ?_ _) | (with_reducible refine Kd.C_drewN ?_ _) | (with_reducible refine Kd.C_drew ?_))); (case side4 => exact HC0_3.out); rintro e w10 ⟨rfl, hb⟩; refine ⟨_, rfl, ?_⟩; have n0_ := Aside0.mk (blk_below (g := gb566) (o := .cells #[.int .i64 a0_0, .int .i64 a0_1, .slice A0_2 l0_2.length c0_2, .slice A0_3 l0_3.length c0_3] 26 (0, 0)) (by (with_reducible repeat (first | refine blk_drewN ?_ _ | refine blk_drew ?_ | refine blk_alloc ?_ _)); exact BK566.out) hb); have n1_ := Aside0.mk (below_step (by repeat (first | (with_reducible first | exact HB.out | apply below_alloc | apply pw_below_drewN | apply below_drew1 | refine below_set ?_ GE566.out) | exact HB.out)) hb); clear BK566; clear HB; have BK566 := n0_; have HB := n1_; clear n0_ n1_; (try clear hb); (try clear hb2); (try clear hk); (try clear hi); have hcz11_0 : w10.cell? ⟨gb566, 0, none⟩ = some (.int .i64 a0_0) := (blk_cell BK566.out 0).trans rfl; have hcz11_1 : w10.cell? ⟨gb566, 1, none⟩ = some (.int .i64 a0_1) := (blk_cell BK566.out 1).trans rfl; have hcz11_2 : w10.cell? ⟨gb566, 2, none⟩ = some (.slice A0_2 l0_2.length c0_2) := (blk_cell BK566.out 2).trans rfl; have hcz11_3 : w10.cell? ⟨gb566, 3, none⟩ = some (.slice A0_3 l0_3.length c0_3) := (blk_cell BK566.out 3).trans rfl; have hfz11_0 := blk_frozen BK566.out 0; have hfz11_1 := blk_frozen BK566.out 1; have hfz11_2 := blk_frozen BK566.out 2; have hfz11_3 := blk_frozen BK566.out 3) | ((with_reducible refine gate_callee (f := 73) rfl ?_); refine goesL_ (some 19) rfl rfl Tryd.func73 (by kernel_rfl) rfl #[.agg #[.int .i64 a0_0, .int .i64 a0_1, .slice A0_2 l0_2.length c0_2, .slice A0_3 l0_3.length c0_3], .bool a1, .int .i64 a2, .int .i64 a3] rfl (by (try simp only [List.map_toArray, List.map_cons, List.map_nil]); first | done | rfl | (simp only [List.length_drop, List.length_take]; rfl)) ?_; (with_reducible refine (spec_fiEdge.calls a0_0 a0_1 _ _ l0_2 _ _ l0_3 a1 a2 a3 t568 t569 _ ?side1 ?side2 ?side3 ?side4 A7.out).mono ?_); (case side1 => repeat (first | exact (Kd.C_below HR0_2.out HB.out) | (with_reducible refine Kd.C_alloc ?_ _) | (with_reducible refine Kd.C_drewN ?_ _) | (with_reducible refine Kd.C_drew ?_))); (case side2 => exact HC0_2.out); (case side3 => repeat (first | exact (Kd.C_below HR0_3.out HB.out) | (with_reducible refine Kd.C_alloc ?_ _) | (with_reducible refine Kd.C_drewN ?_ _) | (with_reducible refine Kd.C_drew ?_))); (case side4 => exact HC0_3.out); rintro e w12 ⟨rfl, hb⟩; refine ⟨_, rfl, ?_⟩; have n0_ := Aside0.mk (blk_below (g := gb566) (o := .cells #[.int .i64 a0_0, .int .i64 a0_1, .slice A0_2 l0_2.length c0_2, .slice A0_3 l0_3.length c0_3] 26 (0, 0)) (by (with_reducible repeat (first | refine blk_drewN ?_ _ | refine blk_drew ?_ | refine blk_alloc ?_ _)); exact BK566.out) hb); have n1_ := Aside0.mk (below_step (by repeat (first | (with_reducible first | exact HB.out | apply below_alloc | apply pw_below_drewN | apply below_drew1 | refine below_set ?_ GE566.out) | exact HB.out)) hb); clear BK566; clear HB; have BK566 := n0_; have HB := n1_; clear n0_ n1_; (try clear hb); (try clear hb2); (try clear hk); (try clear hi)))
    go_ret
    exact ⟨by first | rfl | (simp [errW_none, errW_some] <;> rfl) | (simp [*, errW_none, errW_some] <;> rfl), by repeat (first | (with_reducible first | exact HB.out | apply below_alloc | apply pw_below_drewN | apply below_drew1 | refine below_set ?_ GE566.out) | exact HB.out)⟩
  · replace c6 := Bool.eq_false_iff.mpr c6
    subst c6
    have H1 : (some false) = some r := by rw [if_neg (show ¬ (false = true) by decide)] at H; exact H
    clear H
    have H := H1
    clear H1
    obtain rfl := Option.some.inj H
    go_enter Tryd.func51, Tryd.ntmps51
    go_wp2_with (first | ((with_reducible refine gate_dst (N := 4) rfl ?_); refine box_event ?hg (N := 4) ?hd (cs := #[.int .i64 a0_0, .int .i64 a0_1, .slice A0_2 l0_2.length c0_2, .slice A0_3 l0_3.length c0_3]) (t := 26) ?hr ?_; (case hd => rfl); (case hg => rfl); (case hr => first | (go_simp; done) | (go_simp; rfl)); intro gb566 hg w13 hbox hb; have n0_ := Aside0.mk (below_step (by repeat (first | (with_reducible first | exact HB.out | apply below_alloc | apply pw_below_drewN | apply below_drew1) | exact HB.out)) hb); have n1_ := Aside0.mk (hbox); have n2_ := Aside0.mk ((by rw [hg]; exact (below_size (by repeat (first | (with_reducible first | exact HB.out | apply below_alloc | apply pw_below_drewN | apply below_drew1) | exact HB.out))) : w.heap.size ≤ gb566)); have n3_ := Aside0.mk ((by rw [hg]; exact (below_size (by repeat (first | (with_reducible first | exact HB.out | apply below_alloc | apply pw_below_drewN | apply below_drew1) | exact HB.out))) : w.heap.size ≤ gb566)); clear HB; have HB := n0_; have BK566 := n1_; have GW566 := n2_; have GE566 := n3_; clear n0_ n1_ n2_ n3_; clear hb hbox hg; have hcz14_0 : w13.cell? ⟨gb566, 0, none⟩ = some (.int .i64 a0_0) := (blk_cell BK566.out 0).trans rfl; have hcz14_1 : w13.cell? ⟨gb566, 1, none⟩ = some (.int .i64 a0_1) := (blk_cell BK566.out 1).trans rfl; have hcz14_2 : w13.cell? ⟨gb566, 2, none⟩ = some (.slice A0_2 l0_2.length c0_2) := (blk_cell BK566.out 2).trans rfl; have hcz14_3 : w13.cell? ⟨gb566, 3, none⟩ = some (.slice A0_3 l0_3.length c0_3) := (blk_cell BK566.out 3).trans rfl; have hfz14_0 := blk_frozen BK566.out 0; have hfz14_1 := blk_frozen BK566.out 1; have hfz14_2 := blk_frozen BK566.out 2; have hfz14_3 := blk_frozen BK566.out 3) | ((with_reducible refine gate_callee (f := 54) rfl ?_); refine goesL_ (some 12) rfl rfl Tryd.func54 (by kernel_rfl) rfl #[.agg #[.int .i64 a0_0, .int .i64 a0_1, .slice A0_2 l0_2.length c0_2, .slice A0_3 l0_3.length c0_3]] rfl (by (try simp only [List.map_toArray, List.map_cons, List.map_nil]); first | done | rfl | (simp only [List.length_drop, List.length_take]; rfl)) ?_; (with_reducible refine (spec_fiGood.calls k a0_0 a0_1 _ _ l0_2 _ _ l0_3 false _ ?side1 ?side2 ?side3 ?side4 A5.out).mono ?_); (case side1 => repeat (first | exact (Kd.C_below HR0_2.out HB.out) | (with_reducible refine Kd.C_alloc ?_ _) | (with_reducible refine Kd.C_drewN ?_ _) | (with_reducible refine Kd.C_drew ?_))); (case side2 => exact HC0_2.out); (case side3 => repeat (first | exact (Kd.C_below HR0_3.out HB.out) | (with_reducible refine Kd.C_alloc ?_ _) | (with_reducible refine Kd.C_drewN ?_ _) | (with_reducible refine Kd.C_drew ?_))); (case side4 => exact HC0_3.out); rintro e w15 ⟨rfl, hb⟩; refine ⟨_, rfl, ?_⟩; have n0_ := Aside0.mk (blk_below (g := gb566) (o := .cells #[.int .i64 a0_0, .int .i64 a0_1, .slice A0_2 l0_2.length c0_2, .slice A0_3 l0_3.length c0_3] 26 (0, 0)) (by (with_reducible repeat (first | refine blk_drewN ?_ _ | refine blk_drew ?_ | refine blk_alloc ?_ _)); exact BK566.out) hb); have n1_ := Aside0.mk (below_step (by repeat (first | (with_reducible first | exact HB.out | apply below_alloc | apply pw_below_drewN | apply below_drew1 | refine below_set ?_ GE566.out) | exact HB.out)) hb); clear BK566; clear HB; have BK566 := n0_; have HB := n1_; clear n0_ n1_; (try clear hb); (try clear hb2); (try clear hk); (try clear hi)))
    go_ret
    exact ⟨by first | rfl | (simp [errW_none, errW_some] <;> rfl) | (simp [*, errW_none, errW_some] <;> rfl), by repeat (first | (with_reducible first | exact HB.out | apply below_alloc | apply pw_below_drewN | apply below_drew1 | refine below_set ?_ GE566.out) | exact HB.out)⟩

end Go.Proofs.YtjnajeplfgdklaaDoor.P


namespace Go.Proofs.YtjnajeplfgdklaaDoor.P
open Go.RowKit Go.Proofs.YtjnajeplfgdklaaDoorW.PrintWords Go.Proofs.YtjnajeplfgdklaaDoorW.PrintLast Go.Proofs.YtjnajeplfgdklaaDoorW.PrintMore
attribute [local go_sem] max2_int min2_int max_two min_two max_three min_three max_four min_four   -- for this text's walks alone
set_option linter.unusedVariables false
set_option linter.unusedSimpArgs false

def spec_AddMatch.f (k : Nat) (a0_0 : Int) (a0_1 : Int) (l0_2 : List Int) (l0_3 : List Int) (a1 : Bool) (a2 : Int) (a3 : Int) : Option (Int × Int × List Int × List Int × Bool) := (spec_fiAsked.f k a0_0 a0_1 l0_2 l0_3 a1 a2 a3).bind fun t572 => (if t572 = true then ((spec_fiHas.f k a0_0 a0_1 l0_2 l0_3 a1 a2 a3).bind fun t573 => (if t573 = true then (some (0, 0, ([] : List Int), ([] : List Int), false)) else ((spec_fiPut.f k a0_0 a0_1 l0_2 l0_3 a1 a2 a3).bind fun bt574 => (some (bt574.1, bt574.2.1, bt574.2.2.1, bt574.2.2.2, true))))) else (some (0, 0, ([] : List Int), ([] : List Int), false)))
theorem spec_AddMatch.mono : ∀ a0 a1 a2 a3 a4 a5 a6 k, LeO (spec_AddMatch.f k a0 a1 a2 a3 a4 a5 a6) (spec_AddMatch.f (k + 1) a0 a1 a2 a3 a4 a5 a6) := by
  intro a0 a1 a2 a3 a4 a5 a6 k
  unfold spec_AddMatch.f
  repeat' first
      | (with_reducible exact spec_fiAsked.mono _ _ _ _ _ _ _ _)
      | (with_reducible exact spec_fiHas.mono _ _ _ _ _ _ _ _)
      | (with_reducible exact spec_fiPut.mono _ _ _ _ _ _ _ _)
      | (with_reducible exact LeO.refl _)
      | (with_reducible exact LeO.none _)
      | (with_reducible refine LeO.ite ?_ ?_)
      | (with_reducible refine LeO.bind ?_ (fun _ => ?_))
      | exact spec_fiAsked.mono _ _ _ _ _ _ _ _
      | exact spec_fiHas.mono _ _ _ _ _ _ _ _
      | exact spec_fiPut.mono _ _ _ _ _ _ _ _
      | exact LeO.none _
      | refine LeO.ite ?_ ?_
      | refine LeO.bind ?_ (fun _ => ?_)
set_option maxHeartbeats 8000000 in
set_option maxRecDepth 100000 in
theorem spec_AddMatch.calls (k : Nat) (a0_0 : Int) (a0_1 : Int) (A0_2 : Option Addr) (c0_2 : Nat) (l0_2 : List Int) (A0_3 : Option Addr) (c0_3 : Nat) (l0_3 : List Int) (a1 : Bool) (a2 : Int) (a3 : Int) (r1 : Int) (r2 : Int) (r3 : List Int) (r4 : List Int) (r5 : Bool) (w : World) (hr0_2 : Kd.C (Kd.int .i64) w A0_2 l0_2.length l0_2) (hc0_2 : l0_2.length ≤ c0_2) (hr0_3 : Kd.C (Kd.int .i64) w A0_3 l0_3.length l0_3) (hc0_3 : l0_3.length ≤ c0_3) (h : spec_AddMatch.f k a0_0 a0_1 l0_2 l0_3 a1 a2 a3 = some (r1, r2, r3, r4, r5)) :
    Calls Tryd.prog 20 #[.agg #[.int .i64 a0_0, .int .i64 a0_1, .slice A0_2 l0_2.length c0_2, .slice A0_3 l0_3.length c0_3], .bool a1, .int .i64 a2, .int .i64 a3] w fun e w' => ∃ v2_ v3_ : Value, e = .returned (.tuple #[.agg #[.int .i64 r1, .int .i64 r2, v2_, v3_], .bool r5]) ∧ Kd.R (Kd.int .i64) 3 w' w.heap.size (fun k_ => some k_ ≠ (v3_ : Value).ownBlock) v2_ r3 ∧ Kd.R (Kd.int .i64) 3 w' w.heap.size (fun k_ => some k_ ≠ (v2_ : Value).ownBlock) v3_ r4 ∧ Below w.heap.size w w' := by
  have hu26 := Tryd.underlying26
  have HR0_2 := Aside0.mk hr0_2
  have HC0_2 := Aside0.mk hc0_2
  clear hr0_2 hc0_2
  have HR0_3 := Aside0.mk hr0_3
  have HC0_3 := Aside0.mk hc0_3
  clear hr0_3 hc0_3
  have HB := Aside0.mk (Below.refl w.heap.size w)
  have H : ((spec_fiAsked.f k a0_0 a0_1 l0_2 l0_3 a1 a2 a3).bind fun t572 => (if t572 = true then ((spec_fiHas.f k a0_0 a0_1 l0_2 l0_3 a1 a2 a3).bind fun t573 => (if t573 = true then (some (0, 0, ([] : List Int), ([] : List Int), false)) else ((spec_fiPut.f k a0_0 a0_1 l0_2 l0_3 a1 a2 a3).bind fun bt574 => (some (bt574.1, bt574.2.1, bt574.2.2.1, bt574.2.2.2, true))))) else (some (0, 0, ([] : List Int), ([] : List Int), false)))) = some (r1, r2, r3, r4, r5) := h
  clear h
  replace H := Option.bind_eq_some_iff.mp H
  obtain ⟨t572, A50, H⟩ := H
  replace H : (if t572 = true then ((spec_fiHas.f k a0_0 a0_1 l0_2 l0_3 a1 a2 a3).bind fun t573 => (if t573 = true then (some (0, 0, ([] : List Int), ([] : List Int), false)) else ((spec_fiPut.f k a0_0 a0_1 l0_2 l0_3 a1 a2 a3).bind fun bt574 => (some (bt574.1, bt574.2.1, bt574.2.2.1, bt574.2.2.2, true))))) else (some (0, 0, ([] : List Int), ([] : List Int), false))) = some (r1, r2, r3, r4, r5) := H
  have A5 := Aside0.mk A50
  clear A50
  by_cases c6 : t572 = true
  · subst c6
    have H1 : ((spec_fiHas.f k a0_0 a0_1 l0_2 l0_3 a1 a2 a3).bind fun t573 => (if t573 = true then (some (0, 0, ([] : List Int), ([] : List Int), false)) else ((spec_fiPut.f k a0_0 a0_1 l0_2 l0_3 a1 a2 a3).bind fun bt574 => (some (bt574.1, bt574.2.1, bt574.2.2.1, bt574.2.2.2, true))))) = some (r1, r2, r3, r4, r5) := by rw [if_pos rfl] at H; exact H
    clear H
    have H := H1
    clear H1
    replace H := Option.bind_eq_some_iff.mp H
    obtain ⟨t573, A70, H⟩ := H
    replace H : (if t573 = true then (some (0, 0, ([] : List Int), ([] : List Int), false)) else ((spec_fiPut.f k a0_0 a0_1 l0_2 l0_3 a1 a2 a3).bind fun bt574 => (some (bt574.1, bt574.2.1, bt574.2.2.1, bt574.2.2.2, true)))) = some (r1, r2, r3, r4, r5) := H
    have A7 := Aside0.mk A70
    clear A70
    by_cases c8 : t573 = true
    · subst c8
      have H1 : (some (0, 0, ([] : List Int), ([] : List Int), false)) = some (r1, r2, r3, r4, r5) := by rw [if_pos rfl] at H; exact H
      clear H
      have H := H1
      clear H1
      simp only [Option.some.injEq, Prod.mk.injEq] at H
      obtain ⟨rfl, rfl, rfl, rfl, rfl⟩ := H
      go_enter Tryd.func20, Tryd.ntmps20
      go_wp2_with (first | ((with_reducible refine gate_dst (N := 4) rfl ?_); refine box_event ?hg (N := 4) ?hd (cs := #[.int .i64 a0_0, .int .i64 a0_1, .slice A0_2 l0_2.length c0_2, .slice A0_3 l0_3.length c0_3]) (t := 26) ?hr ?_; (case hd => rfl); (case hg => rfl); (case hr => first | (go_simp; done) | (go_simp; rfl)); intro gb570 hg w9 hbox hb; have n0_ := Aside0.mk (below_step (by repeat (first | (with_reducible first | exact HB.out | apply below_alloc | apply pw_below_drewN | apply below_drew1) | exact HB.out)) hb); have n1_ := Aside0.mk (hbox); have n2_ := Aside0.mk ((by rw [hg]; exact (below_size (by repeat (first | (with_reducible first | exact HB.out | apply below_alloc | apply pw_below_drewN | apply below_drew1) | exact HB.out))) : w.heap.size ≤ gb570)); have n3_ := Aside0.mk ((by rw [hg]; exact (below_size (by repeat (first | (with_reducible first | exact HB.out | apply below_alloc | apply pw_below_drewN | apply below_drew1) | exact HB.out))) : w.heap.size ≤ gb570)); clear HB; have HB := n0_; have BK570 := n1_; have GW570 := n2_; have GE570 := n3_; clear n0_ n1_ n2_ n3_; clear hb hbox hg) | ((with_reducible refine gate_dst (N := 8) rfl ?_); refine box_event ?hg (N := 8) ?hd (cs := #[.int .i64 0, .int .i64 0, .slice none 0 0, .slice none 0 0]) (t := 26) ?hr ?_; (case hd => rfl); (case hg => rfl); (case hr => first | (go_simp; done) | (go_simp; rfl)); intro gb571 hg w10 hbox hb; have n0_ := Aside0.mk (blk_below (g := gb570) (o := .cells #[.int .i64 a0_0, .int .i64 a0_1, .slice A0_2 l0_2.length c0_2, .slice A0_3 l0_3.length c0_3] 26 (0, 0)) (by (with_reducible repeat (first | refine blk_drewN ?_ _ | refine blk_drew ?_ | refine blk_alloc ?_ _)); exact BK570.out) hb); have n1_ := Aside0.mk (below_step (by repeat (first | (with_reducible first | exact HB.out | apply below_alloc | apply pw_below_drewN | apply below_drew1 | refine below_set ?_ GE570.out) | exact HB.out)) hb); have n2_ := Aside0.mk (hbox); have n3_ := Aside0.mk ((by rw [hg]; exact (below_size (by repeat (first | (with_reducible first | exact HB.out | apply below_alloc | apply pw_below_drewN | apply below_drew1 | refine below_set ?_ GE570.out) | exact HB.out))) : w.heap.size ≤ gb571)); have n4_ := Aside0.mk ((by rw [hg]; exact (below_size (by repeat (first | (with_reducible first | exact HB.out | apply below_alloc | apply pw_below_drewN | apply below_drew1 | refine below_set ?_ GE570.out) | exact HB.out))) : w.heap.size ≤ gb571)); have n5_ := Aside0.mk ((by rw [hg]; exact Nat.ne_of_lt (blk_lt (g := gb570) (o := .cells #[.int .i64 a0_0, .int .i64 a0_1, .slice A0_2 l0_2.length c0_2, .slice A0_3 l0_3.length c0_3] 26 (0, 0)) (by (with_reducible repeat (first | refine blk_drewN ?_ _ | refine blk_drew ?_ | refine blk_alloc ?_ _)); exact BK570.out)) : gb570 ≠ gb571)); have n6_ := Aside0.mk ((by rw [hg]; exact Nat.ne_of_gt (blk_lt (g := gb570) (o := .cells #[.int .i64 a0_0, .int .i64 a0_1, .slice A0_2 l0_2.length c0_2, .slice A0_3 l0_3.length c0_3] 26 (0, 0)) (by (with_reducible repeat (first | refine blk_drewN ?_ _ | refine blk_drew ?_ | refine blk_alloc ?_ _)); exact BK570.out)) : gb571 ≠ gb570)); clear BK570; clear HB; have BK570 := n0_; have HB := n1_; have BK571 := n2_; have GW571 := n3_; have GE571 := n4_; have NB570_571 := n5_; have NB571_570 := n6_; clear n0_ n1_ n2_ n3_ n4_ n5_ n6_; clear hb hbox hg; have hnb11 := NB570_571.out; have hnc11 := NB571_570.out; have hcz12_0 : w10.cell? ⟨gb570, 0, none⟩ = some (.int .i64 a0_0) := (blk_cell BK570.out 0).trans rfl; have hcz12_1 : w10.cell? ⟨gb570, 1, none⟩ = some (.int .i64 a0_1) := (blk_cell BK570.out 1).trans rfl; have hcz12_2 : w10.cell? ⟨gb570, 2, none⟩ = some (.slice A0_2 l0_2.length c0_2) := (blk_cell BK570.out 2).trans rfl; have hcz12_3 : w10.cell? ⟨gb570, 3, none⟩ = some (.slice A0_3 l0_3.length c0_3) := (blk_cell BK570.out 3).trans rfl; have hfz12_0 := blk_frozen BK570.out 0; have hfz12_1 := blk_frozen BK570.out 1; have hfz12_2 := blk_frozen BK570.out 2; have hfz12_3 := blk_frozen BK570.out 3) | ((with_reducible refine gate_callee (f := 51) rfl ?_); refine goesL_ (some 14) rfl rfl Tryd.func51 (by kernel_rfl) rfl #[.agg #[.int .i64 a0_0, .int .i64 a0_1, .slice A0_2 l0_2.length c0_2, .slice A0_3 l0_3.length c0_3], .bool a1, .int .i64 a2, .int .i64 a3] rfl (by (try simp only [List.map_toArray, List.map_cons, List.map_nil]); first | done | rfl | (simp only [List.length_drop, List.length_take]; rfl)) ?_; (with_reducible refine (spec_fiAsked.calls k a0_0 a0_1 _ _ l0_2 _ _ l0_3 a1 a2 a3 true _ ?side1 ?side2 ?side3 ?side4 A5.out).mono ?_); (case side1 => repeat (first | exact (Kd.C_below HR0_2.out HB.out) | (with_reducible refine Kd.C_alloc ?_ _) | (with_reducible refine Kd.C_drewN ?_ _) | (with_reducible refine Kd.C_drew ?_))); (case side2 => exact HC0_2.out); (case side3 => repeat (first | exact (Kd.C_below HR0_3.out HB.out) | (with_reducible refine Kd.C_alloc ?_ _) | (with_reducible refine Kd.C_drewN ?_ _) | (with_reducible refine Kd.C_drew ?_))); (case side4 => exact HC0_3.out); rintro e w13 ⟨rfl, hb⟩; refine ⟨_, rfl, ?_⟩; have n0_ := Aside0.mk (blk_below (g := gb570) (o := .cells #[.int .i64 a0_0, .int .i64 a0_1, .slice A0_2 l0_2.length c0_2, .slice A0_3 l0_3.length c0_3] 26 (0, 0)) (by (with_reducible repeat (first | refine blk_drewN ?_ _ | refine blk_drew ?_ | refine blk_alloc ?_ _)); exact BK570.out) hb); have n1_ := Aside0.mk (blk_below (g := gb571) (o := .cells #[.int .i64 0, .int .i64 0, .slice none 0 0, .slice none 0 0] 26 (0, 0)) (by (with_reducible repeat (first | refine blk_drewN ?_ _ | refine blk_drew ?_ | refine blk_alloc ?_ _)); exact BK571.out) hb); have n2_ := Aside0.mk (below_step (by repeat (first | (with_reducible first | exact HB.out | apply below_alloc | apply pw_below_drewN | apply below_drew1 | refine below_set ?_ GE570.out | refine below_set ?_ GE571.out) | exact HB.out)) hb); clear BK570; clear BK571; clear HB; have BK570 := n0_; have BK571 := n1_; have HB := n2_; clear n0_ n1_ n2_; (try clear hb); (try clear hb2); (try clear hk); (try clear hi); have hcz14_0 : w13.cell? ⟨gb570, 0, none⟩ = some (.int .i64 a0_0) := (blk_cell BK570.out 0).trans rfl; have hcz14_1 : w13.cell? ⟨gb570, 1, none⟩ = some (.int .i64 a0_1) := (blk_cell BK570.out 1).trans rfl; have hcz14_2 : w13.cell? ⟨gb570, 2, none⟩ = some (.slice A0_2 l0_2.length c0_2) := (blk_cell BK570.out 2).trans rfl; have hcz14_3 : w13.cell? ⟨gb570, 3, none⟩ = some (.slice A0_3 l0_3.length c0_3) := (blk_cell BK570.out 3).trans rfl; have hfz14_0 := blk_frozen BK570.out 0; have hfz14_1 := blk_frozen BK570.out 1; have hfz14_2 := blk_frozen BK570.out 2; have hfz14_3 := blk_frozen BK570.out 3) | (go_at_call 52; (with_reducible refine (spec_fiHas.calls k a0_0 a0_1 _ _ l0_2 _ _ l0_3 a1 a2 a3 true _ ?side1 ?side2 ?side3 ?side4 A7.out).mono ?_); (case side1 => repeat (first | exact (Kd.C_below HR0_2.out HB.out) | (with_reducible refine Kd.C_alloc ?_ _) | (with_reducible refine Kd.C_drewN ?_ _) | (with_reducible refine Kd.C_drew ?_))); (case side2 => exact HC0_2.out); (case side3 => repeat (first | exact (Kd.C_below HR0_3.out HB.out) | (with_reducible refine Kd.C_alloc ?_ _) | (with_reducible refine Kd.C_drewN ?_ _) | (with_reducible refine Kd.C_drew ?_))); (case side4 => exact HC0_3.out); rintro e w15 ⟨rfl, hb⟩; have n0_ := Aside0.mk (blk_below (g := gb570) (o := .cells #[.int .i64 a0_0, .int .i64 a0_1, .slice A0_2 l0_2.length c0_2, .slice A0_3 l0_3.length c0_3] 26 (0, 0)) (by (with_reducible repeat (first | refine blk_drewN ?_ _ | refine blk_drew ?_ | refine blk_alloc ?_ _)); exact BK570.out) hb); have n1_ := Aside0.mk (blk_below (g := gb571) (o := .cells #[.int .i64 0, .int .i64 0, .slice none 0 0, .slice none 0 0] 26 (0, 0)) (by (with_reducible repeat (first | refine blk_drewN ?_ _ | refine blk_drew ?_ | refine blk_alloc ?_ _)); exact BK571.out) hb); have n2_ := Aside0.mk (below_step (by repeat (first | (with_reducible first | exact HB.out | apply below_alloc | apply pw_below_drewN | apply below_drew1 | refine below_set ?_ GE570.out | refine below_set ?_ GE571.out) | exact HB.out)) hb); clear BK570; clear BK571; clear HB; have BK570 := n0_; have BK571 := n1_; have HB := n2_; clear n0_ n1_ n2_; (try clear hb); (try clear hb2); (try clear hk); (try clear hi); have hcz16_0 : w15.cell? ⟨gb571, 0, none⟩ = some (.int .i64 0) := (blk_cell BK571.out 0).trans rfl; have hcz16_1 : w15.cell? ⟨gb571, 1, none⟩ = some (.int .i64 0) := (blk_cell BK571.out 1).trans rfl; have hcz16_2 : w15.cell? ⟨gb571, 2, none⟩ = some (.slice none 0 0) := (blk_cell BK571.out 2).trans rfl; have hcz16_3 : w15.cell? ⟨gb571, 3, none⟩ = some (.slice none 0 0) := (blk_cell BK571.out 3).trans rfl; have hfz16_0 := blk_frozen BK571.out 0; have hfz16_1 := blk_frozen BK571.out 1; have hfz16_2 := blk_frozen BK571.out 2; have hfz16_3 := blk_frozen BK571.out 3))
      refine bodyPost_ret (results_ct rfl _ _ gb571 26 #[.int .i64 0, .int .i64 0, .slice none 0 0, .slice none 0 0] (0, 0) _ rfl (by (with_reducible repeat (first | refine blk_drewN ?_ _ | refine blk_drew ?_ | refine blk_alloc ?_ _)); refine blk_put (cs := #[.int .i64 0, .int .i64 0, .slice none 0 0, .slice none 0 0]) ?_ 3 _ rfl; (with_reducible repeat (first | refine blk_drewN ?_ _ | refine blk_drew ?_ | refine blk_alloc ?_ _)); refine blk_put (cs := #[.int .i64 0, .int .i64 0, .slice none 0 0, .slice none 0 0]) ?_ 2 _ rfl; (with_reducible repeat (first | refine blk_drewN ?_ _ | refine blk_drew ?_ | refine blk_alloc ?_ _)); refine blk_put (cs := #[.int .i64 0, .int .i64 0, .slice none 0 0, .slice none 0 0]) ?_ 1 _ rfl; (with_reducible repeat (first | refine blk_drewN ?_ _ | refine blk_drew ?_ | refine blk_alloc ?_ _)); refine blk_put (cs := #[.int .i64 0, .int .i64 0, .slice none 0 0, .slice none 0 0]) ?_ 0 _ rfl; (with_reducible repeat (first | refine blk_drewN ?_ _ | refine blk_drew ?_ | refine blk_alloc ?_ _)); exact BK571.out) Tryd.underlying26 rfl (by kernel_rfl)) rfl ?_
      exact ⟨_, _, by first | rfl | (simp [errW_none, errW_some] <;> rfl) | (simp [*, errW_none, errW_some] <;> rfl), by first | exact Kd.R_nil _ _ _ _ _ | exact Kd.N_nil _ _ _ _ _ | exact Kd.V_nil _ _ _ _ _ | exact Kd.Q_nil _ _ _ _ _ | exact Kd.S_nil _ _ _ _ _, by first | exact Kd.R_nil _ _ _ _ _ | exact Kd.N_nil _ _ _ _ _ | exact Kd.V_nil _ _ _ _ _ | exact Kd.Q_nil _ _ _ _ _ | exact Kd.S_nil _ _ _ _ _, by repeat (first | (with_reducible first | exact HB.out | apply below_alloc | apply pw_below_drewN | apply below_drew1 | refine below_set ?_ GE570.out | refine below_set ?_ GE571.out) | exact HB.out)⟩
    · replace c8 := Bool.eq_false_iff.mpr c8
      subst c8
      have H1 : ((spec_fiPut.f k a0_0 a0_1 l0_2 l0_3 a1 a2 a3).bind fun bt574 => (some (bt574.1, bt574.2.1, bt574.2.2.1, bt574.2.2.2, true))) = some (r1, r2, r3, r4, r5) := by rw [if_neg (show ¬ (false = true) by decide)] at H; exact H
      clear H
      have H := H1
      clear H1
      replace H := Option.bind_eq_some_iff.mp H
      obtain ⟨⟨t574, t575, t576, t579⟩, A170, H⟩ := H
      replace H : (some (t574, t575, t576, t579, true)) = some (r1, r2, r3, r4, r5) := H
      have A17 := Aside0.mk A170
      clear A170
      simp only [Option.some.injEq, Prod.mk.injEq] at H
      obtain ⟨rfl, rfl, rfl, rfl, rfl⟩ := H
      go_enter Tryd.func20, Tryd.ntmps20
      go_wp2_with (first | ((with_reducible refine gate_dst (N := 4) rfl ?_); refine box_event ?hg (N := 4) ?hd (cs := #[.int .i64 a0_0, .int .i64 a0_1, .slice A0_2 l0_2.length c0_2, .slice A0_3 l0_3.length c0_3]) (t := 26) ?hr ?_; (case hd => rfl); (case hg => rfl); (case hr => first | (go_simp; done) | (go_simp; rfl)); intro gb570 hg w18 hbox hb; have n0_ := Aside0.mk (below_step (by repeat (first | (with_reducible first | exact HB.out | apply below_alloc | apply pw_below_drewN | apply below_drew1) | exact HB.out)) hb); have n1_ := Aside0.mk (hbox); have n2_ := Aside0.mk ((by rw [hg]; exact (below_size (by repeat (first | (with_reducible first | exact HB.out | apply below_alloc | apply pw_below_drewN | apply below_drew1) | exact HB.out))) : w.heap.size ≤ gb570)); have n3_ := Aside0.mk ((by rw [hg]; exact (below_size (by repeat (first | (with_reducible first | exact HB.out | apply below_alloc | apply pw_below_drewN | apply below_drew1) | exact HB.out))) : w.heap.size ≤ gb570)); clear HB; have HB := n0_; have BK570 := n1_; have GW570 := n2_; have GE570 := n3_; clear n0_ n1_ n2_ n3_; clear hb hbox hg) | ((with_reducible refine gate_dst (N := 8) rfl ?_); refine box_event ?hg (N := 8) ?hd (cs := #[.int .i64 0, .int .i64 0, .slice none 0 0, .slice none 0 0]) (t := 26) ?hr ?_; (case hd => rfl); (case hg => rfl); (case hr => first | (go_simp; done) | (go_simp; rfl)); intro gb571 hg w19 hbox hb; have n0_ := Aside0.mk (blk_below (g := gb570) (o := .cells #[.int .i64 a0_0, .int .i64 a0_1, .slice A0_2 l0_2.length c0_2, .slice A0_3 l0_3.length c0_3] 26 (0, 0)) (by (with_reducible repeat (first | refine blk_drewN ?_ _ | refine blk_drew ?_ | refine blk_alloc ?_ _)); exact BK570.out) hb); have n1_ := Aside0.mk (below_step (by repeat (first | (with_reducible first | exact HB.out | apply below_alloc | apply pw_below_drewN | apply below_drew1 | refine below_set ?_ GE570.out) | exact HB.out)) hb); have n2_ := Aside0.mk (hbox); have n3_ := Aside0.mk ((by rw [hg]; exact (below_size (by repeat (first | (with_reducible first | exact HB.out | apply below_alloc | apply pw_below_drewN | apply below_drew1 | refine below_set ?_ GE570.out) | exact HB.out))) : w.heap.size ≤ gb571)); have n4_ := Aside0.mk ((by rw [hg]; exact (below_size (by repeat (first | (with_reducible first | exact HB.out | apply below_alloc | apply pw_below_drewN | apply below_drew1 | refine below_set ?_ GE570.out) | exact HB.out))) : w.heap.size ≤ gb571)); have n5_ := Aside0.mk ((by rw [hg]; exact Nat.ne_of_lt (blk_lt (g := gb570) (o := .cells #[.int .i64 a0_0, .int .i64 a0_1, .slice A0_2 l0_2.length c0_2, .slice A0_3 l0_3.length c0_3] 26 (0, 0)) (by (with_reducible repeat (first | refine blk_drewN ?_ _ | refine blk_drew ?_ | refine blk_alloc ?_ _)); exact BK570.out)) : gb570 ≠ gb571)); have n6_ := Aside0.mk ((by rw [hg]; exact Nat.ne_of_gt (blk_lt (g := gb570) (o := .cells #[.int .i64 a0_0, .int .i64 a0_1, .slice A0_2 l0_2.length c0_2, .slice A0_3 l0_3.length c0_3] 26 (0, 0)) (by (with_reducible repeat (first | refine blk_drewN ?_ _ | refine blk_drew ?_ | refine blk_alloc ?_ _)); exact BK570.out)) : gb571 ≠ gb570)); clear BK570; clear HB; have BK570 := n0_; have HB := n1_; have BK571 := n2_; have GW571 := n3_; have GE571 := n4_; have NB570_571 := n5_; have NB571_570 := n6_; clear n0_ n1_ n2_ n3_ n4_ n5_ n6_; clear hb hbox hg; have hnb20 := NB570_571.out; have hnc20 := NB571_570.out; have hcz21_0 : w19.cell? ⟨gb570, 0, none⟩ = some (.int .i64 a0_0) := (blk_cell BK570.out 0).trans rfl; have hcz21_1 : w19.cell? ⟨gb570, 1, none⟩ = some (.int .i64 a0_1) := (blk_cell BK570.out 1).trans rfl; have hcz21_2 : w19.cell? ⟨gb570, 2, none⟩ = some (.slice A0_2 l0_2.length c0_2) := (blk_cell BK570.out 2).trans rfl; have hcz21_3 : w19.cell? ⟨gb570, 3, none⟩ = some (.slice A0_3 l0_3.length c0_3) := (blk_cell BK570.out 3).trans rfl; have hfz21_0 := blk_frozen BK570.out 0; have hfz21_1 := blk_frozen BK570.out 1; have hfz21_2 := blk_frozen BK570.out 2; have hfz21_3 := blk_frozen BK570.out 3) | ((with_reducible refine gate_callee (f := 51) rfl ?_); refine goesL_ (some 14) rfl rfl Tryd.func51 (by kernel_rfl) rfl #[.agg #[.int .i64 a0_0, .int .i64 a0_1, .slice A0_2 l0_2.length c0_2, .slice A0_3 l0_3.length c0_3], .bool a1, .int .i64 a2, .int .i64 a3] rfl (by (try simp only [List.map_toArray, List.map_cons, List.map_nil]); first | done | rfl | (simp only [List.length_drop, List.length_take]; rfl)) ?_; (with_reducible refine (spec_fiAsked.calls k a0_0 a0_1 _ _ l0_2 _ _ l0_3 a1 a2 a3 true _ ?side1 ?side2 ?side3 ?side4 A5.out).mono ?_); (case side1 => repeat (first | exact (Kd.C_below HR0_2.out HB.out) | (with_reducible refine Kd.C_alloc ?_ _) | (with_reducible refine Kd.C_drewN ?_ _) | (with_reducible refine Kd.C_drew ?_))); (case side2 => exact HC0_2.out); (case side3 => repeat (first | exact (Kd.C_below HR0_3.out HB.out) | (with_reducible refine Kd.C_alloc ?_ _) | (with_reducible refine Kd.C_drewN ?_ _) | (with_reducible refine Kd.C_drew ?_))); (case side4 => exact HC0_3.out); rintro e w22 ⟨rfl, hb⟩; refine ⟨_, rfl, ?_⟩; have n0_ := Aside0.mk (blk_below (g := gb570) (o := .cells #[.int .i64 a0_0, .int .i64 a0_1, .slice A0_2 l0_2.length c0_2, .slice A0_3 l0_3.length c0_3] 26 (0, 0)) (by (with_reducible repeat (first | refine blk_drewN ?_ _ | refine blk_drew ?_ | refine blk_alloc ?_ _)); exact BK570.out) hb); have n1_ := Aside0.mk (blk_below (g := gb571) (o := .cells #[.int .i64 0, .int .i64 0, .slice none 0 0, .slice none 0 0] 26 (0, 0)) (by (with_reducible repeat (first | refine blk_drewN ?_ _ | refine blk_drew ?_ | refine blk_alloc ?_ _)); exact BK571.out) hb); have n2_ := Aside0.mk (below_step (by repeat (first | (with_reducible first | exact HB.out | apply below_alloc | apply pw_below_drewN | apply below_drew1 | refine below_set ?_ GE570.out | refine below_set ?_ GE571.out) | exact HB.out)) hb); clear BK570; clear BK571; clear HB; have BK570 := n0_; have BK571 := n1_; have HB := n2_; clear n0_ n1_ n2_; (try clear hb); (try clear hb2); (try clear hk); (try clear hi); have hcz23_0 : w22.cell? ⟨gb570, 0, none⟩ = some (.int .i64 a0_0) := (blk_cell BK570.out 0).trans rfl; have hcz23_1 : w22.cell? ⟨gb570, 1, none⟩ = some (.int .i64 a0_1) := (blk_cell BK570.out 1).trans rfl; have hcz23_2 : w22.cell? ⟨gb570, 2, none⟩ = some (.slice A0_2 l0_2.length c0_2) := (blk_cell BK570.out 2).trans rfl; have hcz23_3 : w22.cell? ⟨gb570, 3, none⟩ = some (.slice A0_3 l0_3.length c0_3) := (blk_cell BK570.out 3).trans rfl; have hfz23_0 := blk_frozen BK570.out 0; have hfz23_1 := blk_frozen BK570.out 1; have hfz23_2 := blk_frozen BK570.out 2; have hfz23_3 := blk_frozen BK570.out 3) | (go_at_call 52; (with_reducible refine (spec_fiHas.calls k a0_0 a0_1 _ _ l0_2 _ _ l0_3 a1 a2 a3 false _ ?side1 ?side2 ?side3 ?side4 A7.out).mono ?_); (case side1 => repeat (first | exact (Kd.C_below HR0_2.out HB.out) | (with_reducible refine Kd.C_alloc ?_ _) | (with_reducible refine Kd.C_drewN ?_ _) | (with_reducible refine Kd.C_drew ?_))); (case side2 => exact HC0_2.out); (case side3 => repeat (first | exact (Kd.C_below HR0_3.out HB.out) | (with_reducible refine Kd.C_alloc ?_ _) | (with_reducible refine Kd.C_drewN ?_ _) | (with_reducible refine Kd.C_drew ?_))); (case side4 => exact HC0_3.out); rintro e w24 ⟨rfl, hb⟩; have n0_ := Aside0.mk (blk_below (g := gb570) (o := .cells #[.int .i64 a0_0, .int .i64 a0_1, .slice A0_2 l0_2.length c0_2, .slice A0_3 l0_3.length c0_3] 26 (0, 0)) (by (with_reducible repeat (first | refine blk_drewN ?_ _ | refine blk_drew ?_ | refine blk_alloc ?_ _)); exact BK570.out) hb); have n1_ := Aside0.mk (blk_below (g := gb571) (o := .cells #[.int .i64 0, .int .i64 0, .slice none 0 0, .slice none 0 0] 26 (0, 0)) (by (with_reducible repeat (first | refine blk_drewN ?_ _ | refine blk_drew ?_ | refine blk_alloc ?_ _)); exact BK571.out) hb); have n2_ := Aside0.mk (below_step (by repeat (first | (with_reducible first | exact HB.out | apply below_alloc | apply pw_below_drewN | apply below_drew1 | refine below_set ?_ GE570.out | refine below_set ?_ GE571.out) | exact HB.out)) hb); clear BK570; clear BK571; clear HB; have BK570 := n0_; have BK571 := n1_; have HB := n2_; clear n0_ n1_ n2_; (try clear hb); (try clear hb2); (try clear hk); (try clear hi); have hcz25_0 : w24.cell? ⟨gb570, 0, none⟩ = some (.int .i64 a0_0) := (blk_cell BK570.out 0).trans rfl; have hcz25_1 : w24.cell? ⟨gb570, 1, none⟩ = some (.int .i64 a0_1) := (blk_cell BK570.out 1).trans rfl; have hcz25_2 : w24.cell? ⟨gb570, 2, none⟩ = some (.slice A0_2 l0_2.length c0_2) := (blk_cell BK570.out 2).trans rfl; have hcz25_3 : w24.cell? ⟨gb570, 3, none⟩ = some (.slice A0_3 l0_3.length c0_3) := (blk_cell BK570.out 3).trans rfl; have hfz25_0 := blk_frozen BK570.out 0; have hfz25_1 := blk_frozen BK570.out 1; have hfz25_2 := blk_frozen BK570.out 2; have hfz25_3 := blk_frozen BK570.out 3) | ((with_reducible refine gate_callee (f := 47) rfl ?_); refine goesL_ (some 28) rfl rfl Tryd.func47 (by kernel_rfl) rfl #[.agg #[.int .i64 a0_0, .int .i64 a0_1, .slice A0_2 l0_2.length c0_2, .slice A0_3 l0_3.length c0_3], .bool a1, .int .i64 a2, .int .i64 a3] rfl (by (try simp only [List.map_toArray, List.map_cons, List.map_nil]); first | done | rfl | (simp only [List.length_drop, List.length_take]; rfl)) ?_; (with_reducible refine (spec_fiPut.calls k a0_0 a0_1 _ _ l0_2 _ _ l0_3 a1 a2 a3 t574 t575 t576 t579 _ ?side1 ?side2 ?side3 ?side4 A17.out).mono ?_); (case side1 => repeat (first | exact (Kd.C_below HR0_2.out HB.out) | (with_reducible refine Kd.C_alloc ?_ _) | (with_reducible refine Kd.C_drewN ?_ _) | (with_reducible refine Kd.C_drew ?_))); (case side2 => exact HC0_2.out); (case side3 => repeat (first | exact (Kd.C_below HR0_3.out HB.out) | (with_reducible refine Kd.C_alloc ?_ _) | (with_reducible refine Kd.C_drewN ?_ _) | (with_reducible refine Kd.C_drew ?_))); (case side4 => exact HC0_3.out); rintro e w26 ⟨v577, v580, rfl, ho0, ho1, hb⟩; refine ⟨_, rfl, ?_⟩; have n0_ := Aside0.mk (Kd.R_lower ho0 (below_size (by repeat (first | (with_reducible first | exact HB.out | apply below_alloc | apply pw_below_drewN | apply below_drew1 | refine below_set ?_ GE570.out | refine below_set ?_ GE571.out) | exact HB.out)))); have n1_ := Aside0.mk (Kd.R_lower ho1 (below_size (by repeat (first | (with_reducible first | exact HB.out | apply below_alloc | apply pw_below_drewN | apply below_drew1 | refine below_set ?_ GE570.out | refine below_set ?_ GE571.out) | exact HB.out)))); have n2_ := Aside0.mk (blk_below (g := gb570) (o := .cells #[.int .i64 a0_0, .int .i64 a0_1, .slice A0_2 l0_2.length c0_2, .slice A0_3 l0_3.length c0_3] 26 (0, 0)) (by (with_reducible repeat (first | refine blk_drewN ?_ _ | refine blk_drew ?_ | refine blk_alloc ?_ _)); exact BK570.out) hb); have n3_ := Aside0.mk (blk_below (g := gb571) (o := .cells #[.int .i64 0, .int .i64 0, .slice none 0 0, .slice none 0 0] 26 (0, 0)) (by (with_reducible repeat (first | refine blk_drewN ?_ _ | refine blk_drew ?_ | refine blk_alloc ?_ _)); exact BK571.out) hb); have n4_ := Aside0.mk (below_step (by repeat (first | (with_reducible first | exact HB.out | apply below_alloc | apply pw_below_drewN | apply below_drew1 | refine below_set ?_ GE570.out | refine below_set ?_ GE571.out) | exact HB.out)) hb); clear BK570; clear BK571; clear HB; have HO578 := n0_; have HO581 := n1_; have BK570 := n2_; have BK571 := n3_; have HB := n4_; clear n0_ n1_ n2_ n3_ n4_; (try clear hb); (try clear hb2); (try clear hk); (try clear hi); (try clear ho0); (try clear ho1); have hcz27_0 : w26.cell? ⟨gb571, 0, none⟩ = some (.int .i64 0) := (blk_cell BK571.out 0).trans rfl; have hcz27_1 : w26.cell? ⟨gb571, 1, none⟩ = some (.int .i64 0) := (blk_cell BK571.out 1).trans rfl; have hcz27_2 : w26.cell? ⟨gb571, 2, none⟩ = some (.slice none 0 0) := (blk_cell BK571.out 2).trans rfl; have hcz27_3 : w26.cell? ⟨gb571, 3, none⟩ = some (.slice none 0 0) := (blk_cell BK571.out 3).trans rfl; have hfz27_0 := blk_frozen BK571.out 0; have hfz27_1 := blk_frozen BK571.out 1; have hfz27_2 := blk_frozen BK571.out 2; have hfz27_3 := blk_frozen BK571.out 3; obtain ⟨Ao28, co28, eo28⟩ := Kd.R_slice HO578.out; subst eo28; obtain ⟨Ao29, co29, eo29⟩ := Kd.R_slice HO581.out; subst eo29))
      refine bodyPost_ret (results_ct rfl _ _ gb571 26 #[.int .i64 t574, .int .i64 t575, .slice Ao28 t576.length co28, .slice Ao29 t579.length co29] (0, 0) _ rfl (by (with_reducible repeat (first | refine blk_drewN ?_ _ | refine blk_drew ?_ | refine blk_alloc ?_ _)); refine blk_put (cs := #[.int .i64 t574, .int .i64 t575, .slice Ao28 t576.length co28, .slice none 0 0]) ?_ 3 _ rfl; (with_reducible repeat (first | refine blk_drewN ?_ _ | refine blk_drew ?_ | refine blk_alloc ?_ _)); refine blk_put (cs := #[.int .i64 t574, .int .i64 t575, .slice none 0 0, .slice none 0 0]) ?_ 2 _ rfl; (with_reducible repeat (first | refine blk_drewN ?_ _ | refine blk_drew ?_ | refine blk_alloc ?_ _)); refine blk_put (cs := #[.int .i64 t574, .int .i64 0, .slice none 0 0, .slice none 0 0]) ?_ 1 _ rfl; (with_reducible repeat (first | refine blk_drewN ?_ _ | refine blk_drew ?_ | refine blk_alloc ?_ _)); refine blk_put (cs := #[.int .i64 0, .int .i64 0, .slice none 0 0, .slice none 0 0]) ?_ 0 _ rfl; (with_reducible repeat (first | refine blk_drewN ?_ _ | refine blk_drew ?_ | refine blk_alloc ?_ _)); exact BK571.out) Tryd.underlying26 rfl (by kernel_rfl)) rfl ?_
      exact ⟨_, _, by first | rfl | (simp [errW_none, errW_some] <;> rfl) | (simp [*, errW_none, errW_some] <;> rfl), by (with_reducible repeat (first | apply Kd.R_alloc | apply Kd.R_drewN | apply Kd.R_drew)); exact Kd.R_mono (Kd.R_far (p := ⟨gb571, 3, none⟩) (Kd.R_far (p := ⟨gb571, 2, none⟩) (Kd.R_far (p := ⟨gb571, 1, none⟩) (Kd.R_far (p := ⟨gb571, 0, none⟩) (Kd.R_types HO578.out BK571.out (by decide)) (fun _ hk => hk.2) (.int .i64 t574)) (fun _ hk => hk.2) (.int .i64 t575)) (fun _ hk => hk.2) (.slice Ao28 t576.length co28)) (fun _ hk => hk.2) (.slice Ao29 t579.length co29)) (fun _ hk => hk.1), by (with_reducible repeat (first | apply Kd.R_alloc | apply Kd.R_drewN | apply Kd.R_drew)); exact Kd.R_mono (Kd.R_far (p := ⟨gb571, 3, none⟩) (Kd.R_far (p := ⟨gb571, 2, none⟩) (Kd.R_far (p := ⟨gb571, 1, none⟩) (Kd.R_far (p := ⟨gb571, 0, none⟩) (Kd.R_types HO581.out BK571.out (by decide)) (fun _ hk => hk.2) (.int .i64 t574)) (fun _ hk => hk.2) (.int .i64 t575)) (fun _ hk => hk.2) (.slice Ao28 t576.length co28)) (fun _ hk => hk.2) (.slice Ao29 t579.length co29)) (fun _ hk => hk.1), by repeat (first | (with_reducible first | exact HB.out | apply below_alloc | apply pw_below_drewN | apply below_drew1 | refine below_set ?_ GE570.out | refine below_set ?_ GE571.out) | exact HB.out)⟩
  · replace c6 := Bool.eq_false_iff.mpr c6
    subst c6
    have H1 : (some (0, 0, ([] : List Int), ([] : List Int), false)) = some (r1, r2, r3, r4, r5) := by rw [if_neg (show ¬ (false = true) by decide)] at H; exact H
    clear H
    have H := H1
    clear H1
    simp only [Option.some.injEq, Prod.mk.injEq] at H
    obtain ⟨rfl, rfl, rfl, rfl, rfl⟩ := H
    go_enter Tryd.func20, Tryd.ntmps20
    go_wp2_with (first | ((with_reducible refine gate_dst (N := 4) rfl ?_); refine box_event ?hg (N := 4) ?hd (cs := #[.int .i64 a0_0, .int .i64 a0_1, .slice A0_2 l0_2.length c0_2, .slice A0_3 l0_3.length c0_3]) (t := 26) ?hr ?_; (case hd => rfl); (case hg => rfl); (case hr => first | (go_simp; done) | (go_simp; rfl)); intro gb570 hg w30 hbox hb; have n0_ := Aside0.mk (below_step (by repeat (first | (with_reducible first | exact HB.out | apply below_alloc | apply pw_below_drewN | apply below_drew1) | exact HB.out)) hb); have n1_ := Aside0.mk (hbox); have n2_ := Aside0.mk ((by rw [hg]; exact (below_size (by repeat (first | (with_reducible first | exact HB.out | apply below_alloc | apply pw_below_drewN | apply below_drew1) | exact HB.out))) : w.heap.size ≤ gb570)); have n3_ := Aside0.mk ((by rw [hg]; exact (below_size (by repeat (first | (with_reducible first | exact HB.out | apply below_alloc | apply pw_below_drewN | apply below_drew1) | exact HB.out))) : w.heap.size ≤ gb570)); clear HB; have HB := n0_; have BK570 := n1_; have GW570 := n2_; have GE570 := n3_; clear n0_ n1_ n2_ n3_; clear hb hbox hg) | ((with_reducible refine gate_dst (N := 8) rfl ?_); refine box_event ?hg (N := 8) ?hd (cs := #[.int .i64 0, .int .i64 0, .slice none 0 0, .slice none 0 0]) (t := 26) ?hr ?_; (case hd => rfl); (case hg => rfl); (case hr => first | (go_simp; done) | (go_simp; rfl)); intro gb571 hg w31 hbox hb; have n0_ := Aside0.mk (blk_below (g := gb570) (o := .cells #[.int .i64 a0_0, .int .i64 a0_1, .slice A0_2 l0_2.length c0_2, .slice A0_3 l0_3.length c0_3] 26 (0, 0)) (by (with_reducible repeat (first | refine blk_drewN ?_ _ | refine blk_drew ?_ | refine blk_alloc ?_ _)); exact BK570.out) hb); have n1_ := Aside0.mk (below_step (by repeat (first | (with_reducible first | exact HB.out | apply below_alloc | apply pw_below_drewN | apply below_drew1 | refine below_set ?_ GE570.out) | exact HB.out)) hb); have n2_ := Aside0.mk (hbox); have n3_ := Aside0.mk ((by rw [hg]; exact (below_size (by repeat (first | (with_reducible first | exact HB.out | apply below_alloc | apply pw_below_drewN | apply below_drew1 | refine below_set ?_ GE570.out) | exact HB.out))) : w.heap.size ≤ gb571)); have n4_ := Aside0.mk ((by rw [hg]; exact (below_size (by repeat (first | (with_reducible first | exact HB.out | apply below_alloc | apply pw_below_drewN | apply below_drew1 | refine below_set ?_ GE570.out) | exact HB.out))) : w.heap.size ≤ gb571)); have n5_ := Aside0.mk ((by rw [hg]; exact Nat.ne_of_lt (blk_lt (g := gb570) (o := .cells #[.int .i64 a0_0, .int .i64 a0_1, .slice A0_2 l0_2.length c0_2, .slice A0_3 l0_3.length c0_3] 26 (0, 0)) (by (with_reducible repeat (first | refine blk_drewN ?_ _ | refine blk_drew ?_ | refine blk_alloc ?_ _)); exact BK570.out)) : gb570 ≠ gb571)); have n6_ := Aside0.mk ((by rw [hg]; exact Nat.ne_of_gt (blk_lt (g := gb570) (o := .cells #[.int .i64 a0_0, .int .i64 a0_1, .slice A0_2 l0_2.length c0_2, .slice A0_3 l0_3.length c0_3] 26 (0, 0)) (by (with_reducible repeat (first | refine blk_drewN ?_ _ | refine blk_drew ?_ | refine blk_alloc ?_ _)); exact BK570.out)) : gb571 ≠ gb570)); clear BK570; clear HB; have BK570 := n0_; have HB := n1_; have BK571 := n2_; have GW571 := n3_; have GE571 := n4_; have NB570_571 := n5_; have NB571_570 := n6_; clear n0_ n1_ n2_ n3_ n4_ n5_ n6_; clear hb hbox hg; have hnb32 := NB570_571.out; have hnc32 := NB571_570.out; have hcz33_0 : w31.cell? ⟨gb570, 0, none⟩ = some (.int .i64 a0_0) := (blk_cell BK570.out 0).trans rfl; have hcz33_1 : w31.cell? ⟨gb570, 1, none⟩ = some (.int .i64 a0_1) := (blk_cell BK570.out 1).trans rfl; have hcz33_2 : w31.cell? ⟨gb570, 2, none⟩ = some (.slice A0_2 l0_2.length c0_2) := (blk_cell BK570.out 2).trans rfl; have hcz33_3 : w31.cell? ⟨gb570, 3, none⟩ = some (.slice A0_3 l0_3.length c0_3) := (blk_cell BK570.out 3).trans rfl; have hfz33_0 := blk_frozen BK570.out 0; have hfz33_1 := blk_frozen BK570.out 1; have hfz33_2 := blk_frozen BK570.out 2; have hfz33_3 := blk_frozen BK570.out 3) | ((with_reducible refine gate_callee (f := 51) rfl ?_); refine goesL_ (some 14) rfl rfl Tryd.func51 (by kernel_rfl) rfl #[.agg #[.int .i64 a0_0, .int .i64 a0_1, .slice A0_2 l0_2.length c0_2, .slice A0_3 l0_3.length c0_3], .bool a1, .int .i64 a2, .int .i64 a3] rfl (by (try simp only [List.map_toArray, List.map_cons, List.map_nil]); first | done | rfl | (simp only [List.length_drop, List.length_take]; rfl)) ?_; (with_reducible refine (spec_fiAsked.calls k a0_0 a0_1 _ _ l0_2 _ _ l0_3 a1 a2 a3 false _ ?side1 ?side2 ?side3 ?side4 A5.out).mono ?_); (case side1 => repeat (first | exact (Kd.C_below HR0_2.out HB.out) | (with_reducible refine Kd.C_alloc ?_ _) | (with_reducible refine Kd.C_drewN ?_ _) | (with_reducible refine Kd.C_drew ?_))); (case side2 => exact HC0_2.out); (case side3 => repeat (first | exact (Kd.C_below HR0_3.out HB.out) | (with_reducible refine Kd.C_alloc ?_ _) | (with_reducible refine Kd.C_drewN ?_ _) | (with_reducible refine Kd.C_drew ?_))); (case side4 => exact HC0_3.out); rintro e w34 ⟨rfl, hb⟩; refine ⟨_, rfl, ?_⟩; have n0_ := Aside0.mk (blk_below (g := gb570) (o := .cells #[.int .i64 a0_0, .int .i64 a0_1, .slice A0_2 l0_2.length c0_2, .slice A0_3 l0_3.length c0_3] 26 (0, 0)) (by (with_reducible repeat (first | refine blk_drewN ?_ _ | refine blk_drew ?_ | refine blk_alloc ?_ _)); exact BK570.out) hb); have n1_ := Aside0.mk (blk_below (g := gb571) (o := .cells #[.int .i64 0, .int .i64 0, .slice none 0 0, .slice none 0 0] 26 (0, 0)) (by (with_reducible repeat (first | refine blk_drewN ?_ _ | refine blk_drew ?_ | refine blk_alloc ?_ _)); exact BK571.out) hb); have n2_ := Aside0.mk (below_step (by repeat (first | (with_reducible first | exact HB.out | apply below_alloc | apply pw_below_drewN | apply below_drew1 | refine below_set ?_ GE570.out | refine below_set ?_ GE571.out) | exact HB.out)) hb); clear BK570; clear BK571; clear HB; have BK570 := n0_; have BK571 := n1_; have HB := n2_; clear n0_ n1_ n2_; (try clear hb); (try clear hb2); (try clear hk); (try clear hi); have hcz35_0 : w34.cell? ⟨gb571, 0, none⟩ = some (.int .i64 0) := (blk_cell BK571.out 0).trans rfl; have hcz35_1 : w34.cell? ⟨gb571, 1, none⟩ = some (.int .i64 0) := (blk_cell BK571.out 1).trans rfl; have hcz35_2 : w34.cell? ⟨gb571, 2, none⟩ = some (.slice none 0 0) := (blk_cell BK571.out 2).trans rfl; have hcz35_3 : w34.cell? ⟨gb571, 3, none⟩ = some (.slice none 0 0) := (blk_cell BK571.out 3).trans rfl; have hfz35_0 := blk_frozen BK571.out 0; have hfz35_1 := blk_frozen BK571.out 1; have hfz35_2 := blk_frozen BK571.out 2; have hfz35_3 := blk_frozen BK571.out 3))
    refine bodyPost_ret (results_ct rfl _ _ gb571 26 #[.int .i64 0, .int .i64 0, .slice none 0 0, .slice none 0 0] (0, 0) _ rfl (by (with_reducible repeat (first | refine blk_drewN ?_ _ | refine blk_drew ?_ | refine blk_alloc ?_ _)); refine blk_put (cs := #[.int .i64 0, .int .i64 0, .slice none 0 0, .slice none 0 0]) ?_ 3 _ rfl; (with_reducible repeat (first | refine blk_drewN ?_ _ | refine blk_drew ?_ | refine blk_alloc ?_ _)); refine blk_put (cs := #[.int .i64 0, .int .i64 0, .slice none 0 0, .slice none 0 0]) ?_ 2 _ rfl; (with_reducible repeat (first | refine blk_drewN ?_ _ | refine blk_drew ?_ | refine blk_alloc ?_ _)); refine blk_put (cs := #[.int .i64 0, .int .i64 0, .slice none 0 0, .slice none 0 0]) ?_ 1 _ rfl; (with_reducible repeat (first | refine blk_drewN ?_ _ | refine blk_drew ?_ | refine blk_alloc ?_ _)); refine blk_put (cs := #[.int .i64 0, .int .i64 0, .slice none 0 0, .slice none 0 0]) ?_ 0 _ rfl; (with_reducible repeat (first | refine blk_drewN ?_ _ | refine blk_drew ?_ | refine blk_alloc ?_ _)); exact BK571.out) Tryd.underlying26 rfl (by kernel_rfl)) rfl ?_
    exact ⟨_, _, by first | rfl | (simp [errW_none, errW_some] <;> rfl) | (simp [*, errW_none, errW_some] <;> rfl), by first | exact Kd.R_nil _ _ _ _ _ | exact Kd.N_nil _ _ _ _ _ | exact Kd.V_nil _ _ _ _ _ | exact Kd.Q_nil _ _ _ _ _ | exact Kd.S_nil _ _ _ _ _, by first | exact Kd.R_nil _ _ _ _ _ | exact Kd.N_nil _ _ _ _ _ | exact Kd.V_nil _ _ _ _ _ | exact Kd.Q_nil _ _ _ _ _ | exact Kd.S_nil _ _ _ _ _, by repeat (first | (with_reducible first | exact HB.out | apply below_alloc | apply pw_below_drewN | apply below_drew1 | refine below_set ?_ GE570.out | refine below_set ?_ GE571.out) | exact HB.out)⟩

end Go.Proofs.YtjnajeplfgdklaaDoor.P


namespace Go.Proofs.YtjnajeplfgdklaaDoor.P
open Go.RowKit Go.Proofs.YtjnajeplfgdklaaDoorW.PrintWords Go.Proofs.YtjnajeplfgdklaaDoorW.PrintLast Go.Proofs.YtjnajeplfgdklaaDoorW.PrintMore
attribute [local go_sem] max2_int min2_int max_two min_two max_three min_three max_four min_four   -- for this text's walks alone
set_option linter.unusedVariables false
set_option linter.unusedSimpArgs false

def impl_AddMatch.j0 : Nat → Int → Bool → Int → Int → List Int → List Int → Option (Int × Int × List Int × List Int × Bool)
  | 0, _, _, _, _, _, _ => none
  | k + 1, x10, x28, x594000, x594001, x594002, x594003 => if x28 = true then (some (0, 0, ([] : List Int), ([] : List Int), false)) else ((impl_Figure_grid.f x594000 x594001 x594002 x594003).bind fun bt598 => ((impl_Figure_set.f k x594000 x594001 x594002 x594003).bind fun t600 => ((impl_grid_figure.f bt598.1 bt598.2 (Go.bits .or .u64 t600 x10)).bind fun bt601 => (some (bt601.1, bt601.2.1, bt601.2.2.1, bt601.2.2.2, true)))))
def impl_AddMatch.f (k : Nat) (a0_0 : Int) (a0_1 : Int) (l0_2 : List Int) (l0_3 : List Int) (a1 : Bool) (a2 : Int) (a3 : Int) : Option (Int × Int × List Int × List Int × Bool) := (impl_edge.f k a0_0 a0_1 l0_2 l0_3 a1 a2 a3).bind fun bt595 => (if bt595.2 = true then ((impl_Figure_set.f k a0_0 a0_1 l0_2 l0_3).bind fun t597 => (impl_AddMatch.j0 k bt595.1 ((Go.bits .and .u64 t597 bt595.1) != 0) a0_0 a0_1 l0_2 l0_3)) else (impl_AddMatch.j0 k bt595.1 true a0_0 a0_1 l0_2 l0_3))
theorem impl_AddMatch.mono_l : ∀ k, (∀ y0 y1 y2 y3 y4 y5, LeO (impl_AddMatch.j0 k y0 y1 y2 y3 y4 y5) (impl_AddMatch.j0 (k + 1) y0 y1 y2 y3 y4 y5))
  | 0 => fun _ _ _ _ _ _ r h => by simp [impl_AddMatch.j0] at h
  | k + 1 => by
    have ih0 := impl_AddMatch.mono_l k
    · intro y0 y1 y2 y3 y4 y5
      unfold impl_AddMatch.j0
      repeat' first
      | (with_reducible exact ih0 _ _ _ _ _ _)
      | (with_reducible exact impl_Figure_set.mono _ _ _ _ _)
      | (with_reducible exact impl_edge.mono _ _ _ _ _ _ _ _)
      | (with_reducible exact LeO.refl _)
      | (with_reducible exact LeO.none _)
      | (with_reducible refine LeO.ite ?_ ?_)
      | (with_reducible refine LeO.bind ?_ (fun _ => ?_))
      | exact ih0 _ _ _ _ _ _
      | exact impl_Figure_set.mono _ _ _ _ _
      | exact impl_edge.mono _ _ _ _ _ _ _ _
      | exact LeO.none _
      | refine LeO.ite ?_ ?_
      | refine LeO.bind ?_ (fun _ => ?_)
theorem impl_AddMatch.mono : ∀ a0 a1 a2 a3 a4 a5 a6 k, LeO (impl_AddMatch.f k a0 a1 a2 a3 a4 a5 a6) (impl_AddMatch.f (k + 1) a0 a1 a2 a3 a4 a5 a6) := by
  intro a0 a1 a2 a3 a4 a5 a6 k
  have ih0 := impl_AddMatch.mono_l k
  unfold impl_AddMatch.f
  repeat' first
      | (with_reducible exact ih0 _ _ _ _ _ _)
      | (with_reducible exact impl_Figure_set.mono _ _ _ _ _)
      | (with_reducible exact impl_edge.mono _ _ _ _ _ _ _ _)
      | (with_reducible exact LeO.refl _)
      | (with_reducible exact LeO.none _)
      | (with_reducible refine LeO.ite ?_ ?_)
      | (with_reducible refine LeO.bind ?_ (fun _ => ?_))
      | exact ih0 _ _ _ _ _ _
      | exact impl_Figure_set.mono _ _ _ _ _
      | exact impl_edge.mono _ _ _ _ _ _ _ _
      | exact LeO.none _
      | refine LeO.ite ?_ ?_
      | refine LeO.bind ?_ (fun _ => ?_)
def impl_AddMatch.T4 : Bool × List (List Nat × List Nat) := (true, [([], []), ([0], [0]), ([], []), ([2, 1], [2]), ([], []), ([3, 4], [3, 4]), ([1, 5, 3], [1, 5]), ([6, 6, 0, 1, 2, 3, 4, 5, 6], [6]), ([7, 0, 1, 2, 3, 4, 5, 6, 7], [])])
def impl_AddMatch.B4 : List Nat := [0, 1, 0, 7, 0, 31, 63, 127, 255]
theorem impl_AddMatch.tab4 : rtab .any (opsOf Tryd.f21 4) = impl_AddMatch.T4 := by kernel_rfl
theorem impl_AddMatch.bits4 : waitsOk impl_AddMatch.T4.2 impl_AddMatch.B4 = true := by kernel_rfl
set_option maxHeartbeats 8000000 in
set_option maxRecDepth 100000 in
theorem impl_AddMatch.calls (k : Nat) (a0_0 : Int) (a0_1 : Int) (A0_2 : Option Addr) (c0_2 : Nat) (l0_2 : List Int) (A0_3 : Option Addr) (c0_3 : Nat) (l0_3 : List Int) (a1 : Bool) (a2 : Int) (a3 : Int) (r1 : Int) (r2 : Int) (r3 : List Int) (r4 : List Int) (r5 : Bool) (w : World) (hr0_2 : Kd.C (Kd.int .i64) w A0_2 l0_2.length l0_2) (hc0_2 : l0_2.length ≤ c0_2) (hr0_3 : Kd.C (Kd.int .i64) w A0_3 l0_3.length l0_3) (hc0_3 : l0_3.length ≤ c0_3) (hT_ : TB w) (h : impl_AddMatch.f k a0_0 a0_1 l0_2 l0_3 a1 a2 a3 = some (r1, r2, r3, r4, r5)) :
    Calls Tryd.prog 21 #[.agg #[.int .i64 a0_0, .int .i64 a0_1, .slice A0_2 l0_2.length c0_2, .slice A0_3 l0_3.length c0_3], .bool a1, .int .i64 a2, .int .i64 a3] w fun e w' => ∃ v2_ v3_ : Value, e = .returned (.tuple #[.agg #[.int .i64 r1, .int .i64 r2, v2_, v3_], .bool r5]) ∧ Kd.R (Kd.int .i64) 3 w' w.heap.size (fun k_ => some k_ ≠ (v3_ : Value).ownBlock) v2_ r3 ∧ Kd.R (Kd.int .i64) 3 w' w.heap.size (fun k_ => some k_ ≠ (v2_ : Value).ownBlock) v3_ r4 ∧ Below w.heap.size w w' := by
  have hu26 := Tryd.underlying26
  have HR0_2 := Aside0.mk hr0_2
  have HC0_2 := Aside0.mk hc0_2
  clear hr0_2 hc0_2
  have HR0_3 := Aside0.mk hr0_3
  have HC0_3 := Aside0.mk hc0_3
  clear hr0_3 hc0_3
  have HB := Aside0.mk (Below.refl w.heap.size w)
  have HTB := Aside0.mk hT_
  clear hT_
  have H : ((impl_edge.f k a0_0 a0_1 l0_2 l0_3 a1 a2 a3).bind fun bt595 => (if bt595.2 = true then ((impl_Figure_set.f k a0_0 a0_1 l0_2 l0_3).bind fun t597 => (impl_AddMatch.j0 k bt595.1 ((Go.bits .and .u64 t597 bt595.1) != 0) a0_0 a0_1 l0_2 l0_3)) else (impl_AddMatch.j0 k bt595.1 true a0_0 a0_1 l0_2 l0_3))) = some (r1, r2, r3, r4, r5) := h
  clear h
  replace H := Option.bind_eq_some_iff.mp H
  obtain ⟨⟨t595, t596⟩, A50, H⟩ := H
  replace H : (if t596 = true then ((impl_Figure_set.f k a0_0 a0_1 l0_2 l0_3).bind fun t597 => (impl_AddMatch.j0 k t595 ((Go.bits .and .u64 t597 t595) != 0) a0_0 a0_1 l0_2 l0_3)) else (impl_AddMatch.j0 k t595 true a0_0 a0_1 l0_2 l0_3)) = some (r1, r2, r3, r4, r5) := H
  have A5 := Aside0.mk A50
  clear A50
  have HC6 := Aside0.mk H
  clear H
  go_enter Tryd.func21, Tryd.ntmps21
  go_upto_region 2 with (first | ((with_reducible refine gate_dst (N := 4) rfl ?_); refine box_event ?hg (N := 4) ?hd (cs := #[.int .i64 a0_0, .int .i64 a0_1, .slice A0_2 l0_2.length c0_2, .slice A0_3 l0_3.length c0_3]) (t := 26) ?hr ?_; (case hd => rfl); (case hg => rfl); (case hr => first | (go_simp; done) | (go_simp; rfl)); intro gb593 hg w7 hbox hb; have n0_ := Aside0.mk (below_step (by repeat (first | (with_reducible first | exact HB.out | apply below_alloc | apply pw_below_drewN | apply below_drew1) | exact HB.out)) hb); have n1_ := Aside0.mk (hbox); have n2_ := Aside0.mk ((by rw [hg]; exact (below_size (by repeat (first | (with_reducible first | exact HB.out | apply below_alloc | apply pw_below_drewN | apply below_drew1) | exact HB.out))) : w.heap.size ≤ gb593)); have n3_ := Aside0.mk ((by rw [hg]; exact (below_size (by repeat (first | (with_reducible first | exact HB.out | apply below_alloc | apply pw_below_drewN | apply below_drew1) | exact HB.out))) : w.heap.size ≤ gb593)); clear HB; have HB := n0_; have BK593 := n1_; have GW593 := n2_; have GE593 := n3_; clear n0_ n1_ n2_ n3_; clear hb hbox hg) | ((with_reducible refine gate_dst (N := 8) rfl ?_); refine box_event ?hg (N := 8) ?hd (cs := #[.int .i64 0, .int .i64 0, .slice none 0 0, .slice none 0 0]) (t := 26) ?hr ?_; (case hd => rfl); (case hg => rfl); (case hr => first | (go_simp; done) | (go_simp; rfl)); intro gb594 hg w8 hbox hb; have n0_ := Aside0.mk (blk_below (g := gb593) (o := .cells #[.int .i64 a0_0, .int .i64 a0_1, .slice A0_2 l0_2.length c0_2, .slice A0_3 l0_3.length c0_3] 26 (0, 0)) (by (with_reducible repeat (first | refine blk_drewN ?_ _ | refine blk_drew ?_ | refine blk_alloc ?_ _)); exact BK593.out) hb); have n1_ := Aside0.mk (below_step (by repeat (first | (with_reducible first | exact HB.out | apply below_alloc | apply pw_below_drewN | apply below_drew1 | refine below_set ?_ GE593.out) | exact HB.out)) hb); have n2_ := Aside0.mk (hbox); have n3_ := Aside0.mk ((by rw [hg]; exact (below_size (by repeat (first | (with_reducible first | exact HB.out | apply below_alloc | apply pw_below_drewN | apply below_drew1 | refine below_set ?_ GE593.out) | exact HB.out))) : w.heap.size ≤ gb594)); have n4_ := Aside0.mk ((by rw [hg]; exact (below_size (by repeat (first | (with_reducible first | exact HB.out | apply below_alloc | apply pw_below_drewN | apply below_drew1 | refine below_set ?_ GE593.out) | exact HB.out))) : w.heap.size ≤ gb594)); have n5_ := Aside0.mk ((by rw [hg]; exact Nat.ne_of_lt (blk_lt (g := gb593) (o := .cells #[.int .i64 a0_0, .int .i64 a0_1, .slice A0_2 l0_2.length c0_2, .slice A0_3 l0_3.length c0_3] 26 (0, 0)) (by (with_reducible repeat (first | refine blk_drewN ?_ _ | refine blk_drew ?_ | refine blk_alloc ?_ _)); exact BK593.out)) : gb593 ≠ gb594)); have n6_ := Aside0.mk ((by rw [hg]; exact Nat.ne_of_gt (blk_lt (g := gb593) (o := .cells #[.int .i64 a0_0, .int .i64 a0_1, .slice A0_2 l0_2.length c0_2, .slice A0_3 l0_3.length c0_3] 26 (0, 0)) (by (with_reducible repeat (first | refine blk_drewN ?_ _ | refine blk_drew ?_ | refine blk_alloc ?_ _)); exact BK593.out)) : gb594 ≠ gb593)); clear BK593; clear HB; have BK593 := n0_; have HB := n1_; have BK594 := n2_; have GW594 := n3_; have GE594 := n4_; have NB593_594 := n5_; have NB594_593 := n6_; clear n0_ n1_ n2_ n3_ n4_ n5_ n6_; clear hb hbox hg; have hnb9 := NB593_594.out; have hnc9 := NB594_593.out; have hcz10_0 : w8.cell? ⟨gb593, 0, none⟩ = some (.int .i64 a0_0) := (blk_cell BK593.out 0).trans rfl; have hcz10_1 : w8.cell? ⟨gb593, 1, none⟩ = some (.int .i64 a0_1) := (blk_cell BK593.out 1).trans rfl; have hcz10_2 : w8.cell? ⟨gb593, 2, none⟩ = some (.slice A0_2 l0_2.length c0_2) := (blk_cell BK593.out 2).trans rfl; have hcz10_3 : w8.cell? ⟨gb593, 3, none⟩ = some (.slice A0_3 l0_3.length c0_3) := (blk_cell BK593.out 3).trans rfl; have hfz10_0 := blk_frozen BK593.out 0; have hfz10_1 := blk_frozen BK593.out 1; have hfz10_2 := blk_frozen BK593.out 2; have hfz10_3 := blk_frozen BK593.out 3) | ((with_reducible refine gate_callee (f := 53) rfl ?_); refine goesL_ (some 17) rfl rfl Tryd.func53 (by kernel_rfl) rfl #[.agg #[.int .i64 a0_0, .int .i64 a0_1, .slice A0_2 l0_2.length c0_2, .slice A0_3 l0_3.length c0_3], .bool a1, .int .i64 a2, .int .i64 a3] rfl (by (try simp only [List.map_toArray, List.map_cons, List.map_nil]); first | done | rfl | (simp only [List.length_drop, List.length_take]; rfl)) ?_; (with_reducible refine (impl_edge.calls k a0_0 a0_1 _ _ l0_2 _ _ l0_3 a1 a2 a3 t595 t596 _ ?side1 ?side2 ?side3 ?side4 A5.out).mono ?_); (case side1 => repeat (first | exact (Kd.C_below HR0_2.out HB.out) | (with_reducible refine Kd.C_alloc ?_ _) | (with_reducible refine Kd.C_drewN ?_ _) | (with_reducible refine Kd.C_drew ?_))); (case side2 => exact HC0_2.out); (case side3 => repeat (first | exact (Kd.C_below HR0_3.out HB.out) | (with_reducible refine Kd.C_alloc ?_ _) | (with_reducible refine Kd.C_drewN ?_ _) | (with_reducible refine Kd.C_drew ?_))); (case side4 => exact HC0_3.out); rintro e w11 ⟨rfl, hb⟩; refine ⟨_, rfl, ?_⟩; have n0_ := Aside0.mk (blk_below (g := gb593) (o := .cells #[.int .i64 a0_0, .int .i64 a0_1, .slice A0_2 l0_2.length c0_2, .slice A0_3 l0_3.length c0_3] 26 (0, 0)) (by (with_reducible repeat (first | refine blk_drewN ?_ _ | refine blk_drew ?_ | refine blk_alloc ?_ _)); exact BK593.out) hb); have n1_ := Aside0.mk (blk_below (g := gb594) (o := .cells #[.int .i64 0, .int .i64 0, .slice none 0 0, .slice none 0 0] 26 (0, 0)) (by (with_reducible repeat (first | refine blk_drewN ?_ _ | refine blk_drew ?_ | refine blk_alloc ?_ _)); exact BK594.out) hb); have n2_ := Aside0.mk (below_step (by repeat (first | (with_reducible first | exact HB.out | apply below_alloc | apply pw_below_drewN | apply below_drew1 | refine below_set ?_ GE593.out | refine below_set ?_ GE594.out) | exact HB.out)) hb); clear BK593; clear BK594; clear HB; have BK593 := n0_; have BK594 := n1_; have HB := n2_; clear n0_ n1_ n2_; (try clear hb); (try clear hb2); (try clear hk); (try clear hi)))
  (try simp only [Act.put, List.setIfInBounds_toArray, List.set_cons_zero, List.set_cons_succ])
  go_cut [28] (fun v28 wc => ∃ (kq : Nat) (x28_5 : Bool), v28 = .bool x28_5 ∧ Aside0 (impl_AddMatch.j0 kq t595 x28_5 a0_0 a0_1 l0_2 l0_3 = some (r1, r2, r3, r4, r5)) ∧ Aside0 (kq ≤ k) ∧ Aside0 (wc.heap[gb593]? = some (.cells #[.int .i64 a0_0, .int .i64 a0_1, (.slice A0_2 l0_2.length c0_2), (.slice A0_3 l0_3.length c0_3)] 26 (0, 0))) ∧ Aside0 (wc.heap[gb594]? = some (.cells #[.int .i64 0, .int .i64 0, (.slice none 0 0), (.slice none 0 0)] 26 (0, 0))) ∧ Aside0 (Below w.heap.size w wc))
  case first =>
    have H := HC6.out
    clear HC6
    by_cases c12 : t596 = true
    · subst c12
      have H1 : ((impl_Figure_set.f k a0_0 a0_1 l0_2 l0_3).bind fun t597 => (impl_AddMatch.j0 k t595 ((Go.bits .and .u64 t597 t595) != 0) a0_0 a0_1 l0_2 l0_3)) = some (r1, r2, r3, r4, r5) := by rw [if_pos rfl] at H; exact H
      clear H
      have H := H1
      clear H1
      replace H := Option.bind_eq_some_iff.mp H
      obtain ⟨t597, A130, H⟩ := H
      replace H : (impl_AddMatch.j0 k t595 ((Go.bits .and .u64 t597 t595) != 0) a0_0 a0_1 l0_2 l0_3) = some (r1, r2, r3, r4, r5) := H
      have A13 := Aside0.mk A130
      clear A130
      have H' := Aside0.mk H
      clear H
      have hnb14 := NB593_594.out
      have hnc14 := NB594_593.out
      have hcz15_0 : w11.cell? ⟨gb593, 0, none⟩ = some (.int .i64 a0_0) := (blk_cell BK593.out 0).trans rfl
      have hcz15_1 : w11.cell? ⟨gb593, 1, none⟩ = some (.int .i64 a0_1) := (blk_cell BK593.out 1).trans rfl
      have hcz15_2 : w11.cell? ⟨gb593, 2, none⟩ = some (.slice A0_2 l0_2.length c0_2) := (blk_cell BK593.out 2).trans rfl
      have hcz15_3 : w11.cell? ⟨gb593, 3, none⟩ = some (.slice A0_3 l0_3.length c0_3) := (blk_cell BK593.out 3).trans rfl
      have hfz15_0 := blk_frozen BK593.out 0
      have hfz15_1 := blk_frozen BK593.out 1
      have hfz15_2 := blk_frozen BK593.out 2
      have hfz15_3 := blk_frozen BK593.out 3
      go_wp2_with (first | (go_at_call 41; (with_reducible refine (impl_Figure_set.calls k a0_0 a0_1 _ _ l0_2 _ _ l0_3 t597 _ ?side1 ?side2 ?side3 ?side4 A13.out).mono ?_); (case side1 => repeat (first | exact (Kd.C_below HR0_2.out HB.out) | (with_reducible refine Kd.C_alloc ?_ _) | (with_reducible refine Kd.C_drewN ?_ _) | (with_reducible refine Kd.C_drew ?_))); (case side2 => exact HC0_2.out); (case side3 => repeat (first | exact (Kd.C_below HR0_3.out HB.out) | (with_reducible refine Kd.C_alloc ?_ _) | (with_reducible refine Kd.C_drewN ?_ _) | (with_reducible refine Kd.C_drew ?_))); (case side4 => exact HC0_3.out); rintro e w16 ⟨rfl, hb⟩; have n0_ := Aside0.mk (blk_below (g := gb593) (o := .cells #[.int .i64 a0_0, .int .i64 a0_1, .slice A0_2 l0_2.length c0_2, .slice A0_3 l0_3.length c0_3] 26 (0, 0)) (by (with_reducible repeat (first | refine blk_drewN ?_ _ | refine blk_drew ?_ | refine blk_alloc ?_ _)); exact BK593.out) hb); have n1_ := Aside0.mk (blk_below (g := gb594) (o := .cells #[.int .i64 0, .int .i64 0, .slice none 0 0, .slice none 0 0] 26 (0, 0)) (by (with_reducible repeat (first | refine blk_drewN ?_ _ | refine blk_drew ?_ | refine blk_alloc ?_ _)); exact BK594.out) hb); have n2_ := Aside0.mk (below_step (by repeat (first | (with_reducible first | exact HB.out | apply below_alloc | apply pw_below_drewN | apply below_drew1 | refine below_set ?_ GE593.out | refine below_set ?_ GE594.out) | exact HB.out)) hb); clear BK593; clear BK594; clear HB; have BK593 := n0_; have BK594 := n1_; have HB := n2_; clear n0_ n1_ n2_; (try clear hb); (try clear hb2); (try clear hk); (try clear hi)))
      go_meet
      case rel => exact ⟨_, (((Go.bits .and .u64 t597 t595) != 0)), (by first | rfl | (simp; done) | (simp [*]; done)), H', ⟨by first | omega | exact Nat.le_refl _⟩, ⟨by (with_reducible repeat (first | refine blk_drewN ?_ _ | refine blk_drew ?_ | refine blk_alloc ?_ _)); exact BK593.out⟩, ⟨by (with_reducible repeat (first | refine blk_drewN ?_ _ | refine blk_drew ?_ | refine blk_alloc ?_ _)); exact BK594.out⟩, ⟨by repeat (first | (with_reducible first | exact HB.out | apply below_alloc | apply pw_below_drewN | apply below_drew1 | refine below_set ?_ GE593.out | refine below_set ?_ GE594.out) | exact HB.out)⟩⟩
    · replace c12 := Bool.eq_false_iff.mpr c12
      subst c12
      have H1 : (impl_AddMatch.j0 k t595 true a0_0 a0_1 l0_2 l0_3) = some (r1, r2, r3, r4, r5) := by rw [if_neg (show ¬ (false = true) by decide)] at H; exact H
      clear H
      have H := H1
      clear H1
      have H' := Aside0.mk H
      clear H
      go_wp2
      go_meet
      case rel => exact ⟨_, (true), (by first | rfl | (simp; done) | (simp [*]; done)), H', ⟨by first | omega | exact Nat.le_refl _⟩, ⟨by (with_reducible repeat (first | refine blk_drewN ?_ _ | refine blk_drew ?_ | refine blk_alloc ?_ _)); exact BK593.out⟩, ⟨by (with_reducible repeat (first | refine blk_drewN ?_ _ | refine blk_drew ?_ | refine blk_alloc ?_ _)); exact BK594.out⟩, ⟨by repeat (first | (with_reducible first | exact HB.out | apply below_alloc | apply pw_below_drewN | apply below_drew1 | refine below_set ?_ GE593.out | refine below_set ?_ GE594.out) | exact HB.out)⟩⟩
  case rest =>
    clear HC6
    try clear c1
    try clear c2
    try clear p2
    try clear c5
    try clear c9
    try clear c12
    try clear c14
    try clear hcz10_0
    try clear hcz10_1
    try clear hcz10_2
    try clear hcz10_3
    try clear hcz15_0
    try clear hcz15_1
    try clear hcz15_2
    try clear hcz15_3
    try clear hfz10_0
    try clear hfz10_1
    try clear hfz10_2
    try clear hfz10_3
    try clear hfz15_0
    try clear hfz15_1
    try clear hfz15_2
    try clear hfz15_3
    obtain ⟨kq, x28_5, rfl, HA, HJ5, BK593, BK594, HB⟩ := hcut
    cases kq with
    | zero => exact absurd HA.out (by simp [impl_AddMatch.j0])
    | succ kj5 =>
      have H := HA.out
      clear HA
      simp only [impl_AddMatch.j0] at H
      by_cases c17 : x28_5 = true
      · subst c17
        have H1 : (some (0, 0, ([] : List Int), ([] : List Int), false)) = some (r1, r2, r3, r4, r5) := by rw [if_pos rfl] at H; exact H
        clear H
        have H := H1
        clear H1
        simp only [Option.some.injEq, Prod.mk.injEq] at H
        obtain ⟨rfl, rfl, rfl, rfl, rfl⟩ := H
        have hnb18 := NB594_593.out
        have hnc18 := NB593_594.out
        have hcz19_0 : wc.cell? ⟨gb594, 0, none⟩ = some (.int .i64 0) := (blk_cell BK594.out 0).trans rfl
        have hcz19_1 : wc.cell? ⟨gb594, 1, none⟩ = some (.int .i64 0) := (blk_cell BK594.out 1).trans rfl
        have hcz19_2 : wc.cell? ⟨gb594, 2, none⟩ = some (.slice none 0 0) := (blk_cell BK594.out 2).trans rfl
        have hcz19_3 : wc.cell? ⟨gb594, 3, none⟩ = some (.slice none 0 0) := (blk_cell BK594.out 3).trans rfl
        have hfz19_0 := blk_frozen BK594.out 0
        have hfz19_1 := blk_frozen BK594.out 1
        have hfz19_2 := blk_frozen BK594.out 2
        have hfz19_3 := blk_frozen BK594.out 3
        go_wp2
        refine bodyPost_ret (results_ct rfl _ _ gb594 26 #[.int .i64 0, .int .i64 0, .slice none 0 0, .slice none 0 0] (0, 0) _ rfl (by (with_reducible repeat (first | refine blk_drewN ?_ _ | refine blk_drew ?_ | refine blk_alloc ?_ _)); refine blk_put (cs := #[.int .i64 0, .int .i64 0, .slice none 0 0, .slice none 0 0]) ?_ 3 _ rfl; (with_reducible repeat (first | refine blk_drewN ?_ _ | refine blk_drew ?_ | refine blk_alloc ?_ _)); refine blk_put (cs := #[.int .i64 0, .int .i64 0, .slice none 0 0, .slice none 0 0]) ?_ 2 _ rfl; (with_reducible repeat (first | refine blk_drewN ?_ _ | refine blk_drew ?_ | refine blk_alloc ?_ _)); refine blk_put (cs := #[.int .i64 0, .int .i64 0, .slice none 0 0, .slice none 0 0]) ?_ 1 _ rfl; (with_reducible repeat (first | refine blk_drewN ?_ _ | refine blk_drew ?_ | refine blk_alloc ?_ _)); refine blk_put (cs := #[.int .i64 0, .int .i64 0, .slice none 0 0, .slice none 0 0]) ?_ 0 _ rfl; (with_reducible repeat (first | refine blk_drewN ?_ _ | refine blk_drew ?_ | refine blk_alloc ?_ _)); exact BK594.out) Tryd.underlying26 rfl (by kernel_rfl)) rfl ?_
        exact ⟨_, _, by first | rfl | (simp [errW_none, errW_some] <;> rfl) | (simp [*, errW_none, errW_some] <;> rfl), by first | exact Kd.R_nil _ _ _ _ _ | exact Kd.N_nil _ _ _ _ _ | exact Kd.V_nil _ _ _ _ _ | exact Kd.Q_nil _ _ _ _ _ | exact Kd.S_nil _ _ _ _ _, by first | exact Kd.R_nil _ _ _ _ _ | exact Kd.N_nil _ _ _ _ _ | exact Kd.V_nil _ _ _ _ _ | exact Kd.Q_nil _ _ _ _ _ | exact Kd.S_nil _ _ _ _ _, by repeat (first | (with_reducible first | exact HB.out | apply below_alloc | apply pw_below_drewN | apply below_drew1 | refine below_set ?_ GE593.out | refine below_set ?_ GE594.out) | exact HB.out)⟩
      · replace c17 := Bool.eq_false_iff.mpr c17
        subst c17
        have H1 : ((impl_Figure_grid.f a0_0 a0_1 l0_2 l0_3).bind fun bt598 => ((impl_Figure_set.f kj5 a0_0 a0_1 l0_2 l0_3).bind fun t600 => ((impl_grid_figure.f bt598.1 bt598.2 (Go.bits .or .u64 t600 t595)).bind fun bt601 => (some (bt601.1, bt601.2.1, bt601.2.2.1, bt601.2.2.2, true))))) = some (r1, r2, r3, r4, r5) := by rw [if_neg (show ¬ (false = true) by decide)] at H; exact H
        clear H
        have H := H1
        clear H1
        replace H := Option.bind_eq_some_iff.mp H
        obtain ⟨⟨t598, t599⟩, A200, H⟩ := H
        replace H : ((impl_Figure_set.f kj5 a0_0 a0_1 l0_2 l0_3).bind fun t600 => ((impl_grid_figure.f t598 t599 (Go.bits .or .u64 t600 t595)).bind fun bt601 => (some (bt601.1, bt601.2.1, bt601.2.2.1, bt601.2.2.2, true)))) = some (r1, r2, r3, r4, r5) := H
        have A20 := Aside0.mk A200
        clear A200
        replace H := Option.bind_eq_some_iff.mp H
        obtain ⟨t600, A210, H⟩ := H
        replace H : ((impl_grid_figure.f t598 t599 (Go.bits .or .u64 t600 t595)).bind fun bt601 => (some (bt601.1, bt601.2.1, bt601.2.2.1, bt601.2.2.2, true))) = some (r1, r2, r3, r4, r5) := H
        have A21 := Aside0.mk A210
        clear A210
        replace H := Option.bind_eq_some_iff.mp H
        obtain ⟨⟨t601, t602, t603, t606⟩, A220, H⟩ := H
        replace H : (some (t601, t602, t603, t606, true)) = some (r1, r2, r3, r4, r5) := H
        have A22 := Aside0.mk A220
        clear A220
        simp only [Option.some.injEq, Prod.mk.injEq] at H
        obtain ⟨rfl, rfl, rfl, rfl, rfl⟩ := H
        try go_wp2
        have n0_ := Aside0.mk (blk_drew BK593.out)
        have n1_ := Aside0.mk (blk_drew BK594.out)
        have n2_ := Aside0.mk (below_drew1 HB.out)
        clear BK593
        clear BK594
        clear HB
        have BK593 := n0_
        have BK594 := n1_
        have HB := n2_
        clear n0_ n1_ n2_
        refine start_ (n := 9) (S := fun w' => w'.cell? ⟨gb593, 0, none⟩ = some (.int .i64 a0_0) ∧ w'.cell? ⟨gb593, 1, none⟩ = some (.int .i64 a0_1) ∧ w'.cell? ⟨gb593, 2, none⟩ = some (.slice A0_2 l0_2.length c0_2) ∧ w'.cell? ⟨gb593, 3, none⟩ = some (.slice A0_3 l0_3.length c0_3)) (ds := []) #[false, false, false, false, false, false, false, false, false] (by kernel_rfl) rfl rfl ⟨(blk_cell BK593.out 0).trans rfl, (blk_cell BK593.out 1).trans rfl, (blk_cell BK593.out 2).trans rfl, (blk_cell BK593.out 3).trans rfl⟩ (fun hHeld => ?_); refine with_tabW impl_AddMatch.tab4 impl_AddMatch.bits4 (fun HT_ HW_ => ?_)
        generalize wc.drew = w23 at BK593 BK594 HB hHeld ⊢
        refine pure_ (i := 4) (N := some 34) (v := ?_) (a' := ?_) #[false, false, false, false, true, false, false, false, false] rfl rfl (any_of HT_.out (by kernel_rfl)) (fun _ _ _ h => h) (Or.inl ⟨by rfl, ?_⟩) ?_ ?_
        rotate_left
        · intro w'
          go_simp
          with_reducible rfl
        rotate_left
        · simp only [Act.put, List.setIfInBounds_toArray, List.set_cons_zero, List.set_cons_succ, i64_w, i32_w]
          rfl
        refine take_ (i := 0) (N := some 30) (v := ?_) (a' := ?_) #[true, false, false, false, true, false, false, false, false] rfl rfl (take_ofW HT_.out HW_.out (by kernel_rfl)) (fun _ _ _ h => h) (Or.inl ⟨by rfl, ?_⟩) hHeld ?_ ?_
        rotate_left
        · rintro w' ⟨s0, s1, s2, s3⟩
          go_simp
          with_reducible rfl
        rotate_left
        · simp only [Act.put, List.setIfInBounds_toArray, List.set_cons_zero, List.set_cons_succ, i64_w, i32_w]
          rfl
        refine take_ (i := 2) (N := some 32) (v := ?_) (a' := ?_) #[true, false, true, false, true, false, false, false, false] rfl rfl (take_ofW HT_.out HW_.out (by kernel_rfl)) (fun _ _ _ h => h) (Or.inl ⟨by rfl, ?_⟩) hHeld ?_ ?_
        rotate_left
        · rintro w' ⟨s0, s1, s2, s3⟩
          go_simp
          with_reducible rfl
        rotate_left
        · simp only [Act.put, List.setIfInBounds_toArray, List.set_cons_zero, List.set_cons_succ, i64_w, i32_w]
          rfl
        refine one_ (i := 1) (N := some 31) #[true, true, true, false, true, false, false, false, false] rfl rfl (one_of HT_.out (by kernel_rfl)) (by decide) (fun K hK => ?_)
        refine goes_ Tryd.func39 (by kernel_rfl) rfl #[.agg #[.int .i64 a0_0, .int .i64 a0_1, .slice A0_2 l0_2.length c0_2, .slice A0_3 l0_3.length c0_3]] (by rfl) rfl rfl (by (try simp only [List.map_toArray, List.map_cons, List.map_nil]); first | done | rfl | (simp only [List.length_drop, List.length_take]; rfl)) ?_
        with_reducible refine (impl_Figure_grid.calls a0_0 a0_1 _ _ l0_2 _ _ l0_3 t598 t599 _ ?side1 ?side2 ?side3 ?side4 A20.out).mono ?_
        (case side1 => repeat (first | exact (Kd.C_below HR0_2.out HB.out) | (with_reducible refine Kd.C_alloc ?_ _) | (with_reducible refine Kd.C_drewN ?_ _) | (with_reducible refine Kd.C_drew ?_)))
        (case side2 => exact HC0_2.out)
        (case side3 => repeat (first | exact (Kd.C_below HR0_3.out HB.out) | (with_reducible refine Kd.C_alloc ?_ _) | (with_reducible refine Kd.C_drewN ?_ _) | (with_reducible refine Kd.C_drew ?_)))
        (case side4 => exact HC0_3.out)
        rintro e w24 ⟨rfl, hb⟩
        refine ⟨_, rfl, ?_⟩
        have n0_ := Aside0.mk (blk_below (g := gb593) (o := .cells #[.int .i64 a0_0, .int .i64 a0_1, .slice A0_2 l0_2.length c0_2, .slice A0_3 l0_3.length c0_3] 26 (0, 0)) (by (with_reducible repeat (first | refine blk_drewN ?_ _ | refine blk_drew ?_ | refine blk_alloc ?_ _)); exact BK593.out) hb)
        have n1_ := Aside0.mk (blk_below (g := gb594) (o := .cells #[.int .i64 0, .int .i64 0, .slice none 0 0, .slice none 0 0] 26 (0, 0)) (by (with_reducible repeat (first | refine blk_drewN ?_ _ | refine blk_drew ?_ | refine blk_alloc ?_ _)); exact BK594.out) hb)
        have n2_ := Aside0.mk (below_step (by repeat (first | (with_reducible first | exact HB.out | apply below_alloc | apply pw_below_drewN | apply below_drew1 | refine below_set ?_ GE593.out | refine below_set ?_ GE594.out) | exact HB.out)) hb)
        clear BK593
        clear BK594
        clear HB
        have BK593 := n0_
        have BK594 := n1_
        have HB := n2_
        clear n0_ n1_ n2_
        (try clear hb)
        (try clear hb2)
        (try clear hk)
        (try clear hi)
        refine hK.out _ _ ⟨(blk_cell BK593.out 0).trans rfl, (blk_cell BK593.out 1).trans rfl, (blk_cell BK593.out 2).trans rfl, (blk_cell BK593.out 3).trans rfl⟩ (fun hHeld => ?_)
        clear hK K
        refine norm_ (a' := ?_) ?_ ?_
        rotate_left
        · show Act.put _ (some 31) _ = _
          simp only [Act.put, List.setIfInBounds_toArray, List.set_cons_zero, List.set_cons_succ, i64_w, i32_w]
          rfl
        refine one_ (i := 3) (N := some 33) #[true, true, true, true, true, false, false, false, false] rfl rfl (one_of HT_.out (by kernel_rfl)) (by decide) (fun K hK => ?_)
        refine goes_ Tryd.func41 (by kernel_rfl) rfl #[.agg #[.int .i64 a0_0, .int .i64 a0_1, .slice A0_2 l0_2.length c0_2, .slice A0_3 l0_3.length c0_3]] (by rfl) rfl rfl (by (try simp only [List.map_toArray, List.map_cons, List.map_nil]); first | done | rfl | (simp only [List.length_drop, List.length_take]; rfl)) ?_
        with_reducible refine (impl_Figure_set.calls kj5 a0_0 a0_1 _ _ l0_2 _ _ l0_3 t600 _ ?side1 ?side2 ?side3 ?side4 A21.out).mono ?_
        (case side1 => repeat (first | exact (Kd.C_below HR0_2.out HB.out) | (with_reducible refine Kd.C_alloc ?_ _) | (with_reducible refine Kd.C_drewN ?_ _) | (with_reducible refine Kd.C_drew ?_)))
        (case side2 => exact HC0_2.out)
        (case side3 => repeat (first | exact (Kd.C_below HR0_3.out HB.out) | (with_reducible refine Kd.C_alloc ?_ _) | (with_reducible refine Kd.C_drewN ?_ _) | (with_reducible refine Kd.C_drew ?_)))
        (case side4 => exact HC0_3.out)
        rintro e w25 ⟨rfl, hb⟩
        refine ⟨_, rfl, ?_⟩
        have n0_ := Aside0.mk (blk_below (g := gb593) (o := .cells #[.int .i64 a0_0, .int .i64 a0_1, .slice A0_2 l0_2.length c0_2, .slice A0_3 l0_3.length c0_3] 26 (0, 0)) (by (with_reducible repeat (first | refine blk_drewN ?_ _ | refine blk_drew ?_ | refine blk_alloc ?_ _)); exact BK593.out) hb)
        have n1_ := Aside0.mk (blk_below (g := gb594) (o := .cells #[.int .i64 0, .int .i64 0, .slice none 0 0, .slice none 0 0] 26 (0, 0)) (by (with_reducible repeat (first | refine blk_drewN ?_ _ | refine blk_drew ?_ | refine blk_alloc ?_ _)); exact BK594.out) hb)
        have n2_ := Aside0.mk (below_step (by repeat (first | (with_reducible first | exact HB.out | apply below_alloc | apply pw_below_drewN | apply below_drew1 | refine below_set ?_ GE593.out | refine below_set ?_ GE594.out) | exact HB.out)) hb)
        clear BK593
        clear BK594
        clear HB
        have BK593 := n0_
        have BK594 := n1_
        have HB := n2_
        clear n0_ n1_ n2_
        (try clear hb)
        (try clear hb2)
        (try clear hk)
        (try clear hi)
        refine hK.out _ _ ⟨(blk_cell BK593.out 0).trans rfl, (blk_cell BK593.out 1).trans rfl, (blk_cell BK593.out 2).trans rfl, (blk_cell BK593.out 3).trans rfl⟩ (fun hHeld => ?_)
        clear hK K
        refine norm_ (a' := ?_) ?_ ?_
        rotate_left
        · show Act.put _ (some 33) _ = _
          simp only [Act.put, List.setIfInBounds_toArray, List.set_cons_zero, List.set_cons_succ, i64_w, i32_w]
          rfl
        refine pure_ (i := 5) (N := some 35) (v := ?_) (a' := ?_) #[true, true, true, true, true, true, false, false, false] rfl rfl (any_of HT_.out (by kernel_rfl)) (fun _ _ _ h => h) (Or.inl ⟨by rfl, ?_⟩) ?_ ?_
        rotate_left
        · intro w'
          go_simp
          with_reducible rfl
        rotate_left
        · simp only [Act.put, List.setIfInBounds_toArray, List.set_cons_zero, List.set_cons_succ, i64_w, i32_w]
          rfl
        refine one_ (i := 6) (N := some 36) #[true, true, true, true, true, true, true, false, false] rfl rfl (one_of HT_.out (by kernel_rfl)) (by decide) (fun K hK => ?_)
        refine goes_ Tryd.func40 (by kernel_rfl) rfl #[.agg #[.int .i64 t598, .int .i64 t599], .int .u64 (Go.bits .or .u64 t600 t595)] (by rfl) rfl rfl (by (try simp only [List.map_toArray, List.map_cons, List.map_nil]); first | done | rfl | (simp only [List.length_drop, List.length_take]; rfl)) ?_
        with_reducible refine (impl_grid_figure.calls t598 t599 (Go.bits .or .u64 t600 t595) t601 t602 t603 t606 _ (TB.below HTB.out (by repeat (first | (with_reducible first | exact HB.out | apply below_alloc | apply pw_below_drewN | apply below_drew1 | refine below_set ?_ GE593.out | refine below_set ?_ GE594.out) | exact HB.out))) A22.out).mono ?_
        rintro e w26 ⟨v604, v607, rfl, ho0, ho1, hb⟩
        refine ⟨_, rfl, ?_⟩
        have n0_ := Aside0.mk (Kd.R_lower ho0 (below_size (by repeat (first | (with_reducible first | exact HB.out | apply below_alloc | apply pw_below_drewN | apply below_drew1 | refine below_set ?_ GE593.out | refine below_set ?_ GE594.out) | exact HB.out))))
        have n1_ := Aside0.mk (Kd.R_lower ho1 (below_size (by repeat (first | (with_reducible first | exact HB.out | apply below_alloc | apply pw_below_drewN | apply below_drew1 | refine below_set ?_ GE593.out | refine below_set ?_ GE594.out) | exact HB.out))))
        have n2_ := Aside0.mk (blk_below (g := gb593) (o := .cells #[.int .i64 a0_0, .int .i64 a0_1, .slice A0_2 l0_2.length c0_2, .slice A0_3 l0_3.length c0_3] 26 (0, 0)) (by (with_reducible repeat (first | refine blk_drewN ?_ _ | refine blk_drew ?_ | refine blk_alloc ?_ _)); exact BK593.out) hb)
        have n3_ := Aside0.mk (blk_below (g := gb594) (o := .cells #[.int .i64 0, .int .i64 0, .slice none 0 0, .slice none 0 0] 26 (0, 0)) (by (with_reducible repeat (first | refine blk_drewN ?_ _ | refine blk_drew ?_ | refine blk_alloc ?_ _)); exact BK594.out) hb)
        have n4_ := Aside0.mk (below_step (by repeat (first | (with_reducible first | exact HB.out | apply below_alloc | apply pw_below_drewN | apply below_drew1 | refine below_set ?_ GE593.out | refine below_set ?_ GE594.out) | exact HB.out)) hb)
        clear BK593
        clear BK594
        clear HB
        have HO605 := n0_
        have HO608 := n1_
        have BK593 := n2_
        have BK594 := n3_
        have HB := n4_
        clear n0_ n1_ n2_ n3_ n4_
        (try clear hb)
        (try clear hb2)
        (try clear hk)
        (try clear hi)
        (try clear ho0)
        (try clear ho1)
        obtain ⟨Ao29, co29, eo29⟩ := Kd.R_slice HO605.out
        (first | subst eo29 | (injection eo29 with f1_ f2_ f3_; have f4_ := f1_.symm; have f5_ := f3_.symm; clear f1_ f2_ f3_; subst f4_; subst f5_))
        obtain ⟨Ao31, co31, eo31⟩ := Kd.R_slice HO608.out
        (first | subst eo31 | (injection eo31 with f1_ f2_ f3_; have f4_ := f1_.symm; have f5_ := f3_.symm; clear f1_ f2_ f3_; subst f4_; subst f5_))
        refine hK.out _ _ ⟨(blk_cell BK593.out 0).trans rfl, (blk_cell BK593.out 1).trans rfl, (blk_cell BK593.out 2).trans rfl, (blk_cell BK593.out 3).trans rfl⟩ (fun hHeld => ?_)
        clear hK K
        refine norm_ (a' := ?_) ?_ ?_
        rotate_left
        · show Act.put _ (some 36) _ = _
          simp only [Act.put, List.setIfInBounds_toArray, List.set_cons_zero, List.set_cons_succ, i64_w, i32_w]
          rfl
        refine one_ (i := 7) (N := none) #[true, true, true, true, true, true, true, true, false] rfl rfl (one_of HT_.out (by kernel_rfl)) (by decide) (fun K hK => ?_)
        have hs27 : w26.cell? ⟨gb594, 0, none⟩ = some (.int .i64 0) := (blk_cell BK594.out 0).trans rfl
        have hfs27 := blk_frozen BK594.out 0
        have hns27_0 := NB593_594.out
        have hms27_0 := NB594_593.out
        have hs28 : w26.cell? ⟨gb594, 1, none⟩ = some (.int .i64 0) := (blk_cell BK594.out 1).trans rfl
        have hfs28 := blk_frozen BK594.out 1
        have hns28_0 := NB593_594.out
        have hms28_0 := NB594_593.out
        have hs30 : w26.cell? ⟨gb594, 2, none⟩ = some (.slice none 0 0) := (blk_cell BK594.out 2).trans rfl
        have hfs30 := blk_frozen BK594.out 2
        have hns30_0 := NB593_594.out
        have hms30_0 := NB594_593.out
        have hs32 : w26.cell? ⟨gb594, 3, none⟩ = some (.slice none 0 0) := (blk_cell BK594.out 3).trans rfl
        have hfs32 := blk_frozen BK594.out 3
        have hns32_0 := NB593_594.out
        have hms32_0 := NB594_593.out
        refine skip_ (w1 := ?_) (by rfl) rfl ?_ ?_
        rotate_left
        · go_simp
          rfl
        refine hK.out _ _ ⟨((cell_far (p := ⟨gb594, _, none⟩) NB593_594.out _).trans (((cell_far (p := ⟨gb594, _, none⟩) NB593_594.out _).trans (((cell_far (p := ⟨gb594, _, none⟩) NB593_594.out _).trans (((cell_far (p := ⟨gb594, _, none⟩) NB593_594.out _).trans (hHeld.1)))))))), ((cell_far (p := ⟨gb594, _, none⟩) NB593_594.out _).trans (((cell_far (p := ⟨gb594, _, none⟩) NB593_594.out _).trans (((cell_far (p := ⟨gb594, _, none⟩) NB593_594.out _).trans (((cell_far (p := ⟨gb594, _, none⟩) NB593_594.out _).trans (hHeld.2.1)))))))), ((cell_far (p := ⟨gb594, _, none⟩) NB593_594.out _).trans (((cell_far (p := ⟨gb594, _, none⟩) NB593_594.out _).trans (((cell_far (p := ⟨gb594, _, none⟩) NB593_594.out _).trans (((cell_far (p := ⟨gb594, _, none⟩) NB593_594.out _).trans (hHeld.2.2.1)))))))), ((cell_far (p := ⟨gb594, _, none⟩) NB593_594.out _).trans (((cell_far (p := ⟨gb594, _, none⟩) NB593_594.out _).trans (((cell_far (p := ⟨gb594, _, none⟩) NB593_594.out _).trans (((cell_far (p := ⟨gb594, _, none⟩) NB593_594.out _).trans (hHeld.2.2.2))))))))⟩ (fun hHeld => ?_)
        clear hK K
        refine pure_ (i := 8) (N := some 9) (v := ?_) (a' := ?_) #[true, true, true, true, true, true, true, true, true] rfl rfl (any_of HT_.out (by kernel_rfl)) (fun _ _ _ h => h) (Or.inl ⟨by rfl, ?_⟩) ?_ ?_
        rotate_left
        · intro w'
          go_simp
          with_reducible rfl
        rotate_left
        · simp only [Act.put, List.setIfInBounds_toArray, List.set_cons_zero, List.set_cons_succ, i64_w, i32_w]
          rfl
        refine done_ (done_of HT_.out (by kernel_rfl)) ?_
        try go_wp2
        refine bodyPost_ret (results_ct rfl _ _ gb594 26 #[.int .i64 t601, .int .i64 t602, .slice Ao29 t603.length co29, .slice Ao31 t606.length co31] (0, 0) _ rfl (by (with_reducible repeat (first | refine blk_drewN ?_ _ | refine blk_drew ?_ | refine blk_alloc ?_ _)); refine blk_put (cs := #[.int .i64 t601, .int .i64 t602, .slice Ao29 t603.length co29, .slice none 0 0]) ?_ 3 _ rfl; (with_reducible repeat (first | refine blk_drewN ?_ _ | refine blk_drew ?_ | refine blk_alloc ?_ _)); refine blk_put (cs := #[.int .i64 t601, .int .i64 t602, .slice none 0 0, .slice none 0 0]) ?_ 2 _ rfl; (with_reducible repeat (first | refine blk_drewN ?_ _ | refine blk_drew ?_ | refine blk_alloc ?_ _)); refine blk_put (cs := #[.int .i64 t601, .int .i64 0, .slice none 0 0, .slice none 0 0]) ?_ 1 _ rfl; (with_reducible repeat (first | refine blk_drewN ?_ _ | refine blk_drew ?_ | refine blk_alloc ?_ _)); refine blk_put (cs := #[.int .i64 0, .int .i64 0, .slice none 0 0, .slice none 0 0]) ?_ 0 _ rfl; (with_reducible repeat (first | refine blk_drewN ?_ _ | refine blk_drew ?_ | refine blk_alloc ?_ _)); exact BK594.out) Tryd.underlying26 rfl (by kernel_rfl)) rfl ?_
        exact ⟨_, _, by first | rfl | (simp [errW_none, errW_some] <;> rfl) | (simp [*, errW_none, errW_some] <;> rfl), by (with_reducible repeat (first | apply Kd.R_alloc | apply Kd.R_drewN | apply Kd.R_drew)); exact Kd.R_mono (Kd.R_far (p := ⟨gb594, 3, none⟩) (Kd.R_far (p := ⟨gb594, 2, none⟩) (Kd.R_far (p := ⟨gb594, 1, none⟩) (Kd.R_far (p := ⟨gb594, 0, none⟩) (Kd.R_types HO605.out BK594.out (by decide)) (fun _ hk => hk.2) (.int .i64 t601)) (fun _ hk => hk.2) (.int .i64 t602)) (fun _ hk => hk.2) (.slice Ao29 t603.length co29)) (fun _ hk => hk.2) (.slice Ao31 t606.length co31)) (fun _ hk => hk.1), by (with_reducible repeat (first | apply Kd.R_alloc | apply Kd.R_drewN | apply Kd.R_drew)); exact Kd.R_mono (Kd.R_far (p := ⟨gb594, 3, none⟩) (Kd.R_far (p := ⟨gb594, 2, none⟩) (Kd.R_far (p := ⟨gb594, 1, none⟩) (Kd.R_far (p := ⟨gb594, 0, none⟩) (Kd.R_types HO608.out BK594.out (by decide)) (fun _ hk => hk.2) (.int .i64 t601)) (fun _ hk => hk.2) (.int .i64 t602)) (fun _ hk => hk.2) (.slice Ao29 t603.length co29)) (fun _ hk => hk.2) (.slice Ao31 t606.length co31)) (fun _ hk => hk.1), by repeat (first | (with_reducible first | exact HB.out | apply below_alloc | apply pw_below_drewN | apply below_drew1 | refine below_set ?_ GE593.out | refine below_set ?_ GE594.out) | exact HB.out)⟩

end Go.Proofs.YtjnajeplfgdklaaDoor.P


namespace Go.Proofs.YtjnajeplfgdklaaDoor.P
open Go.RowKit Go.Proofs.YtjnajeplfgdklaaDoorW.PrintWords Go.Proofs.YtjnajeplfgdklaaDoorW.PrintLast Go.Proofs.YtjnajeplfgdklaaDoorW.PrintMore
attribute [local go_sem] max2_int min2_int max_two min_two max_three min_three max_four min_four   -- for this text's walks alone
set_option linter.unusedVariables false
set_option linter.unusedSimpArgs false

def spec_TakeMatch.j0 : Nat → Bool → Int → Int → Bool → Int → Int → List Int → List Int → Option (Int × Int × List Int × List Int × Bool)
  | 0, _, _, _, _, _, _, _, _ => none
  | k + 1, x1, x2, x3, x23, x610000, x610001, x610002, x610003 => if x23 = true then (some (0, 0, ([] : List Int), ([] : List Int), false)) else ((spec_fiPut.f k x610000 x610001 ([] : List Int) ([] : List Int) x1 x2 x3).bind fun bt613 => ((spec_fiLess.f k x610000 x610001 x610002 x610003 bt613.1 bt613.2.1 bt613.2.2.1 bt613.2.2.2).bind fun bt621 => (some (bt621.1, bt621.2.1, bt621.2.2.1, bt621.2.2.2, true))))
def spec_TakeMatch.f (k : Nat) (a0_0 : Int) (a0_1 : Int) (l0_2 : List Int) (l0_3 : List Int) (a1 : Bool) (a2 : Int) (a3 : Int) : Option (Int × Int × List Int × List Int × Bool) := (spec_fiAsked.f k a0_0 a0_1 l0_2 l0_3 a1 a2 a3).bind fun t611 => (if t611 = true then ((spec_fiHas.f k a0_0 a0_1 l0_2 l0_3 a1 a2 a3).bind fun t612 => (spec_TakeMatch.j0 k a1 a2 a3 (!t612) a0_0 a0_1 l0_2 l0_3)) else (spec_TakeMatch.j0 k a1 a2 a3 true a0_0 a0_1 l0_2 l0_3))
theorem spec_TakeMatch.mono_l : ∀ k, (∀ y0 y1 y2 y3 y4 y5 y6 y7, LeO (spec_TakeMatch.j0 k y0 y1 y2 y3 y4 y5 y6 y7) (spec_TakeMatch.j0 (k + 1) y0 y1 y2 y3 y4 y5 y6 y7))
  | 0 => fun _ _ _ _ _ _ _ _ r h => by simp [spec_TakeMatch.j0] at h
  | k + 1 => by
    have ih0 := spec_TakeMatch.mono_l k
    · intro y0 y1 y2 y3 y4 y5 y6 y7
      unfold spec_TakeMatch.j0
      repeat' first
      | (with_reducible exact ih0 _ _ _ _ _ _ _ _)
      | (with_reducible exact spec_fiAsked.mono _ _ _ _ _ _ _ _)
      | (with_reducible exact spec_fiHas.mono _ _ _ _ _ _ _ _)
      | (with_reducible exact spec_fiLess.mono _ _ _ _ _ _ _ _ _)
      | (with_reducible exact spec_fiPut.mono _ _ _ _ _ _ _ _)
      | (with_reducible exact LeO.refl _)
      | (with_reducible exact LeO.none _)
      | (with_reducible refine LeO.ite ?_ ?_)
      | (with_reducible refine LeO.bind ?_ (fun _ => ?_))
      | exact ih0 _ _ _ _ _ _ _ _
      | exact spec_fiAsked.mono _ _ _ _ _ _ _ _
      | exact spec_fiHas.mono _ _ _ _ _ _ _ _
      | exact spec_fiLess.mono _ _ _ _ _ _ _ _ _
      | exact spec_fiPut.mono _ _ _ _ _ _ _ _
      | exact LeO.none _
      | refine LeO.ite ?_ ?_
      | refine LeO.bind ?_ (fun _ => ?_)
theorem spec_TakeMatch.mono : ∀ a0 a1 a2 a3 a4 a5 a6 k, LeO (spec_TakeMatch.f k a0 a1 a2 a3 a4 a5 a6) (spec_TakeMatch.f (k + 1) a0 a1 a2 a3 a4 a5 a6) := by
  intro a0 a1 a2 a3 a4 a5 a6 k
  have ih0 := spec_TakeMatch.mono_l k
  unfold spec_TakeMatch.f
  repeat' first
      | (with_reducible exact ih0 _ _ _ _ _ _ _ _)
      | (with_reducible exact spec_fiAsked.mono _ _ _ _ _ _ _ _)
      | (with_reducible exact spec_fiHas.mono _ _ _ _ _ _ _ _)
      | (with_reducible exact spec_fiLess.mono _ _ _ _ _ _ _ _ _)
      | (with_reducible exact spec_fiPut.mono _ _ _ _ _ _ _ _)
      | (with_reducible exact LeO.refl _)
      | (with_reducible exact LeO.none _)
      | (with_reducible refine LeO.ite ?_ ?_)
      | (with_reducible refine LeO.bind ?_ (fun _ => ?_))
      | exact ih0 _ _ _ _ _ _ _ _
      | exact spec_fiAsked.mono _ _ _ _ _ _ _ _
      | exact spec_fiHas.mono _ _ _ _ _ _ _ _
      | exact spec_fiLess.mono _ _ _ _ _ _ _ _ _
      | exact spec_fiPut.mono _ _ _ _ _ _ _ _
      | exact LeO.none _
      | refine LeO.ite ?_ ?_
      | refine LeO.bind ?_ (fun _ => ?_)
def spec_TakeMatch.T3 : Bool × List (List Nat × List Nat) := (true, [([], []), ([], []), ([1], [1]), ([], []), ([3], [3]), ([2, 4], [2, 4]), ([], []), ([], []), ([], []), ([5, 6, 7, 8], [5, 6, 7, 8]), ([0, 9, 9], [0, 9]), ([10, 10, 0, 1, 2, 3, 4, 5, 6, 7, 8, 9, 10], [10]), ([11, 0, 1, 2, 3, 4, 5, 6, 7, 8, 9, 10, 11], [])])
def spec_TakeMatch.B3 : List Nat := [0, 0, 2, 0, 8, 30, 0, 0, 0, 510, 1023, 2047, 4095]
theorem spec_TakeMatch.tab3 : rtab .any (opsOf Tryd.f22 3) = spec_TakeMatch.T3 := by kernel_rfl
theorem spec_TakeMatch.bits3 : waitsOk spec_TakeMatch.T3.2 spec_TakeMatch.B3 = true := by kernel_rfl
set_option maxHeartbeats 8000000 in
set_option maxRecDepth 100000 in
theorem spec_TakeMatch.calls (k : Nat) (a0_0 : Int) (a0_1 : Int) (A0_2 : Option Addr) (c0_2 : Nat) (l0_2 : List Int) (A0_3 : Option Addr) (c0_3 : Nat) (l0_3 : List Int) (a1 : Bool) (a2 : Int) (a3 : Int) (r1 : Int) (r2 : Int) (r3 : List Int) (r4 : List Int) (r5 : Bool) (w : World) (hr0_2 : Kd.C (Kd.int .i64) w A0_2 l0_2.length l0_2) (hc0_2 : l0_2.length ≤ c0_2) (hr0_3 : Kd.C (Kd.int .i64) w A0_3 l0_3.length l0_3) (hc0_3 : l0_3.length ≤ c0_3) (h : spec_TakeMatch.f k a0_0 a0_1 l0_2 l0_3 a1 a2 a3 = some (r1, r2, r3, r4, r5)) :
    Calls Tryd.prog 22 #[.agg #[.int .i64 a0_0, .int .i64 a0_1, .slice A0_2 l0_2.length c0_2, .slice A0_3 l0_3.length c0_3], .bool a1, .int .i64 a2, .int .i64 a3] w fun e w' => ∃ v2_ v3_ : Value, e = .returned (.tuple #[.agg #[.int .i64 r1, .int .i64 r2, v2_, v3_], .bool r5]) ∧ Kd.R (Kd.int .i64) 3 w' w.heap.size (fun k_ => some k_ ≠ (v3_ : Value).ownBlock) v2_ r3 ∧ Kd.R (Kd.int .i64) 3 w' w.heap.size (fun k_ => some k_ ≠ (v2_ : Value).ownBlock) v3_ r4 ∧ Below w.heap.size w w' := by
  have hu26 := Tryd.underlying26
  have HR0_2 := Aside0.mk hr0_2
  have HC0_2 := Aside0.mk hc0_2
  clear hr0_2 hc0_2
  have HR0_3 := Aside0.mk hr0_3
  have HC0_3 := Aside0.mk hc0_3
  clear hr0_3 hc0_3
  have HB := Aside0.mk (Below.refl w.heap.size w)
  have H : ((spec_fiAsked.f k a0_0 a0_1 l0_2 l0_3 a1 a2 a3).bind fun t611 => (if t611 = true then ((spec_fiHas.f k a0_0 a0_1 l0_2 l0_3 a1 a2 a3).bind fun t612 => (spec_TakeMatch.j0 k a1 a2 a3 (!t612) a0_0 a0_1 l0_2 l0_3)) else (spec_TakeMatch.j0 k a1 a2 a3 true a0_0 a0_1 l0_2 l0_3))) = some (r1, r2, r3, r4, r5) := h
  clear h
  have HC5 := Aside0.mk H
  clear H
  go_enter Tryd.func22, Tryd.ntmps22
  go_upto_region 1 with (first | ((with_reducible refine gate_dst (N := 4) rfl ?_); refine box_event ?hg (N := 4) ?hd (cs := #[.int .i64 a0_0, .int .i64 a0_1, .slice A0_2 l0_2.length c0_2, .slice A0_3 l0_3.length c0_3]) (t := 26) ?hr ?_; (case hd => rfl); (case hg => rfl); (case hr => first | (go_simp; done) | (go_simp; rfl)); intro gb609 hg w6 hbox hb; have n0_ := Aside0.mk (below_step (by repeat (first | (with_reducible first | exact HB.out | apply below_alloc | apply pw_below_drewN | apply below_drew1) | exact HB.out)) hb); have n1_ := Aside0.mk (hbox); have n2_ := Aside0.mk ((by rw [hg]; exact (below_size (by repeat (first | (with_reducible first | exact HB.out | apply below_alloc | apply pw_below_drewN | apply below_drew1) | exact HB.out))) : w.heap.size ≤ gb609)); have n3_ := Aside0.mk ((by rw [hg]; exact (below_size (by repeat (first | (with_reducible first | exact HB.out | apply below_alloc | apply pw_below_drewN | apply below_drew1) | exact HB.out))) : w.heap.size ≤ gb609)); clear HB; have HB := n0_; have BK609 := n1_; have GW609 := n2_; have GE609 := n3_; clear n0_ n1_ n2_ n3_; clear hb hbox hg) | ((with_reducible refine gate_dst (N := 8) rfl ?_); refine box_event ?hg (N := 8) ?hd (cs := #[.int .i64 0, .int .i64 0, .slice none 0 0, .slice none 0 0]) (t := 26) ?hr ?_; (case hd => rfl); (case hg => rfl); (case hr => first | (go_simp; done) | (go_simp; rfl)); intro gb610 hg w7 hbox hb; have n0_ := Aside0.mk (blk_below (g := gb609) (o := .cells #[.int .i64 a0_0, .int .i64 a0_1, .slice A0_2 l0_2.length c0_2, .slice A0_3 l0_3.length c0_3] 26 (0, 0)) (by (with_reducible repeat (first | refine blk_drewN ?_ _ | refine blk_drew ?_ | refine blk_alloc ?_ _)); exact BK609.out) hb); have n1_ := Aside0.mk (below_step (by repeat (first | (with_reducible first | exact HB.out | apply below_alloc | apply pw_below_drewN | apply below_drew1 | refine below_set ?_ GE609.out) | exact HB.out)) hb); have n2_ := Aside0.mk (hbox); have n3_ := Aside0.mk ((by rw [hg]; exact (below_size (by repeat (first | (with_reducible first | exact HB.out | apply below_alloc | apply pw_below_drewN | apply below_drew1 | refine below_set ?_ GE609.out) | exact HB.out))) : w.heap.size ≤ gb610)); have n4_ := Aside0.mk ((by rw [hg]; exact (below_size (by repeat (first | (with_reducible first | exact HB.out | apply below_alloc | apply pw_below_drewN | apply below_drew1 | refine below_set ?_ GE609.out) | exact HB.out))) : w.heap.size ≤ gb610)); have n5_ := Aside0.mk ((by rw [hg]; exact Nat.ne_of_lt (blk_lt (g := gb609) (o := .cells #[.int .i64 a0_0, .int .i64 a0_1, .slice A0_2 l0_2.length c0_2, .slice A0_3 l0_3.length c0_3] 26 (0, 0)) (by (with_reducible repeat (first | refine blk_drewN ?_ _ | refine blk_drew ?_ | refine blk_alloc ?_ _)); exact BK609.out)) : gb609 ≠ gb610)); have n6_ := Aside0.mk ((by rw [hg]; exact Nat.ne_of_gt (blk_lt (g := gb609) (o := .cells #[.int .i64 a0_0, .int .i64 a0_1, .slice A0_2 l0_2.length c0_2, .slice A0_3 l0_3.length c0_3] 26 (0, 0)) (by (with_reducible repeat (first | refine blk_drewN ?_ _ | refine blk_drew ?_ | refine blk_alloc ?_ _)); exact BK609.out)) : gb610 ≠ gb609)); clear BK609; clear HB; have BK609 := n0_; have HB := n1_; have BK610 := n2_; have GW610 := n3_; have GE610 := n4_; have NB609_610 := n5_; have NB610_609 := n6_; clear n0_ n1_ n2_ n3_ n4_ n5_ n6_; clear hb hbox hg))
  (try simp only [Act.put, List.setIfInBounds_toArray, List.set_cons_zero, List.set_cons_succ])
  go_cut [23] (fun v23 wc => ∃ (kq : Nat) (x23_4 : Bool), v23 = .bool x23_4 ∧ Aside0 (spec_TakeMatch.j0 kq a1 a2 a3 x23_4 a0_0 a0_1 l0_2 l0_3 = some (r1, r2, r3, r4, r5)) ∧ Aside0 (kq ≤ k) ∧ Aside0 (wc.heap[gb609]? = some (.cells #[.int .i64 a0_0, .int .i64 a0_1, (.slice A0_2 l0_2.length c0_2), (.slice A0_3 l0_3.length c0_3)] 26 (0, 0))) ∧ Aside0 (wc.heap[gb610]? = some (.cells #[.int .i64 0, .int .i64 0, (.slice none 0 0), (.slice none 0 0)] 26 (0, 0))) ∧ Aside0 (Below w.heap.size w wc))
  case first =>
    have H := HC5.out
    clear HC5
    replace H := Option.bind_eq_some_iff.mp H
    obtain ⟨t611, A80, H⟩ := H
    replace H : (if t611 = true then ((spec_fiHas.f k a0_0 a0_1 l0_2 l0_3 a1 a2 a3).bind fun t612 => (spec_TakeMatch.j0 k a1 a2 a3 (!t612) a0_0 a0_1 l0_2 l0_3)) else (spec_TakeMatch.j0 k a1 a2 a3 true a0_0 a0_1 l0_2 l0_3)) = some (r1, r2, r3, r4, r5) := H
    have A8 := Aside0.mk A80
    clear A80
    by_cases c9 : t611 = true
    · subst c9
      have H1 : ((spec_fiHas.f k a0_0 a0_1 l0_2 l0_3 a1 a2 a3).bind fun t612 => (spec_TakeMatch.j0 k a1 a2 a3 (!t612) a0_0 a0_1 l0_2 l0_3)) = some (r1, r2, r3, r4, r5) := by rw [if_pos rfl] at H; exact H
      clear H
      have H := H1
      clear H1
      replace H := Option.bind_eq_some_iff.mp H
      obtain ⟨t612, A100, H⟩ := H
      replace H : (spec_TakeMatch.j0 k a1 a2 a3 (!t612) a0_0 a0_1 l0_2 l0_3) = some (r1, r2, r3, r4, r5) := H
      have A10 := Aside0.mk A100
      clear A100
      have H' := Aside0.mk H
      clear H
      have hnb11 := NB609_610.out
      have hnc11 := NB610_609.out
      have hcz12_0 : w7.cell? ⟨gb609, 0, none⟩ = some (.int .i64 a0_0) := (blk_cell BK609.out 0).trans rfl
      have hcz12_1 : w7.cell? ⟨gb609, 1, none⟩ = some (.int .i64 a0_1) := (blk_cell BK609.out 1).trans rfl
      have hcz12_2 : w7.cell? ⟨gb609, 2, none⟩ = some (.slice A0_2 l0_2.length c0_2) := (blk_cell BK609.out 2).trans rfl
      have hcz12_3 : w7.cell? ⟨gb609, 3, none⟩ = some (.slice A0_3 l0_3.length c0_3) := (blk_cell BK609.out 3).trans rfl
      have hfz12_0 := blk_frozen BK609.out 0
      have hfz12_1 := blk_frozen BK609.out 1
      have hfz12_2 := blk_frozen BK609.out 2
      have hfz12_3 := blk_frozen BK609.out 3
      go_wp2_with (first | ((with_reducible refine gate_callee (f := 51) rfl ?_); refine goesL_ (some 14) rfl rfl Tryd.func51 (by kernel_rfl) rfl #[.agg #[.int .i64 a0_0, .int .i64 a0_1, .slice A0_2 l0_2.length c0_2, .slice A0_3 l0_3.length c0_3], .bool a1, .int .i64 a2, .int .i64 a3] rfl (by (try simp only [List.map_toArray, List.map_cons, List.map_nil]); first | done | rfl | (simp only [List.length_drop, List.length_take]; rfl)) ?_; (with_reducible refine (spec_fiAsked.calls k a0_0 a0_1 _ _ l0_2 _ _ l0_3 a1 a2 a3 true _ ?side1 ?side2 ?side3 ?side4 A8.out).mono ?_); (case side1 => repeat (first | exact (Kd.C_below HR0_2.out HB.out) | (with_reducible refine Kd.C_alloc ?_ _) | (with_reducible refine Kd.C_drewN ?_ _) | (with_reducible refine Kd.C_drew ?_))); (case side2 => exact HC0_2.out); (case side3 => repeat (first | exact (Kd.C_below HR0_3.out HB.out) | (with_reducible refine Kd.C_alloc ?_ _) | (with_reducible refine Kd.C_drewN ?_ _) | (with_reducible refine Kd.C_drew ?_))); (case side4 => exact HC0_3.out); rintro e w13 ⟨rfl, hb⟩; refine ⟨_, rfl, ?_⟩; have n0_ := Aside0.mk (blk_below (g := gb609) (o := .cells #[.int .i64 a0_0, .int .i64 a0_1, .slice A0_2 l0_2.length c0_2, .slice A0_3 l0_3.length c0_3] 26 (0, 0)) (by (with_reducible repeat (first | refine blk_drewN ?_ _ | refine blk_drew ?_ | refine blk_alloc ?_ _)); exact BK609.out) hb); have n1_ := Aside0.mk (blk_below (g := gb610) (o := .cells #[.int .i64 0, .int .i64 0, .slice none 0 0, .slice none 0 0] 26 (0, 0)) (by (with_reducible repeat (first | refine blk_drewN ?_ _ | refine blk_drew ?_ | refine blk_alloc ?_ _)); exact BK610.out) hb); have n2_ := Aside0.mk (below_step (by repeat (first | (with_reducible first | exact HB.out | apply below_alloc | apply pw_below_drewN | apply below_drew1 | refine below_set ?_ GE609.out | refine below_set ?_ GE610.out) | exact HB.out)) hb); clear BK609; clear BK610; clear HB; have BK609 := n0_; have BK610 := n1_; have HB := n2_; clear n0_ n1_ n2_; (try clear hb); (try clear hb2); (try clear hk); (try clear hi); have hcz14_0 : w13.cell? ⟨gb609, 0, none⟩ = some (.int .i64 a0_0) := (blk_cell BK609.out 0).trans rfl; have hcz14_1 : w13.cell? ⟨gb609, 1, none⟩ = some (.int .i64 a0_1) := (blk_cell BK609.out 1).trans rfl; have hcz14_2 : w13.cell? ⟨gb609, 2, none⟩ = some (.slice A0_2 l0_2.length c0_2) := (blk_cell BK609.out 2).trans rfl; have hcz14_3 : w13.cell? ⟨gb609, 3, none⟩ = some (.slice A0_3 l0_3.length c0_3) := (blk_cell BK609.out 3).trans rfl; have hfz14_0 := blk_frozen BK609.out 0; have hfz14_1 := blk_frozen BK609.out 1; have hfz14_2 := blk_frozen BK609.out 2; have hfz14_3 := blk_frozen BK609.out 3) | (go_at_call 52; (with_reducible refine (spec_fiHas.calls k a0_0 a0_1 _ _ l0_2 _ _ l0_3 a1 a2 a3 t612 _ ?side1 ?side2 ?side3 ?side4 A10.out).mono ?_); (case side1 => repeat (first | exact (Kd.C_below HR0_2.out HB.out) | (with_reducible refine Kd.C_alloc ?_ _) | (with_reducible refine Kd.C_drewN ?_ _) | (with_reducible refine Kd.C_drew ?_))); (case side2 => exact HC0_2.out); (case side3 => repeat (first | exact (Kd.C_below HR0_3.out HB.out) | (with_reducible refine Kd.C_alloc ?_ _) | (with_reducible refine Kd.C_drewN ?_ _) | (with_reducible refine Kd.C_drew ?_))); (case side4 => exact HC0_3.out); rintro e w15 ⟨rfl, hb⟩; have n0_ := Aside0.mk (blk_below (g := gb609) (o := .cells #[.int .i64 a0_0, .int .i64 a0_1, .slice A0_2 l0_2.length c0_2, .slice A0_3 l0_3.length c0_3] 26 (0, 0)) (by (with_reducible repeat (first | refine blk_drewN ?_ _ | refine blk_drew ?_ | refine blk_alloc ?_ _)); exact BK609.out) hb); have n1_ := Aside0.mk (blk_below (g := gb610) (o := .cells #[.int .i64 0, .int .i64 0, .slice none 0 0, .slice none 0 0] 26 (0, 0)) (by (with_reducible repeat (first | refine blk_drewN ?_ _ | refine blk_drew ?_ | refine blk_alloc ?_ _)); exact BK610.out) hb); have n2_ := Aside0.mk (below_step (by repeat (first | (with_reducible first | exact HB.out | apply below_alloc | apply pw_below_drewN | apply below_drew1 | refine below_set ?_ GE609.out | refine below_set ?_ GE610.out) | exact HB.out)) hb); clear BK609; clear BK610; clear HB; have BK609 := n0_; have BK610 := n1_; have HB := n2_; clear n0_ n1_ n2_; (try clear hb); (try clear hb2); (try clear hk); (try clear hi)))
      go_meet
      case rel => exact ⟨_, (!t612), (by first | rfl | (simp; done) | (simp [*]; done)), H', ⟨by first | omega | exact Nat.le_refl _⟩, ⟨by (with_reducible repeat (first | refine blk_drewN ?_ _ | refine blk_drew ?_ | refine blk_alloc ?_ _)); exact BK609.out⟩, ⟨by (with_reducible repeat (first | refine blk_drewN ?_ _ | refine blk_drew ?_ | refine blk_alloc ?_ _)); exact BK610.out⟩, ⟨by repeat (first | (with_reducible first | exact HB.out | apply below_alloc | apply pw_below_drewN | apply below_drew1 | refine below_set ?_ GE609.out | refine below_set ?_ GE610.out) | exact HB.out)⟩⟩
    · replace c9 := Bool.eq_false_iff.mpr c9
      subst c9
      have H1 : (spec_TakeMatch.j0 k a1 a2 a3 true a0_0 a0_1 l0_2 l0_3) = some (r1, r2, r3, r4, r5) := by rw [if_neg (show ¬ (false = true) by decide)] at H; exact H
      clear H
      have H := H1
      clear H1
      have H' := Aside0.mk H
      clear H
      have hnb16 := NB609_610.out
      have hnc16 := NB610_609.out
      have hcz17_0 : w7.cell? ⟨gb609, 0, none⟩ = some (.int .i64 a0_0) := (blk_cell BK609.out 0).trans rfl
      have hcz17_1 : w7.cell? ⟨gb609, 1, none⟩ = some (.int .i64 a0_1) := (blk_cell BK609.out 1).trans rfl
      have hcz17_2 : w7.cell? ⟨gb609, 2, none⟩ = some (.slice A0_2 l0_2.length c0_2) := (blk_cell BK609.out 2).trans rfl
      have hcz17_3 : w7.cell? ⟨gb609, 3, none⟩ = some (.slice A0_3 l0_3.length c0_3) := (blk_cell BK609.out 3).trans rfl
      have hfz17_0 := blk_frozen BK609.out 0
      have hfz17_1 := blk_frozen BK609.out 1
      have hfz17_2 := blk_frozen BK609.out 2
      have hfz17_3 := blk_frozen BK609.out 3
      go_wp2_with (first | ((with_reducible refine gate_callee (f := 51) rfl ?_); refine goesL_ (some 14) rfl rfl Tryd.func51 (by kernel_rfl) rfl #[.agg #[.int .i64 a0_0, .int .i64 a0_1, .slice A0_2 l0_2.length c0_2, .slice A0_3 l0_3.length c0_3], .bool a1, .int .i64 a2, .int .i64 a3] rfl (by (try simp only [List.map_toArray, List.map_cons, List.map_nil]); first | done | rfl | (simp only [List.length_drop, List.length_take]; rfl)) ?_; (with_reducible refine (spec_fiAsked.calls k a0_0 a0_1 _ _ l0_2 _ _ l0_3 a1 a2 a3 false _ ?side1 ?side2 ?side3 ?side4 A8.out).mono ?_); (case side1 => repeat (first | exact (Kd.C_below HR0_2.out HB.out) | (with_reducible refine Kd.C_alloc ?_ _) | (with_reducible refine Kd.C_drewN ?_ _) | (with_reducible refine Kd.C_drew ?_))); (case side2 => exact HC0_2.out); (case side3 => repeat (first | exact (Kd.C_below HR0_3.out HB.out) | (with_reducible refine Kd.C_alloc ?_ _) | (with_reducible refine Kd.C_drewN ?_ _) | (with_reducible refine Kd.C_drew ?_))); (case side4 => exact HC0_3.out); rintro e w18 ⟨rfl, hb⟩; refine ⟨_, rfl, ?_⟩; have n0_ := Aside0.mk (blk_below (g := gb609) (o := .cells #[.int .i64 a0_0, .int .i64 a0_1, .slice A0_2 l0_2.length c0_2, .slice A0_3 l0_3.length c0_3] 26 (0, 0)) (by (with_reducible repeat (first | refine blk_drewN ?_ _ | refine blk_drew ?_ | refine blk_alloc ?_ _)); exact BK609.out) hb); have n1_ := Aside0.mk (blk_below (g := gb610) (o := .cells #[.int .i64 0, .int .i64 0, .slice none 0 0, .slice none 0 0] 26 (0, 0)) (by (with_reducible repeat (first | refine blk_drewN ?_ _ | refine blk_drew ?_ | refine blk_alloc ?_ _)); exact BK610.out) hb); have n2_ := Aside0.mk (below_step (by repeat (first | (with_reducible first | exact HB.out | apply below_alloc | apply pw_below_drewN | apply below_drew1 | refine below_set ?_ GE609.out | refine below_set ?_ GE610.out) | exact HB.out)) hb); clear BK609; clear BK610; clear HB; have BK609 := n0_; have BK610 := n1_; have HB := n2_; clear n0_ n1_ n2_; (try clear hb); (try clear hb2); (try clear hk); (try clear hi)))
      go_meet
      case rel => exact ⟨_, (true), (by first | rfl | (simp; done) | (simp [*]; done)), H', ⟨by first | omega | exact Nat.le_refl _⟩, ⟨by (with_reducible repeat (first | refine blk_drewN ?_ _ | refine blk_drew ?_ | refine blk_alloc ?_ _)); exact BK609.out⟩, ⟨by (with_reducible repeat (first | refine blk_drewN ?_ _ | refine blk_drew ?_ | refine blk_alloc ?_ _)); exact BK610.out⟩, ⟨by repeat (first | (with_reducible first | exact HB.out | apply below_alloc | apply pw_below_drewN | apply below_drew1 | refine below_set ?_ GE609.out | refine below_set ?_ GE610.out) | exact HB.out)⟩⟩
  case rest =>
    clear HC5
    try clear c1
    try clear c2
    try clear p2
    try clear c5
    try clear c9
    try clear c11
    try clear c16
    try clear hcz12_0
    try clear hcz12_1
    try clear hcz12_2
    try clear hcz12_3
    try clear hcz14_0
    try clear hcz14_1
    try clear hcz14_2
    try clear hcz14_3
    try clear hcz17_0
    try clear hcz17_1
    try clear hcz17_2
    try clear hcz17_3
    try clear hfz12_0
    try clear hfz12_1
    try clear hfz12_2
    try clear hfz12_3
    try clear hfz14_0
    try clear hfz14_1
    try clear hfz14_2
    try clear hfz14_3
    try clear hfz17_0
    try clear hfz17_1
    try clear hfz17_2
    try clear hfz17_3
    obtain ⟨kq, x23_4, rfl, HA, HJ4, BK609, BK610, HB⟩ := hcut
    cases kq with
    | zero => exact absurd HA.out (by simp [spec_TakeMatch.j0])
    | succ kj4 =>
      have H := HA.out
      clear HA
      simp only [spec_TakeMatch.j0] at H
      by_cases c19 : x23_4 = true
      · subst c19
        have H1 : (some (0, 0, ([] : List Int), ([] : List Int), false)) = some (r1, r2, r3, r4, r5) := by rw [if_pos rfl] at H; exact H
        clear H
        have H := H1
        clear H1
        simp only [Option.some.injEq, Prod.mk.injEq] at H
        obtain ⟨rfl, rfl, rfl, rfl, rfl⟩ := H
        have hnb20 := NB610_609.out
        have hnc20 := NB609_610.out
        have hcz21_0 : wc.cell? ⟨gb610, 0, none⟩ = some (.int .i64 0) := (blk_cell BK610.out 0).trans rfl
        have hcz21_1 : wc.cell? ⟨gb610, 1, none⟩ = some (.int .i64 0) := (blk_cell BK610.out 1).trans rfl
        have hcz21_2 : wc.cell? ⟨gb610, 2, none⟩ = some (.slice none 0 0) := (blk_cell BK610.out 2).trans rfl
        have hcz21_3 : wc.cell? ⟨gb610, 3, none⟩ = some (.slice none 0 0) := (blk_cell BK610.out 3).trans rfl
        have hfz21_0 := blk_frozen BK610.out 0
        have hfz21_1 := blk_frozen BK610.out 1
        have hfz21_2 := blk_frozen BK610.out 2
        have hfz21_3 := blk_frozen BK610.out 3
        go_wp2
        refine bodyPost_ret (results_ct rfl _ _ gb610 26 #[.int .i64 0, .int .i64 0, .slice none 0 0, .slice none 0 0] (0, 0) _ rfl (by (with_reducible repeat (first | refine blk_drewN ?_ _ | refine blk_drew ?_ | refine blk_alloc ?_ _)); refine blk_put (cs := #[.int .i64 0, .int .i64 0, .slice none 0 0, .slice none 0 0]) ?_ 3 _ rfl; (with_reducible repeat (first | refine blk_drewN ?_ _ | refine blk_drew ?_ | refine blk_alloc ?_ _)); refine blk_put (cs := #[.int .i64 0, .int .i64 0, .slice none 0 0, .slice none 0 0]) ?_ 2 _ rfl; (with_reducible repeat (first | refine blk_drewN ?_ _ | refine blk_drew ?_ | refine blk_alloc ?_ _)); refine blk_put (cs := #[.int .i64 0, .int .i64 0, .slice none 0 0, .slice none 0 0]) ?_ 1 _ rfl; (with_reducible repeat (first | refine blk_drewN ?_ _ | refine blk_drew ?_ | refine blk_alloc ?_ _)); refine blk_put (cs := #[.int .i64 0, .int .i64 0, .slice none 0 0, .slice none 0 0]) ?_ 0 _ rfl; (with_reducible repeat (first | refine blk_drewN ?_ _ | refine blk_drew ?_ | refine blk_alloc ?_ _)); exact BK610.out) Tryd.underlying26 rfl (by kernel_rfl)) rfl ?_
        exact ⟨_, _, by first | rfl | (simp [errW_none, errW_some] <;> rfl) | (simp [*, errW_none, errW_some] <;> rfl), by first | exact Kd.R_nil _ _ _ _ _ | exact Kd.N_nil _ _ _ _ _ | exact Kd.V_nil _ _ _ _ _ | exact Kd.Q_nil _ _ _ _ _ | exact Kd.S_nil _ _ _ _ _, by first | exact Kd.R_nil _ _ _ _ _ | exact Kd.N_nil _ _ _ _ _ | exact Kd.V_nil _ _ _ _ _ | exact Kd.Q_nil _ _ _ _ _ | exact Kd.S_nil _ _ _ _ _, by repeat (first | (with_reducible first | exact HB.out | apply below_alloc | apply pw_below_drewN | apply below_drew1 | refine below_set ?_ GE609.out | refine below_set ?_ GE610.out) | exact HB.out)⟩
      · replace c19 := Bool.eq_false_iff.mpr c19
        subst c19
        have H1 : ((spec_fiPut.f kj4 a0_0 a0_1 ([] : List Int) ([] : List Int) a1 a2 a3).bind fun bt613 => ((spec_fiLess.f kj4 a0_0 a0_1 l0_2 l0_3 bt613.1 bt613.2.1 bt613.2.2.1 bt613.2.2.2).bind fun bt621 => (some (bt621.1, bt621.2.1, bt621.2.2.1, bt621.2.2.2, true)))) = some (r1, r2, r3, r4, r5) := by rw [if_neg (show ¬ (false = true) by decide)] at H; exact H
        clear H
        have H := H1
        clear H1
        replace H := Option.bind_eq_some_iff.mp H
        obtain ⟨⟨t613, t614, t615, t618⟩, A220, H⟩ := H
        replace H : ((spec_fiLess.f kj4 a0_0 a0_1 l0_2 l0_3 t613 t614 t615 t618).bind fun bt621 => (some (bt621.1, bt621.2.1, bt621.2.2.1, bt621.2.2.2, true))) = some (r1, r2, r3, r4, r5) := H
        have A22 := Aside0.mk A220
        clear A220
        replace H := Option.bind_eq_some_iff.mp H
        obtain ⟨⟨t621, t622, t623, t626⟩, A230, H⟩ := H
        replace H : (some (t621, t622, t623, t626, true)) = some (r1, r2, r3, r4, r5) := H
        have A23 := Aside0.mk A230
        clear A230
        simp only [Option.some.injEq, Prod.mk.injEq] at H
        obtain ⟨rfl, rfl, rfl, rfl, rfl⟩ := H
        try go_wp2
        have n0_ := Aside0.mk (blk_drew BK609.out)
        have n1_ := Aside0.mk (blk_drew BK610.out)
        have n2_ := Aside0.mk (below_drew1 HB.out)
        clear BK609
        clear BK610
        clear HB
        have BK609 := n0_
        have BK610 := n1_
        have HB := n2_
        clear n0_ n1_ n2_
        refine start_ (n := 13) (S := fun w' => w'.cell? ⟨gb609, 0, none⟩ = some (.int .i64 a0_0) ∧ w'.cell? ⟨gb609, 1, none⟩ = some (.int .i64 a0_1) ∧ w'.cell? ⟨gb609, 2, none⟩ = some (.slice A0_2 l0_2.length c0_2) ∧ w'.cell? ⟨gb609, 3, none⟩ = some (.slice A0_3 l0_3.length c0_3)) (ds := []) #[false, false, false, false, false, false, false, false, false, false, false, false, false] (by kernel_rfl) rfl rfl ⟨(blk_cell BK609.out 0).trans rfl, (blk_cell BK609.out 1).trans rfl, (blk_cell BK609.out 2).trans rfl, (blk_cell BK609.out 3).trans rfl⟩ (fun hHeld => ?_); refine with_tabW spec_TakeMatch.tab3 spec_TakeMatch.bits3 (fun HT_ HW_ => ?_)
        generalize wc.drew = w24 at BK609 BK610 HB hHeld ⊢
        refine pure_ (i := 1) (N := some 26) (v := ?_) (a' := ?_) #[false, true, false, false, false, false, false, false, false, false, false, false, false] rfl rfl (any_of HT_.out (by kernel_rfl)) (fun _ _ _ h => h) (Or.inl ⟨by rfl, ?_⟩) ?_ ?_
        rotate_left
        · intro w'
          go_simp
          with_reducible rfl
        rotate_left
        · simp only [Act.put, List.setIfInBounds_toArray, List.set_cons_zero, List.set_cons_succ, i64_w, i32_w]
          rfl
        refine pure_ (i := 3) (N := some 28) (v := ?_) (a' := ?_) #[false, true, false, true, false, false, false, false, false, false, false, false, false] rfl rfl (any_of HT_.out (by kernel_rfl)) (fun _ _ _ h => h) (Or.inl ⟨by rfl, ?_⟩) ?_ ?_
        rotate_left
        · intro w'
          go_simp
          with_reducible rfl
        rotate_left
        · simp only [Act.put, List.setIfInBounds_toArray, List.set_cons_zero, List.set_cons_succ, i64_w, i32_w]
          rfl
        refine pure_ (i := 6) (N := some 31) (v := ?_) (a' := ?_) #[false, true, false, true, false, false, true, false, false, false, false, false, false] rfl rfl (any_of HT_.out (by kernel_rfl)) (fun _ _ _ h => h) (Or.inl ⟨by rfl, ?_⟩) ?_ ?_
        rotate_left
        · intro w'
          go_simp
          with_reducible rfl
        rotate_left
        · simp only [Act.put, List.setIfInBounds_toArray, List.set_cons_zero, List.set_cons_succ, i64_w, i32_w]
          rfl
        refine pure_ (i := 7) (N := some 32) (v := ?_) (a' := ?_) #[false, true, false, true, false, false, true, true, false, false, false, false, false] rfl rfl (any_of HT_.out (by kernel_rfl)) (fun _ _ _ h => h) (Or.inl ⟨by rfl, ?_⟩) ?_ ?_
        rotate_left
        · intro w'
          go_simp
          with_reducible rfl
        rotate_left
        · simp only [Act.put, List.setIfInBounds_toArray, List.set_cons_zero, List.set_cons_succ, i64_w, i32_w]
          rfl
        refine pure_ (i := 8) (N := some 33) (v := ?_) (a' := ?_) #[false, true, false, true, false, false, true, true, true, false, false, false, false] rfl rfl (any_of HT_.out (by kernel_rfl)) (fun _ _ _ h => h) (Or.inl ⟨by rfl, ?_⟩) ?_ ?_
        rotate_left
        · intro w'
          go_simp
          with_reducible rfl
        rotate_left
        · simp only [Act.put, List.setIfInBounds_toArray, List.set_cons_zero, List.set_cons_succ, i64_w, i32_w]
          rfl
        refine take_ (i := 0) (N := some 25) (v := ?_) (a' := ?_) #[true, true, false, true, false, false, true, true, true, false, false, false, false] rfl rfl (take_ofW HT_.out HW_.out (by kernel_rfl)) (fun _ _ _ h => h) (Or.inl ⟨by rfl, ?_⟩) hHeld ?_ ?_
        rotate_left
        · rintro w' ⟨s0, s1, s2, s3⟩
          go_simp
          with_reducible rfl
        rotate_left
        · simp only [Act.put, List.setIfInBounds_toArray, List.set_cons_zero, List.set_cons_succ, i64_w, i32_w]
          rfl
        refine take_ (i := 2) (N := some 27) (v := ?_) (a' := ?_) #[true, true, true, true, false, false, true, true, true, false, false, false, false] rfl rfl (take_ofW HT_.out HW_.out (by kernel_rfl)) (fun _ _ _ h => h) (Or.inl ⟨by rfl, ?_⟩) hHeld ?_ ?_
        rotate_left
        · rintro w' ⟨s0, s1, s2, s3⟩
          go_simp
          with_reducible rfl
        rotate_left
        · simp only [Act.put, List.setIfInBounds_toArray, List.set_cons_zero, List.set_cons_succ, i64_w, i32_w]
          rfl
        refine take_ (i := 4) (N := some 29) (v := ?_) (a' := ?_) #[true, true, true, true, true, false, true, true, true, false, false, false, false] rfl rfl (take_ofW HT_.out HW_.out (by kernel_rfl)) (fun _ _ _ h => h) (Or.inl ⟨by rfl, ?_⟩) hHeld ?_ ?_
        rotate_left
        · rintro w' ⟨s0, s1, s2, s3⟩
          go_simp
          with_reducible rfl
        rotate_left
        · simp only [Act.put, List.setIfInBounds_toArray, List.set_cons_zero, List.set_cons_succ, i64_w, i32_w]
          rfl
        refine pure_ (i := 5) (N := some 30) (v := ?_) (a' := ?_) #[true, true, true, true, true, true, true, true, true, false, false, false, false] rfl rfl (any_of HT_.out (by kernel_rfl)) (fun _ _ _ h => h) (Or.inl ⟨by rfl, ?_⟩) ?_ ?_
        rotate_left
        · intro w'
          go_simp
          with_reducible rfl
        rotate_left
        · simp only [Act.put, List.setIfInBounds_toArray, List.set_cons_zero, List.set_cons_succ, i64_w, i32_w]
          rfl
        refine one_ (i := 9) (N := some 34) #[true, true, true, true, true, true, true, true, true, true, false, false, false] rfl rfl (one_of HT_.out (by kernel_rfl)) (by decide) (fun K hK => ?_)
        refine goes_ Tryd.func47 (by kernel_rfl) rfl #[.agg #[.int .i64 a0_0, .int .i64 a0_1, .slice none 0 0, .slice none 0 0], .bool a1, .int .i64 a2, .int .i64 a3] (by rfl) rfl rfl (by (try simp only [List.map_toArray, List.map_cons, List.map_nil]); first | done | rfl | (simp only [List.length_drop, List.length_take]; rfl)) ?_
        refine (spec_fiPut.calls kj4 a0_0 a0_1 _ _ ([] : List Int) _ _ ([] : List Int) a1 a2 a3 t613 t614 t615 t618 _ ?side1 ?side2 ?side3 ?side4 A22.out).mono ?_
        (case side1 => exact Kd.C_nil _ _)
        (case side2 => exact Nat.le_refl _)
        (case side3 => exact Kd.C_nil _ _)
        (case side4 => exact Nat.le_refl _)
        rintro e w25 ⟨v616, v619, rfl, ho0, ho1, hb⟩
        refine ⟨_, rfl, ?_⟩
        have n0_ := Aside0.mk (Kd.R_lower ho0 (below_size (by repeat (first | (with_reducible first | exact HB.out | apply below_alloc | apply pw_below_drewN | apply below_drew1 | refine below_set ?_ GE609.out | refine below_set ?_ GE610.out) | exact HB.out))))
        have n1_ := Aside0.mk (Kd.R_lower ho1 (below_size (by repeat (first | (with_reducible first | exact HB.out | apply below_alloc | apply pw_below_drewN | apply below_drew1 | refine below_set ?_ GE609.out | refine below_set ?_ GE610.out) | exact HB.out))))
        have n2_ := Aside0.mk (blk_below (g := gb609) (o := .cells #[.int .i64 a0_0, .int .i64 a0_1, .slice A0_2 l0_2.length c0_2, .slice A0_3 l0_3.length c0_3] 26 (0, 0)) (by (with_reducible repeat (first | refine blk_drewN ?_ _ | refine blk_drew ?_ | refine blk_alloc ?_ _)); exact BK609.out) hb)
        have n3_ := Aside0.mk (blk_below (g := gb610) (o := .cells #[.int .i64 0, .int .i64 0, .slice none 0 0, .slice none 0 0] 26 (0, 0)) (by (with_reducible repeat (first | refine blk_drewN ?_ _ | refine blk_drew ?_ | refine blk_alloc ?_ _)); exact BK610.out) hb)
        have n4_ := Aside0.mk (below_step (by repeat (first | (with_reducible first | exact HB.out | apply below_alloc | apply pw_below_drewN | apply below_drew1 | refine below_set ?_ GE609.out | refine below_set ?_ GE610.out) | exact HB.out)) hb)
        clear BK609
        clear BK610
        clear HB
        have HO617 := n0_
        have HO620 := n1_
        have BK609 := n2_
        have BK610 := n3_
        have HB := n4_
        clear n0_ n1_ n2_ n3_ n4_
        (try clear hb)
        (try clear hb2)
        (try clear hk)
        (try clear hi)
        (try clear ho0)
        (try clear ho1)
        obtain ⟨Ao26, co26, eo26⟩ := Kd.R_slice HO617.out
        (first | subst eo26 | (injection eo26 with f1_ f2_ f3_; have f4_ := f1_.symm; have f5_ := f3_.symm; clear f1_ f2_ f3_; subst f4_; subst f5_))
        obtain ⟨Ao27, co27, eo27⟩ := Kd.R_slice HO620.out
        (first | subst eo27 | (injection eo27 with f1_ f2_ f3_; have f4_ := f1_.symm; have f5_ := f3_.symm; clear f1_ f2_ f3_; subst f4_; subst f5_))
        refine hK.out _ _ ⟨(blk_cell BK609.out 0).trans rfl, (blk_cell BK609.out 1).trans rfl, (blk_cell BK609.out 2).trans rfl, (blk_cell BK609.out 3).trans rfl⟩ (fun hHeld => ?_)
        clear hK K
        refine norm_ (a' := ?_) ?_ ?_
        rotate_left
        · show Act.put _ (some 34) _ = _
          simp only [Act.put, List.setIfInBounds_toArray, List.set_cons_zero, List.set_cons_succ, i64_w, i32_w]
          rfl
        refine one_ (i := 10) (N := some 35) #[true, true, true, true, true, true, true, true, true, true, true, false, false] rfl rfl (one_of HT_.out (by kernel_rfl)) (by decide) (fun K hK => ?_)
        refine goes_ Tryd.func36 (by kernel_rfl) rfl #[.agg #[.int .i64 a0_0, .int .i64 a0_1, .slice A0_2 l0_2.length c0_2, .slice A0_3 l0_3.length c0_3], .agg #[.int .i64 t613, .int .i64 t614, .slice Ao26 t615.length co26, .slice Ao27 t618.length co27]] (by rfl) rfl rfl (by (try simp only [List.map_toArray, List.map_cons, List.map_nil]); first | done | rfl | (simp only [List.length_drop, List.length_take]; rfl)) ?_
        with_reducible refine (spec_fiLess.calls kj4 a0_0 a0_1 _ _ l0_2 _ _ l0_3 t613 t614 _ _ t615 _ _ t618 t621 t622 t623 t626 _ ?side1 ?side2 ?side3 ?side4 ?side5 ?side6 ?side7 ?side8 A23.out).mono ?_
        (case side1 => repeat (first | exact (Kd.C_below HR0_2.out HB.out) | (with_reducible refine Kd.C_alloc ?_ _) | (with_reducible refine Kd.C_drewN ?_ _) | (with_reducible refine Kd.C_drew ?_)))
        (case side2 => exact HC0_2.out)
        (case side3 => repeat (first | exact (Kd.C_below HR0_3.out HB.out) | (with_reducible refine Kd.C_alloc ?_ _) | (with_reducible refine Kd.C_drewN ?_ _) | (with_reducible refine Kd.C_drew ?_)))
        (case side4 => exact HC0_3.out)
        (case side5 => repeat (first | exact (Kd.R_reads' HO617.out).2.2 | (with_reducible refine Kd.C_alloc ?_ _) | (with_reducible refine Kd.C_drewN ?_ _) | (with_reducible refine Kd.C_drew ?_)))
        (case side6 => exact (Kd.R_reads' HO617.out).2.1)
        (case side7 => repeat (first | exact (Kd.R_reads' HO620.out).2.2 | (with_reducible refine Kd.C_alloc ?_ _) | (with_reducible refine Kd.C_drewN ?_ _) | (with_reducible refine Kd.C_drew ?_)))
        (case side8 => exact (Kd.R_reads' HO620.out).2.1)
        rintro e w28 ⟨v624, v627, rfl, ho0, ho1, hb⟩
        refine ⟨_, rfl, ?_⟩
        have n0_ := Aside0.mk (Kd.R_mono (Kd.R_told (Kd.R_told (Kd.R_old (by (with_reducible repeat (first | apply Kd.R_alloc | apply Kd.R_drewN | apply Kd.R_drew)); exact HO617.out) hb) (Kd.R_base ho0)) (Kd.R_base ho1)) (fun _ h_ => h_.1))
        have n1_ := Aside0.mk (Kd.R_mono (Kd.R_told (Kd.R_told (Kd.R_old (by (with_reducible repeat (first | apply Kd.R_alloc | apply Kd.R_drewN | apply Kd.R_drew)); exact HO620.out) hb) (Kd.R_base ho0)) (Kd.R_base ho1)) (fun _ h_ => h_.1))
        have n2_ := Aside0.mk (Kd.R_lower (Kd.R_new' (Kd.R_new' ho0 (Kd.R_lt (by (with_reducible repeat (first | apply Kd.R_alloc | apply Kd.R_drewN | apply Kd.R_drew)); exact HO617.out))) (Kd.R_lt (by (with_reducible repeat (first | apply Kd.R_alloc | apply Kd.R_drewN | apply Kd.R_drew)); exact HO620.out))) (below_size (by repeat (first | (with_reducible first | exact HB.out | apply below_alloc | apply pw_below_drewN | apply below_drew1 | refine below_set ?_ GE609.out | refine below_set ?_ GE610.out) | exact HB.out))))
        have n3_ := Aside0.mk (Kd.R_lower (Kd.R_new' (Kd.R_new' ho1 (Kd.R_lt (by (with_reducible repeat (first | apply Kd.R_alloc | apply Kd.R_drewN | apply Kd.R_drew)); exact HO617.out))) (Kd.R_lt (by (with_reducible repeat (first | apply Kd.R_alloc | apply Kd.R_drewN | apply Kd.R_drew)); exact HO620.out))) (below_size (by repeat (first | (with_reducible first | exact HB.out | apply below_alloc | apply pw_below_drewN | apply below_drew1 | refine below_set ?_ GE609.out | refine below_set ?_ GE610.out) | exact HB.out))))
        have n4_ := Aside0.mk (blk_below (g := gb609) (o := .cells #[.int .i64 a0_0, .int .i64 a0_1, .slice A0_2 l0_2.length c0_2, .slice A0_3 l0_3.length c0_3] 26 (0, 0)) (by (with_reducible repeat (first | refine blk_drewN ?_ _ | refine blk_drew ?_ | refine blk_alloc ?_ _)); exact BK609.out) hb)
        have n5_ := Aside0.mk (blk_below (g := gb610) (o := .cells #[.int .i64 0, .int .i64 0, .slice none 0 0, .slice none 0 0] 26 (0, 0)) (by (with_reducible repeat (first | refine blk_drewN ?_ _ | refine blk_drew ?_ | refine blk_alloc ?_ _)); exact BK610.out) hb)
        have n6_ := Aside0.mk (below_step (by repeat (first | (with_reducible first | exact HB.out | apply below_alloc | apply pw_below_drewN | apply below_drew1 | refine below_set ?_ GE609.out | refine below_set ?_ GE610.out) | exact HB.out)) hb)
        clear HO617
        clear HO620
        clear BK609
        clear BK610
        clear HB
        have HO617 := n0_
        have HO620 := n1_
        have HO625 := n2_
        have HO628 := n3_
        have BK609 := n4_
        have BK610 := n5_
        have HB := n6_
        clear n0_ n1_ n2_ n3_ n4_ n5_ n6_
        (try clear hb)
        (try clear hb2)
        (try clear hk)
        (try clear hi)
        (try clear ho0)
        (try clear ho1)
        obtain ⟨Ao31, co31, eo31⟩ := Kd.R_slice HO625.out
        (first | subst eo31 | (injection eo31 with f1_ f2_ f3_; have f4_ := f1_.symm; have f5_ := f3_.symm; clear f1_ f2_ f3_; subst f4_; subst f5_))
        obtain ⟨Ao33, co33, eo33⟩ := Kd.R_slice HO628.out
        (first | subst eo33 | (injection eo33 with f1_ f2_ f3_; have f4_ := f1_.symm; have f5_ := f3_.symm; clear f1_ f2_ f3_; subst f4_; subst f5_))
        refine hK.out _ _ ⟨(blk_cell BK609.out 0).trans rfl, (blk_cell BK609.out 1).trans rfl, (blk_cell BK609.out 2).trans rfl, (blk_cell BK609.out 3).trans rfl⟩ (fun hHeld => ?_)
        clear hK K
        refine norm_ (a' := ?_) ?_ ?_
        rotate_left
        · show Act.put _ (some 35) _ = _
          simp only [Act.put, List.setIfInBounds_toArray, List.set_cons_zero, List.set_cons_succ, i64_w, i32_w]
          rfl
        refine one_ (i := 11) (N := none) #[true, true, true, true, true, true, true, true, true, true, true, true, false] rfl rfl (one_of HT_.out (by kernel_rfl)) (by decide) (fun K hK => ?_)
        have hs29 : w28.cell? ⟨gb610, 0, none⟩ = some (.int .i64 0) := (blk_cell BK610.out 0).trans rfl
        have hfs29 := blk_frozen BK610.out 0
        have hns29_0 := NB609_610.out
        have hms29_0 := NB610_609.out
        have hs30 : w28.cell? ⟨gb610, 1, none⟩ = some (.int .i64 0) := (blk_cell BK610.out 1).trans rfl
        have hfs30 := blk_frozen BK610.out 1
        have hns30_0 := NB609_610.out
        have hms30_0 := NB610_609.out
        have hs32 : w28.cell? ⟨gb610, 2, none⟩ = some (.slice none 0 0) := (blk_cell BK610.out 2).trans rfl
        have hfs32 := blk_frozen BK610.out 2
        have hns32_0 := NB609_610.out
        have hms32_0 := NB610_609.out
        have hs34 : w28.cell? ⟨gb610, 3, none⟩ = some (.slice none 0 0) := (blk_cell BK610.out 3).trans rfl
        have hfs34 := blk_frozen BK610.out 3
        have hns34_0 := NB609_610.out
        have hms34_0 := NB610_609.out
        refine skip_ (w1 := ?_) (by rfl) rfl ?_ ?_
        rotate_left
        · go_simp
          rfl
        refine hK.out _ _ ⟨((cell_far (p := ⟨gb610, _, none⟩) NB609_610.out _).trans (((cell_far (p := ⟨gb610, _, none⟩) NB609_610.out _).trans (((cell_far (p := ⟨gb610, _, none⟩) NB609_610.out _).trans (((cell_far (p := ⟨gb610, _, none⟩) NB609_610.out _).trans (hHeld.1)))))))), ((cell_far (p := ⟨gb610, _, none⟩) NB609_610.out _).trans (((cell_far (p := ⟨gb610, _, none⟩) NB609_610.out _).trans (((cell_far (p := ⟨gb610, _, none⟩) NB609_610.out _).trans (((cell_far (p := ⟨gb610, _, none⟩) NB609_610.out _).trans (hHeld.2.1)))))))), ((cell_far (p := ⟨gb610, _, none⟩) NB609_610.out _).trans (((cell_far (p := ⟨gb610, _, none⟩) NB609_610.out _).trans (((cell_far (p := ⟨gb610, _, none⟩) NB609_610.out _).trans (((cell_far (p := ⟨gb610, _, none⟩) NB609_610.out _).trans (hHeld.2.2.1)))))))), ((cell_far (p := ⟨gb610, _, none⟩) NB609_610.out _).trans (((cell_far (p := ⟨gb610, _, none⟩) NB609_610.out _).trans (((cell_far (p := ⟨gb610, _, none⟩) NB609_610.out _).trans (((cell_far (p := ⟨gb610, _, none⟩) NB609_610.out _).trans (hHeld.2.2.2))))))))⟩ (fun hHeld => ?_)
        clear hK K
        refine pure_ (i := 12) (N := some 9) (v := ?_) (a' := ?_) #[true, true, true, true, true, true, true, true, true, true, true, true, true] rfl rfl (any_of HT_.out (by kernel_rfl)) (fun _ _ _ h => h) (Or.inl ⟨by rfl, ?_⟩) ?_ ?_
        rotate_left
        · intro w'
          go_simp
          with_reducible rfl
        rotate_left
        · simp only [Act.put, List.setIfInBounds_toArray, List.set_cons_zero, List.set_cons_succ, i64_w, i32_w]
          rfl
        refine done_ (done_of HT_.out (by kernel_rfl)) ?_
        try go_wp2
        refine bodyPost_ret (results_ct rfl _ _ gb610 26 #[.int .i64 t621, .int .i64 t622, .slice Ao31 t623.length co31, .slice Ao33 t626.length co33] (0, 0) _ rfl (by (with_reducible repeat (first | refine blk_drewN ?_ _ | refine blk_drew ?_ | refine blk_alloc ?_ _)); refine blk_put (cs := #[.int .i64 t621, .int .i64 t622, .slice Ao31 t623.length co31, .slice none 0 0]) ?_ 3 _ rfl; (with_reducible repeat (first | refine blk_drewN ?_ _ | refine blk_drew ?_ | refine blk_alloc ?_ _)); refine blk_put (cs := #[.int .i64 t621, .int .i64 t622, .slice none 0 0, .slice none 0 0]) ?_ 2 _ rfl; (with_reducible repeat (first | refine blk_drewN ?_ _ | refine blk_drew ?_ | refine blk_alloc ?_ _)); refine blk_put (cs := #[.int .i64 t621, .int .i64 0, .slice none 0 0, .slice none 0 0]) ?_ 1 _ rfl; (with_reducible repeat (first | refine blk_drewN ?_ _ | refine blk_drew ?_ | refine blk_alloc ?_ _)); refine blk_put (cs := #[.int .i64 0, .int .i64 0, .slice none 0 0, .slice none 0 0]) ?_ 0 _ rfl; (with_reducible repeat (first | refine blk_drewN ?_ _ | refine blk_drew ?_ | refine blk_alloc ?_ _)); exact BK610.out) Tryd.underlying26 rfl (by kernel_rfl)) rfl ?_
        exact ⟨_, _, by first | rfl | (simp [errW_none, errW_some] <;> rfl) | (simp [*, errW_none, errW_some] <;> rfl), by (with_reducible repeat (first | apply Kd.R_alloc | apply Kd.R_drewN | apply Kd.R_drew)); exact Kd.R_mono (Kd.R_far (p := ⟨gb610, 3, none⟩) (Kd.R_far (p := ⟨gb610, 2, none⟩) (Kd.R_far (p := ⟨gb610, 1, none⟩) (Kd.R_far (p := ⟨gb610, 0, none⟩) (Kd.R_types HO625.out BK610.out (by decide)) (fun _ hk => hk.2) (.int .i64 t621)) (fun _ hk => hk.2) (.int .i64 t622)) (fun _ hk => hk.2) (.slice Ao31 t623.length co31)) (fun _ hk => hk.2) (.slice Ao33 t626.length co33)) (fun _ hk => hk.1.1.1), by (with_reducible repeat (first | apply Kd.R_alloc | apply Kd.R_drewN | apply Kd.R_drew)); exact Kd.R_mono (Kd.R_far (p := ⟨gb610, 3, none⟩) (Kd.R_far (p := ⟨gb610, 2, none⟩) (Kd.R_far (p := ⟨gb610, 1, none⟩) (Kd.R_far (p := ⟨gb610, 0, none⟩) (Kd.R_types HO628.out BK610.out (by decide)) (fun _ hk => hk.2) (.int .i64 t621)) (fun _ hk => hk.2) (.int .i64 t622)) (fun _ hk => hk.2) (.slice Ao31 t623.length co31)) (fun _ hk => hk.2) (.slice Ao33 t626.length co33)) (fun _ hk => hk.1.1.1), by repeat (first | (with_reducible first | exact HB.out | apply below_alloc | apply pw_below_drewN | apply below_drew1 | refine below_set ?_ GE609.out | refine below_set ?_ GE610.out) | exact HB.out)⟩

end Go.Proofs.YtjnajeplfgdklaaDoor.P


namespace Go.Proofs.YtjnajeplfgdklaaDoor.P
open Go.RowKit Go.Proofs.YtjnajeplfgdklaaDoorW.PrintWords Go.Proofs.YtjnajeplfgdklaaDoorW.PrintLast Go.Proofs.YtjnajeplfgdklaaDoorW.PrintMore
attribute [local go_sem] max2_int min2_int max_two min_two max_three min_three max_four min_four   -- for this text's walks alone
set_option linter.unusedVariables false
set_option linter.unusedSimpArgs false

def impl_TakeMatch.j0 : Nat → Int → Bool → Int → Int → List Int → List Int → Option (Int × Int × List Int × List Int × Bool)
  | 0, _, _, _, _, _, _ => none
  | k + 1, x10, x28, x630000, x630001, x630002, x630003 => if x28 = true then (some (0, 0, ([] : List Int), ([] : List Int), false)) else ((impl_Figure_grid.f x630000 x630001 x630002 x630003).bind fun bt634 => ((impl_Figure_set.f k x630000 x630001 x630002 x630003).bind fun t636 => ((impl_grid_figure.f bt634.1 bt634.2 (Go.bits .andNot .u64 t636 x10)).bind fun bt637 => (some (bt637.1, bt637.2.1, bt637.2.2.1, bt637.2.2.2, true)))))
def impl_TakeMatch.f (k : Nat) (a0_0 : Int) (a0_1 : Int) (l0_2 : List Int) (l0_3 : List Int) (a1 : Bool) (a2 : Int) (a3 : Int) : Option (Int × Int × List Int × List Int × Bool) := (impl_edge.f k a0_0 a0_1 l0_2 l0_3 a1 a2 a3).bind fun bt631 => (if bt631.2 = true then ((impl_Figure_set.f k a0_0 a0_1 l0_2 l0_3).bind fun t633 => (impl_TakeMatch.j0 k bt631.1 ((Go.bits .and .u64 t633 bt631.1) == 0) a0_0 a0_1 l0_2 l0_3)) else (impl_TakeMatch.j0 k bt631.1 true a0_0 a0_1 l0_2 l0_3))
theorem impl_TakeMatch.mono_l : ∀ k, (∀ y0 y1 y2 y3 y4 y5, LeO (impl_TakeMatch.j0 k y0 y1 y2 y3 y4 y5) (impl_TakeMatch.j0 (k + 1) y0 y1 y2 y3 y4 y5))
  | 0 => fun _ _ _ _ _ _ r h => by simp [impl_TakeMatch.j0] at h
  | k + 1 => by
    have ih0 := impl_TakeMatch.mono_l k
    · intro y0 y1 y2 y3 y4 y5
      unfold impl_TakeMatch.j0
      repeat' first
      | (with_reducible exact ih0 _ _ _ _ _ _)
      | (with_reducible exact impl_Figure_set.mono _ _ _ _ _)
      | (with_reducible exact impl_edge.mono _ _ _ _ _ _ _ _)
      | (with_reducible exact LeO.refl _)
      | (with_reducible exact LeO.none _)
      | (with_reducible refine LeO.ite ?_ ?_)
      | (with_reducible refine LeO.bind ?_ (fun _ => ?_))
      | exact ih0 _ _ _ _ _ _
      | exact impl_Figure_set.mono _ _ _ _ _
      | exact impl_edge.mono _ _ _ _ _ _ _ _
      | exact LeO.none _
      | refine LeO.ite ?_ ?_
      | refine LeO.bind ?_ (fun _ => ?_)
theorem impl_TakeMatch.mono : ∀ a0 a1 a2 a3 a4 a5 a6 k, LeO (impl_TakeMatch.f k a0 a1 a2 a3 a4 a5 a6) (impl_TakeMatch.f (k + 1) a0 a1 a2 a3 a4 a5 a6) := by
  intro a0 a1 a2 a3 a4 a5 a6 k
  have ih0 := impl_TakeMatch.mono_l k
  unfold impl_TakeMatch.f
  repeat' first
      | (with_reducible exact ih0 _ _ _ _ _ _)
      | (with_reducible exact impl_Figure_set.mono _ _ _ _ _)
      | (with_reducible exact impl_edge.mono _ _ _ _ _ _ _ _)
      | (with_reducible exact LeO.refl _)
      | (with_reducible exact LeO.none _)
      | (with_reducible refine LeO.ite ?_ ?_)
      | (with_reducible refine LeO.bind ?_ (fun _ => ?_))
      | exact ih0 _ _ _ _ _ _
      | exact impl_Figure_set.mono _ _ _ _ _
      | exact impl_edge.mono _ _ _ _ _ _ _ _
      | exact LeO.none _
      | refine LeO.ite ?_ ?_
      | refine LeO.bind ?_ (fun _ => ?_)
def impl_TakeMatch.T4 : Bool × List (List Nat × List Nat) := (true, [([], []), ([0], [0]), ([], []), ([2, 1], [2]), ([], []), ([3, 4], [3, 4]), ([1, 5, 3], [1, 5]), ([6, 6, 0, 1, 2, 3, 4, 5, 6], [6]), ([7, 0, 1, 2, 3, 4, 5, 6, 7], [])])
def impl_TakeMatch.B4 : List Nat := [0, 1, 0, 7, 0, 31, 63, 127, 255]
theorem impl_TakeMatch.tab4 : rtab .any (opsOf Tryd.f23 4) = impl_TakeMatch.T4 := by kernel_rfl
theorem impl_TakeMatch.bits4 : waitsOk impl_TakeMatch.T4.2 impl_TakeMatch.B4 = true := by kernel_rfl
set_option maxHeartbeats 8000000 in
set_option maxRecDepth 100000 in
theorem impl_TakeMatch.calls (k : Nat) (a0_0 : Int) (a0_1 : Int) (A0_2 : Option Addr) (c0_2 : Nat) (l0_2 : List Int) (A0_3 : Option Addr) (c0_3 : Nat) (l0_3 : List Int) (a1 : Bool) (a2 : Int) (a3 : Int) (r1 : Int) (r2 : Int) (r3 : List Int) (r4 : List Int) (r5 : Bool) (w : World) (hr0_2 : Kd.C (Kd.int .i64) w A0_2 l0_2.length l0_2) (hc0_2 : l0_2.length ≤ c0_2) (hr0_3 : Kd.C (Kd.int .i64) w A0_3 l0_3.length l0_3) (hc0_3 : l0_3.length ≤ c0_3) (hT_ : TB w) (h : impl_TakeMatch.f k a0_0 a0_1 l0_2 l0_3 a1 a2 a3 = some (r1, r2, r3, r4, r5)) :
    Calls Tryd.prog 23 #[.agg #[.int .i64 a0_0, .int .i64 a0_1, .slice A0_2 l0_2.length c0_2, .slice A0_3 l0_3.length c0_3], .bool a1, .int .i64 a2, .int .i64 a3] w fun e w' => ∃ v2_ v3_ : Value, e = .returned (.tuple #[.agg #[.int .i64 r1, .int .i64 r2, v2_, v3_], .bool r5]) ∧ Kd.R (Kd.int .i64) 3 w' w.heap.size (fun k_ => some k_ ≠ (v3_ : Value).ownBlock) v2_ r3 ∧ Kd.R (Kd.int .i64) 3 w' w.heap.size (fun k_ => some k_ ≠ (v2_ : Value).ownBlock) v3_ r4 ∧ Below w.heap.size w w' := by
  have hu26 := Tryd.underlying26
  have HR0_2 := Aside0.mk hr0_2
  have HC0_2 := Aside0.mk hc0_2
  clear hr0_2 hc0_2
  have HR0_3 := Aside0.mk hr0_3
  have HC0_3 := Aside0.mk hc0_3
  clear hr0_3 hc0_3
  have HB := Aside0.mk (Below.refl w.heap.size w)
  have HTB := Aside0.mk hT_
  clear hT_
  have H : ((impl_edge.f k a0_0 a0_1 l0_2 l0_3 a1 a2 a3).bind fun bt631 => (if bt631.2 = true then ((impl_Figure_set.f k a0_0 a0_1 l0_2 l0_3).bind fun t633 => (impl_TakeMatch.j0 k bt631.1 ((Go.bits .and .u64 t633 bt631.1) == 0) a0_0 a0_1 l0_2 l0_3)) else (impl_TakeMatch.j0 k bt631.1 true a0_0 a0_1 l0_2 l0_3))) = some (r1, r2, r3, r4, r5) := h
  clear h
  replace H := Option.bind_eq_some_iff.mp H
  obtain ⟨⟨t631, t632⟩, A50, H⟩ := H
  replace H : (if t632 = true then ((impl_Figure_set.f k a0_0 a0_1 l0_2 l0_3).bind fun t633 => (impl_TakeMatch.j0 k t631 ((Go.bits .and .u64 t633 t631) == 0) a0_0 a0_1 l0_2 l0_3)) else (impl_TakeMatch.j0 k t631 true a0_0 a0_1 l0_2 l0_3)) = some (r1, r2, r3, r4, r5) := H
  have A5 := Aside0.mk A50
  clear A50
  have HC6 := Aside0.mk H
  clear H
  go_enter Tryd.func23, Tryd.ntmps23
  go_upto_region 2 with (first | ((with_reducible refine gate_dst (N := 4) rfl ?_); refine box_event ?hg (N := 4) ?hd (cs := #[.int .i64 a0_0, .int .i64 a0_1, .slice A0_2 l0_2.length c0_2, .slice A0_3 l0_3.length c0_3]) (t := 26) ?hr ?_; (case hd => rfl); (case hg => rfl); (case hr => first | (go_simp; done) | (go_simp; rfl)); intro gb629 hg w7 hbox hb; have n0_ := Aside0.mk (below_step (by repeat (first | (with_reducible first | exact HB.out | apply below_alloc | apply pw_below_drewN | apply below_drew1) | exact HB.out)) hb); have n1_ := Aside0.mk (hbox); have n2_ := Aside0.mk ((by rw [hg]; exact (below_size (by repeat (first | (with_reducible first | exact HB.out | apply below_alloc | apply pw_below_drewN | apply below_drew1) | exact HB.out))) : w.heap.size ≤ gb629)); have n3_ := Aside0.mk ((by rw [hg]; exact (below_size (by repeat (first | (with_reducible first | exact HB.out | apply below_alloc | apply pw_below_drewN | apply below_drew1) | exact HB.out))) : w.heap.size ≤ gb629)); clear HB; have HB := n0_; have BK629 := n1_; have GW629 := n2_; have GE629 := n3_; clear n0_ n1_ n2_ n3_; clear hb hbox hg) | ((with_reducible refine gate_dst (N := 8) rfl ?_); refine box_event ?hg (N := 8) ?hd (cs := #[.int .i64 0, .int .i64 0, .slice none 0 0, .slice none 0 0]) (t := 26) ?hr ?_; (case hd => rfl); (case hg => rfl); (case hr => first | (go_simp; done) | (go_simp; rfl)); intro gb630 hg w8 hbox hb; have n0_ := Aside0.mk (blk_below (g := gb629) (o := .cells #[.int .i64 a0_0, .int .i64 a0_1, .slice A0_2 l0_2.length c0_2, .slice A0_3 l0_3.length c0_3] 26 (0, 0)) (by (with_reducible repeat (first | refine blk_drewN ?_ _ | refine blk_drew ?_ | refine blk_alloc ?_ _)); exact BK629.out) hb); have n1_ := Aside0.mk (below_step (by repeat (first | (with_reducible first | exact HB.out | apply below_alloc | apply pw_below_drewN | apply below_drew1 | refine below_set ?_ GE629.out) | exact HB.out)) hb); have n2_ := Aside0.mk (hbox); have n3_ := Aside0.mk ((by rw [hg]; exact (below_size (by repeat (first | (with_reducible first | exact HB.out | apply below_alloc | apply pw_below_drewN | apply below_drew1 | refine below_set ?_ GE629.out) | exact HB.out))) : w.heap.size ≤ gb630)); have n4_ := Aside0.mk ((by rw [hg]; exact (below_size (by repeat (first | (with_reducible first | exact HB.out | apply below_alloc | apply pw_below_drewN | apply below_drew1 | refine below_set ?_ GE629.out) | exact HB.out))) : w.heap.size ≤ gb630)); have n5_ := Aside0.mk ((by rw [hg]; exact Nat.ne_of_lt (blk_lt (g := gb629) (o := .cells #[.int .i64 a0_0, .int .i64 a0_1, .slice A0_2 l0_2.length c0_2, .slice A0_3 l0_3.length c0_3] 26 (0, 0)) (by (with_reducible repeat (first | refine blk_drewN ?_ _ | refine blk_drew ?_ | refine blk_alloc ?_ _)); exact BK629.out)) : gb629 ≠ gb630)); have n6_ := Aside0.mk ((by rw [hg]; exact Nat.ne_of_gt (blk_lt (g := gb629) (o := .cells #[.int .i64 a0_0, .int .i64 a0_1, .slice A0_2 l0_2.length c0_2, .slice A0_3 l0_3.length c0_3] 26 (0, 0)) (by (with_reducible repeat (first | refine blk_drewN ?_ _ | refine blk_drew ?_ | refine blk_alloc ?_ _)); exact BK629.out)) : gb630 ≠ gb629)); clear BK629; clear HB; have BK629 := n0_; have HB := n1_; have BK630 := n2_; have GW630 := n3_; have GE630 := n4_; have NB629_630 := n5_; have NB630_629 := n6_; clear n0_ n1_ n2_ n3_ n4_ n5_ n6_; clear hb hbox hg; have hnb9 := NB629_630.out; have hnc9 := NB630_629.out; have hcz10_0 : w8.cell? ⟨gb629, 0, none⟩ = some (.int .i64 a0_0) := (blk_cell BK629.out 0).trans rfl; have hcz10_1 : w8.cell? ⟨gb629, 1, none⟩ = some (.int .i64 a0_1) := (blk_cell BK629.out 1).trans rfl; have hcz10_2 : w8.cell? ⟨gb629, 2, none⟩ = some (.slice A0_2 l0_2.length c0_2) := (blk_cell BK629.out 2).trans rfl; have hcz10_3 : w8.cell? ⟨gb629, 3, none⟩ = some (.slice A0_3 l0_3.length c0_3) := (blk_cell BK629.out 3).trans rfl; have hfz10_0 := blk_frozen BK629.out 0; have hfz10_1 := blk_frozen BK629.out 1; have hfz10_2 := blk_frozen BK629.out 2; have hfz10_3 := blk_frozen BK629.out 3) | ((with_reducible refine gate_callee (f := 53) rfl ?_); refine goesL_ (some 17) rfl rfl Tryd.func53 (by kernel_rfl) rfl #[.agg #[.int .i64 a0_0, .int .i64 a0_1, .slice A0_2 l0_2.length c0_2, .slice A0_3 l0_3.length c0_3], .bool a1, .int .i64 a2, .int .i64 a3] rfl (by (try simp only [List.map_toArray, List.map_cons, List.map_nil]); first | done | rfl | (simp only [List.length_drop, List.length_take]; rfl)) ?_; (with_reducible refine (impl_edge.calls k a0_0 a0_1 _ _ l0_2 _ _ l0_3 a1 a2 a3 t631 t632 _ ?side1 ?side2 ?side3 ?side4 A5.out).mono ?_); (case side1 => repeat (first | exact (Kd.C_below HR0_2.out HB.out) | (with_reducible refine Kd.C_alloc ?_ _) | (with_reducible refine Kd.C_drewN ?_ _) | (with_reducible refine Kd.C_drew ?_))); (case side2 => exact HC0_2.out); (case side3 => repeat (first | exact (Kd.C_below HR0_3.out HB.out) | (with_reducible refine Kd.C_alloc ?_ _) | (with_reducible refine Kd.C_drewN ?_ _) | (with_reducible refine Kd.C_drew ?_))); (case side4 => exact HC0_3.out); rintro e w11 ⟨rfl, hb⟩; refine ⟨_, rfl, ?_⟩; have n0_ := Aside0.mk (blk_below (g := gb629) (o := .cells #[.int .i64 a0_0, .int .i64 a0_1, .slice A0_2 l0_2.length c0_2, .slice A0_3 l0_3.length c0_3] 26 (0, 0)) (by (with_reducible repeat (first | refine blk_drewN ?_ _ | refine blk_drew ?_ | refine blk_alloc ?_ _)); exact BK629.out) hb); have n1_ := Aside0.mk (blk_below (g := gb630) (o := .cells #[.int .i64 0, .int .i64 0, .slice none 0 0, .slice none 0 0] 26 (0, 0)) (by (with_reducible repeat (first | refine blk_drewN ?_ _ | refine blk_drew ?_ | refine blk_alloc ?_ _)); exact BK630.out) hb); have n2_ := Aside0.mk (below_step (by repeat (first | (with_reducible first | exact HB.out | apply below_alloc | apply pw_below_drewN | apply below_drew1 | refine below_set ?_ GE629.out | refine below_set ?_ GE630.out) | exact HB.out)) hb); clear BK629; clear BK630; clear HB; have BK629 := n0_; have BK630 := n1_; have HB := n2_; clear n0_ n1_ n2_; (try clear hb); (try clear hb2); (try clear hk); (try clear hi)))
  (try simp only [Act.put, List.setIfInBounds_toArray, List.set_cons_zero, List.set_cons_succ])
  go_cut [28] (fun v28 wc => ∃ (kq : Nat) (x28_5 : Bool), v28 = .bool x28_5 ∧ Aside0 (impl_TakeMatch.j0 kq t631 x28_5 a0_0 a0_1 l0_2 l0_3 = some (r1, r2, r3, r4, r5)) ∧ Aside0 (kq ≤ k) ∧ Aside0 (wc.heap[gb629]? = some (.cells #[.int .i64 a0_0, .int .i64 a0_1, (.slice A0_2 l0_2.length c0_2), (.slice A0_3 l0_3.length c0_3)] 26 (0, 0))) ∧ Aside0 (wc.heap[gb630]? = some (.cells #[.int .i64 0, .int .i64 0, (.slice none 0 0), (.slice none 0 0)] 26 (0, 0))) ∧ Aside0 (Below w.heap.size w wc))
  case first =>
    have H := HC6.out
    clear HC6
    by_cases c12 : t632 = true
    · subst c12
      have H1 : ((impl_Figure_set.f k a0_0 a0_1 l0_2 l0_3).bind fun t633 => (impl_TakeMatch.j0 k t631 ((Go.bits .and .u64 t633 t631) == 0) a0_0 a0_1 l0_2 l0_3)) = some (r1, r2, r3, r4, r5) := by rw [if_pos rfl] at H; exact H
      clear H
      have H := H1
      clear H1
      replace H := Option.bind_eq_some_iff.mp H
      obtain ⟨t633, A130, H⟩ := H
      replace H : (impl_TakeMatch.j0 k t631 ((Go.bits .and .u64 t633 t631) == 0) a0_0 a0_1 l0_2 l0_3) = some (r1, r2, r3, r4, r5) := H
      have A13 := Aside0.mk A130
      clear A130
      have H' := Aside0.mk H
      clear H
      have hnb14 := NB629_630.out
      have hnc14 := NB630_629.out
      have hcz15_0 : w11.cell? ⟨gb629, 0, none⟩ = some (.int .i64 a0_0) := (blk_cell BK629.out 0).trans rfl
      have hcz15_1 : w11.cell? ⟨gb629, 1, none⟩ = some (.int .i64 a0_1) := (blk_cell BK629.out 1).trans rfl
      have hcz15_2 : w11.cell? ⟨gb629, 2, none⟩ = some (.slice A0_2 l0_2.length c0_2) := (blk_cell BK629.out 2).trans rfl
      have hcz15_3 : w11.cell? ⟨gb629, 3, none⟩ = some (.slice A0_3 l0_3.length c0_3) := (blk_cell BK629.out 3).trans rfl
      have hfz15_0 := blk_frozen BK629.out 0
      have hfz15_1 := blk_frozen BK629.out 1
      have hfz15_2 := blk_frozen BK629.out 2
      have hfz15_3 := blk_frozen BK629.out 3
      go_wp2_with (first | (go_at_call 41; (with_reducible refine (impl_Figure_set.calls k a0_0 a0_1 _ _ l0_2 _ _ l0_3 t633 _ ?side1 ?side2 ?side3 ?side4 A13.out).mono ?_); (case side1 => repeat (first | exact (Kd.C_below HR0_2.out HB.out) | (with_reducible refine Kd.C_alloc ?_ _) | (with_reducible refine Kd.C_drewN ?_ _) | (with_reducible refine Kd.C_drew ?_))); (case side2 => exact HC0_2.out); (case side3 => repeat (first | exact (Kd.C_below HR0_3.out HB.out) | (with_reducible refine Kd.C_alloc ?_ _) | (with_reducible refine Kd.C_drewN ?_ _) | (with_reducible refine Kd.C_drew ?_))); (case side4 => exact HC0_3.out); rintro e w16 ⟨rfl, hb⟩; have n0_ := Aside0.mk (blk_below (g := gb629) (o := .cells #[.int .i64 a0_0, .int .i64 a0_1, .slice A0_2 l0_2.length c0_2, .slice A0_3 l0_3.length c0_3] 26 (0, 0)) (by (with_reducible repeat (first | refine blk_drewN ?_ _ | refine blk_drew ?_ | refine blk_alloc ?_ _)); exact BK629.out) hb); have n1_ := Aside0.mk (blk_below (g := gb630) (o := .cells #[.int .i64 0, .int .i64 0, .slice none 0 0, .slice none 0 0] 26 (0, 0)) (by (with_reducible repeat (first | refine blk_drewN ?_ _ | refine blk_drew ?_ | refine blk_alloc ?_ _)); exact BK630.out) hb); have n2_ := Aside0.mk (below_step (by repeat (first | (with_reducible first | exact HB.out | apply below_alloc | apply pw_below_drewN | apply below_drew1 | refine below_set ?_ GE629.out | refine below_set ?_ GE630.out) | exact HB.out)) hb); clear BK629; clear BK630; clear HB; have BK629 := n0_; have BK630 := n1_; have HB := n2_; clear n0_ n1_ n2_; (try clear hb); (try clear hb2); (try clear hk); (try clear hi)))
      go_meet
      case rel => exact ⟨_, (((Go.bits .and .u64 t633 t631) == 0)), (by first | rfl | (simp; done) | (simp [*]; done)), H', ⟨by first | omega | exact Nat.le_refl _⟩, ⟨by (with_reducible repeat (first | refine blk_drewN ?_ _ | refine blk_drew ?_ | refine blk_alloc ?_ _)); exact BK629.out⟩, ⟨by (with_reducible repeat (first | refine blk_drewN ?_ _ | refine blk_drew ?_ | refine blk_alloc ?_ _)); exact BK630.out⟩, ⟨by repeat (first | (with_reducible first | exact HB.out | apply below_alloc | apply pw_below_drewN | apply below_drew1 | refine below_set ?_ GE629.out | refine below_set ?_ GE630.out) | exact HB.out)⟩⟩
    · replace c12 := Bool.eq_false_iff.mpr c12
      subst c12
      have H1 : (impl_TakeMatch.j0 k t631 true a0_0 a0_1 l0_2 l0_3) = some (r1, r2, r3, r4, r5) := by rw [if_neg (show ¬ (false = true) by decide)] at H; exact H
      clear H
      have H := H1
      clear H1
      have H' := Aside0.mk H
      clear H
      go_wp2
      go_meet
      case rel => exact ⟨_, (true), (by first | rfl | (simp; done) | (simp [*]; done)), H', ⟨by first | omega | exact Nat.le_refl _⟩, ⟨by (with_reducible repeat (first | refine blk_drewN ?_ _ | refine blk_drew ?_ | refine blk_alloc ?_ _)); exact BK629.out⟩, ⟨by (with_reducible repeat (first | refine blk_drewN ?_ _ | refine blk_drew ?_ | refine blk_alloc ?_ _)); exact BK630.out⟩, ⟨by repeat (first | (with_reducible first | exact HB.out | apply below_alloc | apply pw_below_drewN | apply below_drew1 | refine below_set ?_ GE629.out | refine below_set ?_ GE630.out) | exact HB.out)⟩⟩
  case rest =>
    clear HC6
    try clear c1
    try clear c2
    try clear p2
    try clear c5
    try clear c9
    try clear c12
    try clear c14
    try clear hcz10_0
    try clear hcz10_1
    try clear hcz10_2
    try clear hcz10_3
    try clear hcz15_0
    try clear hcz15_1
    try clear hcz15_2
    try clear hcz15_3
    try clear hfz10_0
    try clear hfz10_1
    try clear hfz10_2
    try clear hfz10_3
    try clear hfz15_0
    try clear hfz15_1
    try clear hfz15_2
    try clear hfz15_3
    obtain ⟨kq, x28_5, rfl, HA, HJ5, BK629, BK630, HB⟩ := hcut
    cases kq with
    | zero => exact absurd HA.out (by simp [impl_TakeMatch.j0])
    | succ kj5 =>
      have H := HA.out
      clear HA
      simp only [impl_TakeMatch.j0] at H
      by_cases c17 : x28_5 = true
      · subst c17
        have H1 : (some (0, 0, ([] : List Int), ([] : List Int), false)) = some (r1, r2, r3, r4, r5) := by rw [if_pos rfl] at H; exact H
        clear H
        have H := H1
        clear H1
        simp only [Option.some.injEq, Prod.mk.injEq] at H
        obtain ⟨rfl, rfl, rfl, rfl, rfl⟩ := H
        have hnb18 := NB630_629.out
        have hnc18 := NB629_630.out
        have hcz19_0 : wc.cell? ⟨gb630, 0, none⟩ = some (.int .i64 0) := (blk_cell BK630.out 0).trans rfl
        have hcz19_1 : wc.cell? ⟨gb630, 1, none⟩ = some (.int .i64 0) := (blk_cell BK630.out 1).trans rfl
        have hcz19_2 : wc.cell? ⟨gb630, 2, none⟩ = some (.slice none 0 0) := (blk_cell BK630.out 2).trans rfl
        have hcz19_3 : wc.cell? ⟨gb630, 3, none⟩ = some (.slice none 0 0) := (blk_cell BK630.out 3).trans rfl
        have hfz19_0 := blk_frozen BK630.out 0
        have hfz19_1 := blk_frozen BK630.out 1
        have hfz19_2 := blk_frozen BK630.out 2
        have hfz19_3 := blk_frozen BK630.out 3
        go_wp2
        refine bodyPost_ret (results_ct rfl _ _ gb630 26 #[.int .i64 0, .int .i64 0, .slice none 0 0, .slice none 0 0] (0, 0) _ rfl (by (with_reducible repeat (first | refine blk_drewN ?_ _ | refine blk_drew ?_ | refine blk_alloc ?_ _)); refine blk_put (cs := #[.int .i64 0, .int .i64 0, .slice none 0 0, .slice none 0 0]) ?_ 3 _ rfl; (with_reducible repeat (first | refine blk_drewN ?_ _ | refine blk_drew ?_ | refine blk_alloc ?_ _)); refine blk_put (cs := #[.int .i64 0, .int .i64 0, .slice none 0 0, .slice none 0 0]) ?_ 2 _ rfl; (with_reducible repeat (first | refine blk_drewN ?_ _ | refine blk_drew ?_ | refine blk_alloc ?_ _)); refine blk_put (cs := #[.int .i64 0, .int .i64 0, .slice none 0 0, .slice none 0 0]) ?_ 1 _ rfl; (with_reducible repeat (first | refine blk_drewN ?_ _ | refine blk_drew ?_ | refine blk_alloc ?_ _)); refine blk_put (cs := #[.int .i64 0, .int .i64 0, .slice none 0 0, .slice none 0 0]) ?_ 0 _ rfl; (with_reducible repeat (first | refine blk_drewN ?_ _ | refine blk_drew ?_ | refine blk_alloc ?_ _)); exact BK630.out) Tryd.underlying26 rfl (by kernel_rfl)) rfl ?_
        exact ⟨_, _, by first | rfl | (simp [errW_none, errW_some] <;> rfl) | (simp [*, errW_none, errW_some] <;> rfl), by first | exact Kd.R_nil _ _ _ _ _ | exact Kd.N_nil _ _ _ _ _ | exact Kd.V_nil _ _ _ _ _ | exact Kd.Q_nil _ _ _ _ _ | exact Kd.S_nil _ _ _ _ _, by first | exact Kd.R_nil _ _ _ _ _ | exact Kd.N_nil _ _ _ _ _ | exact Kd.V_nil _ _ _ _ _ | exact Kd.Q_nil _ _ _ _ _ | exact Kd.S_nil _ _ _ _ _, by repeat (first | (with_reducible first | exact HB.out | apply below_alloc | apply pw_below_drewN | apply below_drew1 | refine below_set ?_ GE629.out | refine below_set ?_ GE630.out) | exact HB.out)⟩
      · replace c17 := Bool.eq_false_iff.mpr c17
        subst c17
        have H1 : ((impl_Figure_grid.f a0_0 a0_1 l0_2 l0_3).bind fun bt634 => ((impl_Figure_set.f kj5 a0_0 a0_1 l0_2 l0_3).bind fun t636 => ((impl_grid_figure.f bt634.1 bt634.2 (Go.bits .andNot .u64 t636 t631)).bind fun bt637 => (some (bt637.1, bt637.2.1, bt637.2.2.1, bt637.2.2.2, true))))) = some (r1, r2, r3, r4, r5) := by rw [if_neg (show ¬ (false = true) by decide)] at H; exact H
        clear H
        have H := H1
        clear H1
        replace H := Option.bind_eq_some_iff.mp H
        obtain ⟨⟨t634, t635⟩, A200, H⟩ := H
        replace H : ((impl_Figure_set.f kj5 a0_0 a0_1 l0_2 l0_3).bind fun t636 => ((impl_grid_figure.f t634 t635 (Go.bits .andNot .u64 t636 t631)).bind fun bt637 => (some (bt637.1, bt637.2.1, bt637.2.2.1, bt637.2.2.2, true)))) = some (r1, r2, r3, r4, r5) := H
        have A20 := Aside0.mk A200
        clear A200
        replace H := Option.bind_eq_some_iff.mp H
        obtain ⟨t636, A210, H⟩ := H
        replace H : ((impl_grid_figure.f t634 t635 (Go.bits .andNot .u64 t636 t631)).bind fun bt637 => (some (bt637.1, bt637.2.1, bt637.2.2.1, bt637.2.2.2, true))) = some (r1, r2, r3, r4, r5) := H
        have A21 := Aside0.mk A210
        clear A210
        replace H := Option.bind_eq_some_iff.mp H
        obtain ⟨⟨t637, t638, t639, t642⟩, A220, H⟩ := H
        replace H : (some (t637, t638, t639, t642, true)) = some (r1, r2, r3, r4, r5) := H
        have A22 := Aside0.mk A220
        clear A220
        simp only [Option.some.injEq, Prod.mk.injEq] at H
        obtain ⟨rfl, rfl, rfl, rfl, rfl⟩ := H
        try go_wp2
        have n0_ := Aside0.mk (blk_drew BK629.out)
        have n1_ := Aside0.mk (blk_drew BK630.out)
        have n2_ := Aside0.mk (below_drew1 HB.out)
        clear BK629
        clear BK630
        clear HB
        have BK629 := n0_
        have BK630 := n1_
        have HB := n2_
        clear n0_ n1_ n2_
        refine start_ (n := 9) (S := fun w' => w'.cell? ⟨gb629, 0, none⟩ = some (.int .i64 a0_0) ∧ w'.cell? ⟨gb629, 1, none⟩ = some (.int .i64 a0_1) ∧ w'.cell? ⟨gb629, 2, none⟩ = some (.slice A0_2 l0_2.length c0_2) ∧ w'.cell? ⟨gb629, 3, none⟩ = some (.slice A0_3 l0_3.length c0_3)) (ds := []) #[false, false, false, false, false, false, false, false, false] (by kernel_rfl) rfl rfl ⟨(blk_cell BK629.out 0).trans rfl, (blk_cell BK629.out 1).trans rfl, (blk_cell BK629.out 2).trans rfl, (blk_cell BK629.out 3).trans rfl⟩ (fun hHeld => ?_); refine with_tabW impl_TakeMatch.tab4 impl_TakeMatch.bits4 (fun HT_ HW_ => ?_)
        generalize wc.drew = w23 at BK629 BK630 HB hHeld ⊢
        refine pure_ (i := 4) (N := some 34) (v := ?_) (a' := ?_) #[false, false, false, false, true, false, false, false, false] rfl rfl (any_of HT_.out (by kernel_rfl)) (fun _ _ _ h => h) (Or.inl ⟨by rfl, ?_⟩) ?_ ?_
        rotate_left
        · intro w'
          go_simp
          with_reducible rfl
        rotate_left
        · simp only [Act.put, List.setIfInBounds_toArray, List.set_cons_zero, List.set_cons_succ, i64_w, i32_w]
          rfl
        refine take_ (i := 0) (N := some 30) (v := ?_) (a' := ?_) #[true, false, false, false, true, false, false, false, false] rfl rfl (take_ofW HT_.out HW_.out (by kernel_rfl)) (fun _ _ _ h => h) (Or.inl ⟨by rfl, ?_⟩) hHeld ?_ ?_
        rotate_left
        · rintro w' ⟨s0, s1, s2, s3⟩
          go_simp
          with_reducible rfl
        rotate_left
        · simp only [Act.put, List.setIfInBounds_toArray, List.set_cons_zero, List.set_cons_succ, i64_w, i32_w]
          rfl
        refine take_ (i := 2) (N := some 32) (v := ?_) (a' := ?_) #[true, false, true, false, true, false, false, false, false] rfl rfl (take_ofW HT_.out HW_.out (by kernel_rfl)) (fun _ _ _ h => h) (Or.inl ⟨by rfl, ?_⟩) hHeld ?_ ?_
        rotate_left
        · rintro w' ⟨s0, s1, s2, s3⟩
          go_simp
          with_reducible rfl
        rotate_left
        · simp only [Act.put, List.setIfInBounds_toArray, List.set_cons_zero, List.set_cons_succ, i64_w, i32_w]
          rfl
        refine one_ (i := 1) (N := some 31) #[true, true, true, false, true, false, false, false, false] rfl rfl (one_of HT_.out (by kernel_rfl)) (by decide) (fun K hK => ?_)
        refine goes_ Tryd.func39 (by kernel_rfl) rfl #[.agg #[.int .i64 a0_0, .int .i64 a0_1, .slice A0_2 l0_2.length c0_2, .slice A0_3 l0_3.length c0_3]] (by rfl) rfl rfl (by (try simp only [List.map_toArray, List.map_cons, List.map_nil]); first | done | rfl | (simp only [List.length_drop, List.length_take]; rfl)) ?_
        with_reducible refine (impl_Figure_grid.calls a0_0 a0_1 _ _ l0_2 _ _ l0_3 t634 t635 _ ?side1 ?side2 ?side3 ?side4 A20.out).mono ?_
        (case side1 => repeat (first | exact (Kd.C_below HR0_2.out HB.out) | (with_reducible refine Kd.C_alloc ?_ _) | (with_reducible refine Kd.C_drewN ?_ _) | (with_reducible refine Kd.C_drew ?_)))
        (case side2 => exact HC0_2.out)
        (case side3 => repeat (first | exact (Kd.C_below HR0_3.out HB.out) | (with_reducible refine Kd.C_alloc ?_ _) | (with_reducible refine Kd.C_drewN ?_ _) | (with_reducible refine Kd.C_drew ?_)))
        (case side4 => exact HC0_3.out)
        rintro e w24 ⟨rfl, hb⟩
        refine ⟨_, rfl, ?_⟩
        have n0_ := Aside0.mk (blk_below (g := gb629) (o := .cells #[.int .i64 a0_0, .int .i64 a0_1, .slice A0_2 l0_2.length c0_2, .slice A0_3 l0_3.length c0_3] 26 (0, 0)) (by (with_reducible repeat (first | refine blk_drewN ?_ _ | refine blk_drew ?_ | refine blk_alloc ?_ _)); exact BK629.out) hb)
        have n1_ := Aside0.mk (blk_below (g := gb630) (o := .cells #[.int .i64 0, .int .i64 0, .slice none 0 0, .slice none 0 0] 26 (0, 0)) (by (with_reducible repeat (first | refine blk_drewN ?_ _ | refine blk_drew ?_ | refine blk_alloc ?_ _)); exact BK630.out) hb)
        have n2_ := Aside0.mk (below_step (by repeat (first | (with_reducible first | exact HB.out | apply below_alloc | apply pw_below_drewN | apply below_drew1 | refine below_set ?_ GE629.out | refine below_set ?_ GE630.out) | exact HB.out)) hb)
        clear BK629
        clear BK630
        clear HB
        have BK629 := n0_
        have BK630 := n1_
        have HB := n2_
        clear n0_ n1_ n2_
        (try clear hb)
        (try clear hb2)
        (try clear hk)
        (try clear hi)
        refine hK.out _ _ ⟨(blk_cell BK629.out 0).trans rfl, (blk_cell BK629.out 1).trans rfl, (blk_cell BK629.out 2).trans rfl, (blk_cell BK629.out 3).trans rfl⟩ (fun hHeld => ?_)
        clear hK K
        refine norm_ (a' := ?_) ?_ ?_
        rotate_left
        · show Act.put _ (some 31) _ = _
          simp only [Act.put, List.setIfInBounds_toArray, List.set_cons_zero, List.set_cons_succ, i64_w, i32_w]
          rfl
        refine one_ (i := 3) (N := some 33) #[true, true, true, true, true, false, false, false, false] rfl rfl (one_of HT_.out (by kernel_rfl)) (by decide) (fun K hK => ?_)
        refine goes_ Tryd.func41 (by kernel_rfl) rfl #[.agg #[.int .i64 a0_0, .int .i64 a0_1, .slice A0_2 l0_2.length c0_2, .slice A0_3 l0_3.length c0_3]] (by rfl) rfl rfl (by (try simp only [List.map_toArray, List.map_cons, List.map_nil]); first | done | rfl | (simp only [List.length_drop, List.length_take]; rfl)) ?_
        with_reducible refine (impl_Figure_set.calls kj5 a0_0 a0_1 _ _ l0_2 _ _ l0_3 t636 _ ?side1 ?side2 ?side3 ?side4 A21.out).mono ?_
        (case side1 => repeat (first | exact (Kd.C_below HR0_2.out HB.out) | (with_reducible refine Kd.C_alloc ?_ _) | (with_reducible refine Kd.C_drewN ?_ _) | (with_reducible refine Kd.C_drew ?_)))
        (case side2 => exact HC0_2.out)
        (case side3 => repeat (first | exact (Kd.C_below HR0_3.out HB.out) | (with_reducible refine Kd.C_alloc ?_ _) | (with_reducible refine Kd.C_drewN ?_ _) | (with_reducible refine Kd.C_drew ?_)))
        (case side4 => exact HC0_3.out)
        rintro e w25 ⟨rfl, hb⟩
        refine ⟨_, rfl, ?_⟩
        have n0_ := Aside0.mk (blk_below (g := gb629) (o := .cells #[.int .i64 a0_0, .int .i64 a0_1, .slice A0_2 l0_2.length c0_2, .slice A0_3 l0_3.length c0_3] 26 (0, 0)) (by (with_reducible repeat (first | refine blk_drewN ?_ _ | refine blk_drew ?_ | refine blk_alloc ?_ _)); exact BK629.out) hb)
        have n1_ := Aside0.mk (blk_below (g := gb630) (o := .cells #[.int .i64 0, .int .i64 0, .slice none 0 0, .slice none 0 0] 26 (0, 0)) (by (with_reducible repeat (first | refine blk_drewN ?_ _ | refine blk_drew ?_ | refine blk_alloc ?_ _)); exact BK630.out) hb)
        have n2_ := Aside0.mk (below_step (by repeat (first | (with_reducible first | exact HB.out | apply below_alloc | apply pw_below_drewN | apply below_drew1 | refine below_set ?_ GE629.out | refine below_set ?_ GE630.out) | exact HB.out)) hb)
        clear BK629
        clear BK630
        clear HB
        have BK629 := n0_
        have BK630 := n1_
        have HB := n2_
        clear n0_ n1_ n2_
        (try clear hb)
        (try clear hb2)
        (try clear hk)
        (try clear hi)
        refine hK.out _ _ ⟨(blk_cell BK629.out 0).trans rfl, (blk_cell BK629.out 1).trans rfl, (blk_cell BK629.out 2).trans rfl, (blk_cell BK629.out 3).trans rfl⟩ (fun hHeld => ?_)
        clear hK K
        refine norm_ (a' := ?_) ?_ ?_
        rotate_left
        · show Act.put _ (some 33) _ = _
          simp only [Act.put, List.setIfInBounds_toArray, List.set_cons_zero, List.set_cons_succ, i64_w, i32_w]
          rfl
        refine pure_ (i := 5) (N := some 35) (v := ?_) (a' := ?_) #[true, true, true, true, true, true, false, false, false] rfl rfl (any_of HT_.out (by kernel_rfl)) (fun _ _ _ h => h) (Or.inl ⟨by rfl, ?_⟩) ?_ ?_
        rotate_left
        · intro w'
          go_simp
          with_reducible rfl
        rotate_left
        · simp only [Act.put, List.setIfInBounds_toArray, List.set_cons_zero, List.set_cons_succ, i64_w, i32_w]
          rfl
        refine one_ (i := 6) (N := some 36) #[true, true, true, true, true, true, true, false, false] rfl rfl (one_of HT_.out (by kernel_rfl)) (by decide) (fun K hK => ?_)
        refine goes_ Tryd.func40 (by kernel_rfl) rfl #[.agg #[.int .i64 t634, .int .i64 t635], .int .u64 (Go.bits .andNot .u64 t636 t631)] (by rfl) rfl rfl (by (try simp only [List.map_toArray, List.map_cons, List.map_nil]); first | done | rfl | (simp only [List.length_drop, List.length_take]; rfl)) ?_
        with_reducible refine (impl_grid_figure.calls t634 t635 (Go.bits .andNot .u64 t636 t631) t637 t638 t639 t642 _ (TB.below HTB.out (by repeat (first | (with_reducible first | exact HB.out | apply below_alloc | apply pw_below_drewN | apply below_drew1 | refine below_set ?_ GE629.out | refine below_set ?_ GE630.out) | exact HB.out))) A22.out).mono ?_
        rintro e w26 ⟨v640, v643, rfl, ho0, ho1, hb⟩
        refine ⟨_, rfl, ?_⟩
        have n0_ := Aside0.mk (Kd.R_lower ho0 (below_size (by repeat (first | (with_reducible first | exact HB.out | apply below_alloc | apply pw_below_drewN | apply below_drew1 | refine below_set ?_ GE629.out | refine below_set ?_ GE630.out) | exact HB.out))))
        have n1_ := Aside0.mk (Kd.R_lower ho1 (below_size (by repeat (first | (with_reducible first | exact HB.out | apply below_alloc | apply pw_below_drewN | apply below_drew1 | refine below_set ?_ GE629.out | refine below_set ?_ GE630.out) | exact HB.out))))
        have n2_ := Aside0.mk (blk_below (g := gb629) (o := .cells #[.int .i64 a0_0, .int .i64 a0_1, .slice A0_2 l0_2.length c0_2, .slice A0_3 l0_3.length c0_3] 26 (0, 0)) (by (with_reducible repeat (first | refine blk_drewN ?_ _ | refine blk_drew ?_ | refine blk_alloc ?_ _)); exact BK629.out) hb)
        have n3_ := Aside0.mk (blk_below (g := gb630) (o := .cells #[.int .i64 0, .int .i64 0, .slice none 0 0, .slice none 0 0] 26 (0, 0)) (by (with_reducible repeat (first | refine blk_drewN ?_ _ | refine blk_drew ?_ | refine blk_alloc ?_ _)); exact BK630.out) hb)
        have n4_ := Aside0.mk (below_step (by repeat (first | (with_reducible first | exact HB.out | apply below_alloc | apply pw_below_drewN | apply below_drew1 | refine below_set ?_ GE629.out | refine below_set ?_ GE630.out) | exact HB.out)) hb)
        clear BK629
        clear BK630
        clear HB
        have HO641 := n0_
        have HO644 := n1_
        have BK629 := n2_
        have BK630 := n3_
        have HB := n4_
        clear n0_ n1_ n2_ n3_ n4_
        (try clear hb)
        (try clear hb2)
        (try clear hk)
        (try clear hi)
        (try clear ho0)
        (try clear ho1)
        obtain ⟨Ao29, co29, eo29⟩ := Kd.R_slice HO641.out
        (first | subst eo29 | (injection eo29 with f1_ f2_ f3_; have f4_ := f1_.symm; have f5_ := f3_.symm; clear f1_ f2_ f3_; subst f4_; subst f5_))
        obtain ⟨Ao31, co31, eo31⟩ := Kd.R_slice HO644.out
        (first | subst eo31 | (injection eo31 with f1_ f2_ f3_; have f4_ := f1_.symm; have f5_ := f3_.symm; clear f1_ f2_ f3_; subst f4_; subst f5_))
        refine hK.out _ _ ⟨(blk_cell BK629.out 0).trans rfl, (blk_cell BK629.out 1).trans rfl, (blk_cell BK629.out 2).trans rfl, (blk_cell BK629.out 3).trans rfl⟩ (fun hHeld => ?_)
        clear hK K
        refine norm_ (a' := ?_) ?_ ?_
        rotate_left
        · show Act.put _ (some 36) _ = _
          simp only [Act.put, List.setIfInBounds_toArray, List.set_cons_zero, List.set_cons_succ, i64_w, i32_w]
          rfl
        refine one_ (i := 7) (N := none) #[true, true, true, true, true, true, true, true, false] rfl rfl (one_of HT_.out (by kernel_rfl)) (by decide) (fun K hK => ?_)
        have hs27 : w26.cell? ⟨gb630, 0, none⟩ = some (.int .i64 0) := (blk_cell BK630.out 0).trans rfl
        have hfs27 := blk_frozen BK630.out 0
        have hns27_0 := NB629_630.out
        have hms27_0 := NB630_629.out
        have hs28 : w26.cell? ⟨gb630, 1, none⟩ = some (.int .i64 0) := (blk_cell BK630.out 1).trans rfl
        have hfs28 := blk_frozen BK630.out 1
        have hns28_0 := NB629_630.out
        have hms28_0 := NB630_629.out
        have hs30 : w26.cell? ⟨gb630, 2, none⟩ = some (.slice none 0 0) := (blk_cell BK630.out 2).trans rfl
        have hfs30 := blk_frozen BK630.out 2
        have hns30_0 := NB629_630.out
        have hms30_0 := NB630_629.out
        have hs32 : w26.cell? ⟨gb630, 3, none⟩ = some (.slice none 0 0) := (blk_cell BK630.out 3).trans rfl
        have hfs32 := blk_frozen BK630.out 3
        have hns32_0 := NB629_630.out
        have hms32_0 := NB630_629.out
        refine skip_ (w1 := ?_) (by rfl) rfl ?_ ?_
        rotate_left
        · go_simp
          rfl
        refine hK.out _ _ ⟨((cell_far (p := ⟨gb630, _, none⟩) NB629_630.out _).trans (((cell_far (p := ⟨gb630, _, none⟩) NB629_630.out _).trans (((cell_far (p := ⟨gb630, _, none⟩) NB629_630.out _).trans (((cell_far (p := ⟨gb630, _, none⟩) NB629_630.out _).trans (hHeld.1)))))))), ((cell_far (p := ⟨gb630, _, none⟩) NB629_630.out _).trans (((cell_far (p := ⟨gb630, _, none⟩) NB629_630.out _).trans (((cell_far (p := ⟨gb630, _, none⟩) NB629_630.out _).trans (((cell_far (p := ⟨gb630, _, none⟩) NB629_630.out _).trans (hHeld.2.1)))))))), ((cell_far (p := ⟨gb630, _, none⟩) NB629_630.out _).trans (((cell_far (p := ⟨gb630, _, none⟩) NB629_630.out _).trans (((cell_far (p := ⟨gb630, _, none⟩) NB629_630.out _).trans (((cell_far (p := ⟨gb630, _, none⟩) NB629_630.out _).trans (hHeld.2.2.1)))))))), ((cell_far (p := ⟨gb630, _, none⟩) NB629_630.out _).trans (((cell_far (p := ⟨gb630, _, none⟩) NB629_630.out _).trans (((cell_far (p := ⟨gb630, _, none⟩) NB629_630.out _).trans (((cell_far (p := ⟨gb630, _, none⟩) NB629_630.out _).trans (hHeld.2.2.2))))))))⟩ (fun hHeld => ?_)
        clear hK K
        refine pure_ (i := 8) (N := some 9) (v := ?_) (a' := ?_) #[true, true, true, true, true, true, true, true, true] rfl rfl (any_of HT_.out (by kernel_rfl)) (fun _ _ _ h => h) (Or.inl ⟨by rfl, ?_⟩) ?_ ?_
        rotate_left
        · intro w'
          go_simp
          with_reducible rfl
        rotate_left
        · simp only [Act.put, List.setIfInBounds_toArray, List.set_cons_zero, List.set_cons_succ, i64_w, i32_w]
          rfl
        refine done_ (done_of HT_.out (by kernel_rfl)) ?_
        try go_wp2
        refine bodyPost_ret (results_ct rfl _ _ gb630 26 #[.int .i64 t637, .int .i64 t638, .slice Ao29 t639.length co29, .slice Ao31 t642.length co31] (0, 0) _ rfl (by (with_reducible repeat (first | refine blk_drewN ?_ _ | refine blk_drew ?_ | refine blk_alloc ?_ _)); refine blk_put (cs := #[.int .i64 t637, .int .i64 t638, .slice Ao29 t639.length co29, .slice none 0 0]) ?_ 3 _ rfl; (with_reducible repeat (first | refine blk_drewN ?_ _ | refine blk_drew ?_ | refine blk_alloc ?_ _)); refine blk_put (cs := #[.int .i64 t637, .int .i64 t638, .slice none 0 0, .slice none 0 0]) ?_ 2 _ rfl; (with_reducible repeat (first | refine blk_drewN ?_ _ | refine blk_drew ?_ | refine blk_alloc ?_ _)); refine blk_put (cs := #[.int .i64 t637, .int .i64 0, .slice none 0 0, .slice none 0 0]) ?_ 1 _ rfl; (with_reducible repeat (first | refine blk_drewN ?_ _ | refine blk_drew ?_ | refine blk_alloc ?_ _)); refine blk_put (cs := #[.int .i64 0, .int .i64 0, .slice none 0 0, .slice none 0 0]) ?_ 0 _ rfl; (with_reducible repeat (first | refine blk_drewN ?_ _ | refine blk_drew ?_ | refine blk_alloc ?_ _)); exact BK630.out) Tryd.underlying26 rfl (by kernel_rfl)) rfl ?_
        exact ⟨_, _, by first | rfl | (simp [errW_none, errW_some] <;> rfl) | (simp [*, errW_none, errW_some] <;> rfl), by (with_reducible repeat (first | apply Kd.R_alloc | apply Kd.R_drewN | apply Kd.R_drew)); exact Kd.R_mono (Kd.R_far (p := ⟨gb630, 3, none⟩) (Kd.R_far (p := ⟨gb630, 2, none⟩) (Kd.R_far (p := ⟨gb630, 1, none⟩) (Kd.R_far (p := ⟨gb630, 0, none⟩) (Kd.R_types HO641.out BK630.out (by decide)) (fun _ hk => hk.2) (.int .i64 t637)) (fun _ hk => hk.2) (.int .i64 t638)) (fun _ hk => hk.2) (.slice Ao29 t639.length co29)) (fun _ hk => hk.2) (.slice Ao31 t642.length co31)) (fun _ hk => hk.1), by (with_reducible repeat (first | apply Kd.R_alloc | apply Kd.R_drewN | apply Kd.R_drew)); exact Kd.R_mono (Kd.R_far (p := ⟨gb630, 3, none⟩) (Kd.R_far (p := ⟨gb630, 2, none⟩) (Kd.R_far (p := ⟨gb630, 1, none⟩) (Kd.R_far (p := ⟨gb630, 0, none⟩) (Kd.R_types HO644.out BK630.out (by decide)) (fun _ hk => hk.2) (.int .i64 t637)) (fun _ hk => hk.2) (.int .i64 t638)) (fun _ hk => hk.2) (.slice Ao29 t639.length co29)) (fun _ hk => hk.2) (.slice Ao31 t642.length co31)) (fun _ hk => hk.1), by repeat (first | (with_reducible first | exact HB.out | apply below_alloc | apply pw_below_drewN | apply below_drew1 | refine below_set ?_ GE629.out | refine below_set ?_ GE630.out) | exact HB.out)⟩

end Go.Proofs.YtjnajeplfgdklaaDoor.P


namespace Go.Proofs.YtjnajeplfgdklaaDoor.P
open Go.RowKit Go.Proofs.YtjnajeplfgdklaaDoorW.PrintWords Go.Proofs.YtjnajeplfgdklaaDoorW.PrintLast Go.Proofs.YtjnajeplfgdklaaDoorW.PrintMore
attribute [local go_sem] max2_int min2_int max_two min_two max_three min_three max_four min_four   -- for this text's walks alone
set_option linter.unusedVariables false
set_option linter.unusedSimpArgs false

theorem edP_lt {w h : Int} (g : GridOK w h) {up : Bool} {x y : Int} (hb : edB w h up x y = true) : edP w h up x y < figN w h := by
  obtain ⟨c1, c2, c3, c4⟩ := area_bounds g.w1 g.w4 g.h1 g.h4
  cases up with
  | true =>
    obtain ⟨⟨h1, h2⟩, h3, h4⟩ := edB_up hb
    obtain ⟨l0, l1, -⟩ := upright_lt g h1 h2 h3 (show y ≤ h - 1 by omega)
    unfold edP edN figN
    rw [if_pos rfl, if_pos rfl]
    omega
  | false =>
    obtain ⟨⟨h1, h2⟩, h3, h4⟩ := edB_level hb
    obtain ⟨l0, l1, -⟩ := level_lt g h1 (show x ≤ w - 1 by omega) h3 h4
    unfold edP edN figN
    rw [if_neg (by decide), if_neg (by decide)]
    omega
theorem fiPut_f {w h : Int} (g : GridOK w h) {M : Nat} (hM : M < 2 ^ figN w h) (k : Nat) (hk : 1000000 < k) {up : Bool} {x y : Int} (hb : edB w h up x y = true) : spec_fiPut.f k w h (rowA w h M) (rowU w h M) up x y = some (w, h, rowA w h (M ||| 2 ^ edP w h up x y), rowU w h (M ||| 2 ^ edP w h up x y)) := by
  cases up with
  | true =>
    obtain ⟨⟨h1, h2⟩, h3, h4⟩ := edB_up hb
    have := fiPut_upright g hM k hk x y h1 h2 h3 (show y ≤ h - 1 by omega)
    unfold edP edN
    rw [if_pos rfl, if_pos rfl]
    exact this
  | false =>
    obtain ⟨⟨h1, h2⟩, h3, h4⟩ := edB_level hb
    have := fiPut_level g hM k hk x y h1 (show x ≤ w - 1 by omega) h3 h4
    unfold edP edN
    rw [if_neg (by decide), if_neg (by decide), Nat.zero_add]
    exact this
end Go.Proofs.YtjnajeplfgdklaaDoor.P


namespace Go.Proofs.YtjnajeplfgdklaaDoor.P
open Go.RowKit Go.Proofs.YtjnajeplfgdklaaDoorW.PrintWords Go.Proofs.YtjnajeplfgdklaaDoorW.PrintLast Go.Proofs.YtjnajeplfgdklaaDoorW.PrintMore
attribute [local go_sem] max2_int min2_int max_two min_two max_three min_three max_four min_four   -- for this text's walks alone
set_option linter.unusedVariables false
set_option linter.unusedSimpArgs false

theorem level_p {w h : Int} {x y : Int} : edP w h false x y = (y * w + x).toNat := by unfold edP edN; rw [if_neg (by decide), if_neg (by decide), Nat.zero_add]
theorem upright_p {w h : Int} {x y : Int} : edP w h true x y = (w * (h + 1)).toNat + (y * (w + 1) + x).toNat := by unfold edP edN; rw [if_pos rfl, if_pos rfl]
theorem around_one {w h : Int} (g : GridOK w h) (k : Nat) (hk : 10 < k) (x y : Int) (hx0 : 0 ≤ x) (hx1 : x ≤ w - 1) (hy0 : 0 ≤ y) (hy1 : y ≤ h - 1) :
    impl_grid_around.f k w h x y 1 1 = some (((((2 ^ edP w h false x y ||| 2 ^ edP w h false x (y + 1)) ||| (2 ^ edP w h true x y ||| 2 ^ edP w h true (x + 1) y)) : Nat) : Int)) := by
  have w1 := g.w1
  have w4 := g.w4
  have h1 := g.h1
  have h4 := g.h4
  obtain ⟨k, rfl⟩ : ∃ m, k = m + 4 := ⟨k - 4, by omega⟩
  have b1 : edB w h false x y = true := by unfold edB; simp; omega
  have b2 : edB w h false x (y + 1) = true := by unfold edB; simp; omega
  have b3 : edB w h true x y = true := by unfold edB; simp; omega
  have b4 : edB w h true (x + 1) y = true := by unfold edB; simp; omega
  have n := (figN_le g).1
  have p1 := pow_lt60 (show edP w h false x y < 60 by have := edP_lt g b1; omega)
  have p2 := pow_lt60 (show edP w h false x (y + 1) < 60 by have := edP_lt g b2; omega)
  have p3 := pow_lt60 (show edP w h true x y < 60 by have := edP_lt g b3; omega)
  have p4 := pow_lt60 (show edP w h true (x + 1) y < 60 by have := edP_lt g b4; omega)
  have e0 : wrap64 (x + 0) = x := by unfold wrap64; omega
  have e1 : wrap64 (y + 1) = y + 1 := by unfold wrap64; omega
  have e2 : wrap64 (x + 1) = x + 1 := by unfold wrap64; omega
  have e3 : wrap64 (y + 0) = y := by unfold wrap64; omega
  have e4 : wrap64 (0 + 1) = 1 := by unfold wrap64; omega
  have l1 := level_f g hx0 (by omega) hy0 (by omega)
  have l2 := level_f g hx0 (by omega) (show 0 ≤ y + 1 by omega) (by omega)
  have l3 := upright_f g hx0 (by omega) hy0 (by omega)
  have l4 := upright_f g (show 0 ≤ x + 1 by omega) (by omega) hy0 (by omega)
  rw [← level_p (w := w) (h := h)] at l1 l2
  rw [← upright_p (w := w) (h := h)] at l3 l4
  unfold impl_grid_around.f
  simp only [impl_grid_around.l0]
  rw [if_pos (by decide), e0, e1, l1, Option.bind_some, l2, Option.bind_some, or_u64 _ _ p1 p2, show (0 : Int) = ((0 : Nat) : Int) from rfl, or_u64 _ _ (by decide) (Nat.or_lt_two_pow p1 p2), Nat.zero_or, Int.natCast_zero, e4, if_neg (by decide)]
  simp only [impl_grid_around.l1]
  rw [if_pos (by decide), e3, e2, l3, Option.bind_some, l4, Option.bind_some, or_u64 _ _ p3 p4, or_u64 _ _ (Nat.or_lt_two_pow p1 p2) (Nat.or_lt_two_pow p3 p4), e4, if_neg (by decide)]
theorem or_four (M a b c d : Nat) : (((M ||| a) ||| b) ||| c) ||| d = M ||| ((a ||| b) ||| (c ||| d)) := by
  simp only [Nat.or_assoc]
theorem AddCell_pure {w h : Int} {a u : List Int} (ha : a.length ≤ 1000000) (hu : u.length ≤ 1000000) (x y : Int) : ∃ r0 r1 L2 L3 r2, spec_AddCell.f 4000001 w h a u x y = some (r0, r1, L2, L3, r2) ∧ impl_AddCell.f 4000001 w h a u x y = some (r0, r1, L2, L3, r2) ∧ L2.length + L3.length ≤ 1000000 := by
  have e4 : (4000001 : Nat) = 4000000 + 1 := rfl
  cases hf : figB w h a u with
  | false =>
    refine ⟨0, 0, [], [], false, ?_, ?_, by simp⟩
    · unfold spec_AddCell.f spec_fiCell.f
      rw [fiGood_f w h a u ha hu _ (by decide), hf, Option.bind_some, if_neg (by simp), Option.bind_some, if_neg (by simp)]
    · unfold impl_AddCell.f
      rw [IsFigure_f w h a u ha hu _ (by decide), hf, Option.bind_some, if_neg (by simp), e4]
      simp only [impl_AddCell.j0, if_true]
  | true =>
    have g := gridOK_of hf
    have w1 := g.w1
    have w4 := g.w4
    have h1 := g.h1
    have h4 := g.h4
    have hM := figMask_figN hf
    have hM60 := figMask_lt hf
    have hA := own_A hf
    have hU := own_U hf
    have e0 : wrap64 (w - 1) = w - 1 := by unfold wrap64; omega
    have e1 : wrap64 (h - 1) = h - 1 := by unfold wrap64; omega
    have hcell : spec_fiCell.f 4000001 w h a u x y = some ((decide (0 ≤ x) && decide (x ≤ w - 1)) && (decide (0 ≤ y) && decide (y ≤ h - 1))) := by
      unfold spec_fiCell.f
      rw [fiGood_f w h a u ha hu _ (by decide), hf, Option.bind_some, if_pos rfl, e0, e1, l1In_f, Option.bind_some, l1In_f, Option.bind_some]
      cases (decide (0 ≤ x) && decide (x ≤ w - 1)) <;> simp
    have hic : impl_grid_isCell.f w h x y = some ((decide (0 ≤ x) && decide (x ≤ w - 1)) && (decide (0 ≤ y) && decide (y ≤ h - 1))) := by
      unfold impl_grid_isCell.f
      rw [e0, e1, within_f, Option.bind_some, within_f, Option.bind_some]
      cases (decide (0 ≤ x) && decide (x ≤ w - 1)) <;> simp
    cases hc : ((decide (0 ≤ x) && decide (x ≤ w - 1)) && (decide (0 ≤ y) && decide (y ≤ h - 1))) with
    | false =>
      rw [hc] at hcell hic
      refine ⟨0, 0, [], [], false, ?_, ?_, by simp⟩
      · unfold spec_AddCell.f
        rw [hcell, Option.bind_some, if_neg (by simp)]
      · unfold impl_AddCell.f impl_Figure_grid.f
        rw [IsFigure_f w h a u ha hu _ (by decide), hf, Option.bind_some, if_pos rfl, Option.bind_some, hic, Option.bind_some, e4]
        simp only [impl_AddCell.j0, Bool.not_false, if_true]
    | true =>
      rw [hc] at hcell hic
      simp only [Bool.and_eq_true, decide_eq_true_eq] at hc
      obtain ⟨⟨hx0, hx1⟩, hy0, hy1⟩ := hc
      have b1 : edB w h false x y = true := by unfold edB; simp; omega
      have b2 : edB w h false x (y + 1) = true := by unfold edB; simp; omega
      have b3 : edB w h true x y = true := by unfold edB; simp; omega
      have b4 : edB w h true (x + 1) y = true := by unfold edB; simp; omega
      have ex : wrap64 (x + 1) = x + 1 := by unfold wrap64; omega
      have ey : wrap64 (y + 1) = y + 1 := by unfold wrap64; omega
      have m1 := or_figN hM (edP_lt g b1)
      have m2 := or_figN m1 (edP_lt g b2)
      have m3 := or_figN m2 (edP_lt g b3)
      have m4 := or_figN m3 (edP_lt g b4)
      have n := (figN_le g).1
      have p1 := pow_lt60 (show edP w h false x y < 60 by have := edP_lt g b1; omega)
      have p2 := pow_lt60 (show edP w h false x (y + 1) < 60 by have := edP_lt g b2; omega)
      have p3 := pow_lt60 (show edP w h true x y < 60 by have := edP_lt g b3; omega)
      have p4 := pow_lt60 (show edP w h true (x + 1) y < 60 by have := edP_lt g b4; omega)
      have hor := or_four (figMask w h a u) (2 ^ edP w h false x y) (2 ^ edP w h false x (y + 1)) (2 ^ edP w h true x y) (2 ^ edP w h true (x + 1) y)
      refine ⟨w, h, rowA w h ((((figMask w h a u ||| 2 ^ edP w h false x y) ||| 2 ^ edP w h false x (y + 1)) ||| 2 ^ edP w h true x y) ||| 2 ^ edP w h true (x + 1) y), rowU w h ((((figMask w h a u ||| 2 ^ edP w h false x y) ||| 2 ^ edP w h false x (y + 1)) ||| 2 ^ edP w h true x y) ||| 2 ^ edP w h true (x + 1) y), true, ?_, ?_, ?_⟩
      · unfold spec_AddCell.f
        have q1 := fiPut_f g hM 4000001 (by decide) b1
        rw [← hA, ← hU] at q1
        rw [hcell, Option.bind_some, if_pos rfl, q1, Option.bind_some, ey, fiPut_f g m1 4000001 (by decide) b2, Option.bind_some, fiPut_f g m2 4000001 (by decide) b3, Option.bind_some, ex, fiPut_f g m3 4000001 (by decide) b4, Option.bind_some]
      · unfold impl_AddCell.f impl_Figure_grid.f
        rw [IsFigure_f w h a u ha hu _ (by decide), hf, Option.bind_some, if_pos rfl, Option.bind_some, hic, Option.bind_some, e4]
        simp only [impl_AddCell.j0, Bool.not_true, Bool.false_eq_true, if_false]
        unfold impl_Figure_grid.f
        rw [Option.bind_some, set_f hf ha hu _ (by decide), Option.bind_some, Option.bind_some, around_one g _ (by decide) x y hx0 hx1 hy0 hy1, Option.bind_some, or_u64 _ _ hM60 (Nat.or_lt_two_pow (Nat.or_lt_two_pow p1 p2) (Nat.or_lt_two_pow p3 p4)), ← hor, figure_f g m4, Option.bind_some]
      · have := rowA_len g ((((figMask w h a u ||| 2 ^ edP w h false x y) ||| 2 ^ edP w h false x (y + 1)) ||| 2 ^ edP w h true x y) ||| 2 ^ edP w h true (x + 1) y)
        have := rowU_len g ((((figMask w h a u ||| 2 ^ edP w h false x y) ||| 2 ^ edP w h false x (y + 1)) ||| 2 ^ edP w h true x y) ||| 2 ^ edP w h true (x + 1) y)
        omega

end Go.Proofs.YtjnajeplfgdklaaDoor.P


/- What the row's listed variable, math/bits' table, gives a walk; a world in which it is laid. -/
namespace Go.Proofs.YtjnajeplfgdklaaDoor.Laid
open Go.RowKit
theorem mapM_at {α β : Type} {f : α → Option β} : ∀ {l : List α} {xs : List β}, l.mapM f = some xs → ∀ (j : Nat) (x : α), l[j]? = some x → ∃ y, xs[j]? = some y ∧ f x = some y
  | [], xs, _, j, x, hj => by simp at hj
  | a :: l, xs, h, j, x, hj => by
    rw [List.mapM_cons] at h
    obtain ⟨y, hy, h⟩ := Option.bind_eq_some_iff.1 h
    obtain ⟨ys, hys, h⟩ := Option.bind_eq_some_iff.1 h
    obtain rfl := Option.some.inj h
    cases j with
    | zero => simp at hj; subst hj; exact ⟨y, rfl, hy⟩
    | succ j => exact mapM_at hys j x (by simpa using hj)
theorem int_of_trod {H : Type} {enc : TypeId × Value → H} {P : Program} {w : World} {base : Nat} {sp : Nat → Bool} {held : Bool} {fuel : Nat} {t : TypeId} {k : IntKind} {c : Value} {y : DataW H × List MemPlace}
    (ht : P.underlying t = some (.int k)) (h : DataW.trod enc P w base sp held fuel t [c] = some y) : ∃ n, c = .int k n ∧ y = (.lit (.int k n), []) := by
  cases fuel with
  | zero => simp [DataW.trod] at h
  | succ fuel =>
    cases c <;> simp [DataW.trod, ht] at h
    rename_i k' n
    obtain ⟨⟨rfl, _⟩, rfl⟩ := h
    exact ⟨n, rfl, rfl⟩
theorem bytes_of_trod {H : Type} {enc : TypeId × Value → H} {P : Program} {w : World} {base : Nat} {sp : Nat → Bool} {held : Bool} {fuel n : Nat} {t e : TypeId} {l : List Value} {tab : List Nat} {ps : List MemPlace} (ht : P.underlying t = some (.array n e)) (he : P.underlying e = some (.int .u8)) (h1 : P.cellsOf t = n) (h2 : P.cellsOf e = 1)
    (h : DataW.trod enc P w base sp held fuel t l = some (.agg (tab.map fun k : Nat => .lit (.int .u8 (k : Int))), ps)) (j : Nat) (hj : j < n) : l[j]? = some (.int .u8 ((tab.getD j 0 : Nat) : Int)) := by
  cases fuel with
  | zero => simp [DataW.trod] at h
  | succ fuel =>
    simp only [DataW.trod, ht, h1, h2] at h
    split at h
    · rename_i hl
      obtain ⟨xs, hxs, hy⟩ := Option.map_eq_some_iff.1 h
      obtain ⟨y, hyj, hf⟩ := mapM_at hxs j j (by rw [List.getElem?_range hj])
      obtain ⟨c, hc⟩ : ∃ c, l[j]? = some c := ⟨l[j]'(by omega), List.getElem?_eq_getElem _⟩
      rw [Nat.mul_one, show (l.drop j).take 1 = [c] from by rw [List.drop_eq_getElem_cons (by omega)]; rw [List.getElem?_eq_getElem (by omega)] at hc; injection hc with hc; rw [hc]; rfl] at hf
      obtain ⟨m, rfl, rfl⟩ := int_of_trod he hf
      have h3 := (Prod.mk.inj hy).1
      injection h3 with h3
      have h4 := congrArg (fun q => q[j]?) h3
      simp only [List.getElem?_map, hyj, Option.map_some] at h4
      rw [hc, List.getD_eq_getElem?_getD]
      cases ht2 : tab[j]? with
      | none => rw [ht2] at h4; cases h4
      | some q =>
        rw [ht2] at h4
        simp at h4
        rw [h4]; rfl
    · cases h
theorem gnum : Tryd.prog.globalNamed "math/bits.deBruijn64tab" = some 0 := by kernel_rfl
theorem gtype : (Tryd.prog.globals[0]?).map (·.type) = some 113 := by kernel_rfl
theorem cellsT : Tryd.prog.cellsOf 113 = 64 := by kernel_rfl
theorem cellsE : Tryd.prog.cellsOf 5 = 1 := by kernel_rfl
theorem tabIs : (Rows.laid_math_bits_deBruijn64tab : DataW Unit) = .agg (Lib.deBruijn64tab.map fun k => .lit (.int .u8 ((k : Nat) : Int))) := by rfl
theorem plain (w : World) : laidMetH Tryd.prog [("math/bits.deBruijn64tab", Rows.laid_math_bits_deBruijn64tab)] w → laidMet Tryd.prog [("math/bits.deBruijn64tab", Rows.laid_math_bits_deBruijn64tab)] w := fun h => h
theorem tb {W : World} (h : laidMetH Tryd.prog [("math/bits.deBruijn64tab", Rows.laid_math_bits_deBruijn64tab)] W) : P.TB W := by
  obtain ⟨ps, ⟨g, t, cs, fuel, p, q, hg, ht, hvar, hd, _, _⟩, _⟩ := plain W h
  obtain rfl := Option.some.inj (gnum.symm.trans hg)
  obtain rfl := Option.some.inj (gtype.symm.trans ht)
  intro j hj
  rw [World.var?_cell hg hvar j]
  rw [tabIs] at hd
  have := bytes_of_trod Tryd.underlying113 Tryd.underlying5 cellsT cellsE hd j hj
  rw [← Array.getElem?_toList]
  exact this
def cells64 : Array Value := (Lib.deBruijn64tab.map fun k => Value.int .u8 ((k : Nat) : Int)).toArray
noncomputable def laidWorld (os : Os) : World :=
  { World.holding Tryd.prog os ⟨#[], #[], []⟩ with heap := (World.holding Tryd.prog os ⟨#[], #[], []⟩).heap.modify 0 fun
      | .cells _ t frozen => .cells cells64 t frozen
      | o => o }
set_option maxRecDepth 100000 in
theorem laidWorld_met (os : Os) (args : Array Value) : laidMetH Tryd.prog [("math/bits.deBruijn64tab", Rows.laid_math_bits_deBruijn64tab)] ((laidWorld os).forCall (fun _ _ => 0) ⟨#[], args, []⟩).memory :=
  laidMetH_of_parts (laidMet_of_run' 8 (by kernel_rfl) (by kernel_rfl)) (by kernel_rfl)
end Go.Proofs.YtjnajeplfgdklaaDoor.Laid


namespace Go.Proofs.YtjnajeplfgdklaaDoor.fnExactAddCell
open Go.ChangeShapes Go.WideShapes Go.ChangeAt Go.RowKit Go.Proofs.YtjnajeplfgdklaaDoorW.PrintWords Go.Joins
set_option linter.unusedVariables false
theorem own : ownKnob Tryd.prog.godebug = none := Closed.own
theorem laidOut : laidOutB Tryd.prog = true := Closed.laidOut
def IsRow (k : IntKind) (w : World) (a : Option Addr) (len cap : Nat) (zs : List Int) : Prop :=
  (a = none ∧ len = 0 ∧ cap = 0 ∧ zs = []) ∨
  ∃ x, a = some x ∧ len ≤ cap ∧ cap ≤ maxLen ∧ zs.length = cap ∧ (∀ i, i < zs.length → w.cell? (x.add i) = some (.int k (zs.getD i 0))) ∧ ∀ n ∈ zs, (Lit.int k n).wf = true
theorem opened {H : Type} {enc : TypeId × Value → H} {W : World} {m : Nat} {c : Value} {y : DataW H × List MemPlace} (hy : DataW.trod enc Tryd.prog W 0 (fun _ => true) true m 22 [c] = some y) :
    ∃ a len cap zs, c = .slice a len cap ∧ IsRow .i64 W a len cap zs := by
  rcases open_ints Tryd.underlying22 Tryd.underlying3 (by kernel_rfl) hy with ⟨hcs, _⟩ | ⟨x, l, c, zs, hcs, _, hl, hm, hz, _, hcell, hwz⟩
  · simp at hcs
    exact ⟨none, 0, 0, [], hcs, .inl ⟨rfl, rfl, rfl, rfl⟩⟩
  · simp at hcs
    exact ⟨some x, l, c, zs, hcs, .inr ⟨_, rfl, hl, hm, by simpa using hz, hcell, hwz⟩⟩
theorem walk (a b : Int) (A2 : Option Addr) (n2 c2 : Nat) (z2 : List Int) (A3 : Option Addr) (n3 c3 : Nat) (z3 : List Int) (x1 : Int) (x2 : Int) (w : World) (w2 : IsRow .i64 w A2 n2 c2 z2) (w3 : IsRow .i64 w A3 n3 c3 z3) (y2 : n2 * 8 ≤ 140737488351232) (y3 : n3 * 8 ≤ 140737488351232) (hT : P.TB w) :
    Calls Tryd.prog 4 #[.agg #[.int .i64 a, .int .i64 b, .slice A2 n2 c2, .slice A3 n3 c3], .int .i64 x1, .int .i64 x2] w fun e w' => e = .returned (.bool true) ∧ Below w.heap.size w w' := by
  obtain ⟨l2, rfl, hr2, hm2, hw2, hc2⟩ := ReadsInt.ofRowC w2
  obtain ⟨l3, rfl, hr3, hm3, hw3, hc3⟩ := ReadsInt.ofRowC w3
  have k2 := Kd.C_of_reads (d := (0 : Int)) (h1 := fun _ => rfl) hr2
  have k3 := Kd.C_of_reads (d := (0 : Int)) (h1 := fun _ => rfl) hr3
  by_cases hbig : l2.length + l3.length ≤ 1000000
  · have b2 : l2.length ≤ 1000000 := Nat.le_trans (Nat.le_add_right _ _) hbig
    have b3 : l3.length ≤ 1000000 := Nat.le_trans (Nat.le_add_left _ _) hbig
    obtain ⟨r0, r1, L2, L3, r2, hp1, hp2, hp3⟩ := P.AddCell_pure (w := a) (h := b) (a := l2) (u := l3) b2 b3 x1 x2
    exact P.law_AddCell_yes a b A2 c2 l2 A3 c3 l3 x1 x2 4000001 r0 r1 L2 L3 r2 P.TB (fun _ _ h hb => h.below hb) w k2 hc2 k3 hc3 hT hbig hp3 (Nat.lt_succ_self _)
      (fun B2 d2 B3 d3 W hu2 hd2 hu3 hd3 hG => P.spec_AddCell.calls 4000001 a b B2 d2 l2 B3 d3 l3 x1 x2 r0 r1 L2 L3 r2 W hu2 hd2 hu3 hd3 hp1)
      (fun B2 d2 B3 d3 W hu2 hd2 hu3 hd3 hG => P.impl_AddCell.calls 4000001 a b B2 d2 l2 B3 d3 l3 x1 x2 r0 r1 L2 L3 r2 W hu2 hd2 hu3 hd3 hG hp2)
  · exact P.law_AddCell_no a b A2 c2 l2 A3 c3 l3 x1 x2 w k2 hc2 k3 hc3 (by clear hbig; omega) (by clear hbig; omega) hbig
theorem joined_mk (P : Program) (f : FuncId) (fn : Func) (s : ChangeSpec) (c : OpenClaim) (k0 : (c.wf (OpenSpec.ofChange s)) = true) (k1 : (laidOutB P) = true) (k2 : (mapsRowed P) = true) (k3 : (fn.params.all (P.readableRec ·)) = true) (k4 : (namedTie P c.named s.vars) = true) (k5 : ((c.stops == [])) = true) (k6 : ((P.stops == [])) = true) (k7 : ((c.knobs == [])) = true) (k8 : ((P.stopKnobs == [])) = true) (k9 : ((c.inPlace == P.inPlace f)) = true) (k10 : ((c.unfollowed == P.unfollowed f)) = true) (k11 : ((c.recurses == P.recurses f)) = true) (k12 : ((c.named == P.varsNamed f)) = true) (k13 : ((c.maps == (fn.params.toList ++ s.plain.varTypes P).any (P.mapsRec ·))) = true) (k14 : ((c.ifaces == (fn.params.toList ++ s.plain.varTypes P).any (P.ifacesRec ·))) = true) (k15 : ((c.mapsOut == P.mapsAmong fn.resultTypes.toList)) = true) (k16 : ((c.loops == (fn.params.toList ++ s.plain.varTypes P).any (P.loopsFrom ·))) = true) (k17 : ((c.wideKeys == (fn.params.toList ++ s.plain.varTypes P ++ fn.resultTypes.toList).any (P.wideKeysFrom ·))) = true) (k18 : (s.vars.all (P.varReadable ·)) = true) (k19 : (fn.resultTypes.all (fun t => P.readableRec t && decide (t < P.types.size))) = true) (k20 : ((c.ifacesOut == fn.resultTypes.toList.any (P.ifacesRec ·))) = true) (k21 : ((c.loopsOut == fn.resultTypes.toList.any (P.loopsFrom ·))) = true) (k22 : ((c.plainKeys == P.plainKeys)) = true) (k23 : (c.shortTexts.isNone) = true) (k24 : (P.stopsHeard) = true) (k25 : (P.mayEnter) = true) (k26 : ((c.lifted == P.liftsFinal)) = true) (k27 : ((P.make == some c.make)) = true) (hd : c.domain.isEmpty = true) (k28 : (c.kinds == []) = true) (k29 : ((c.pinned == c.pinnedBy)) = true) (k30 : ((c.veiled == (fn.params.toList ++ s.plain.varTypes P ++ fn.resultTypes.toList).any (P.veiledRec ·))) = true) (k31 : (c.veiledFits P fn.params.toList (fn.params.toList ++ s.plain.varTypes P ++ fn.resultTypes.toList)) = true) : joinedFacts P f fn s c = true := by
  unfold joinedFacts
  simp only [hd, if_true, k0, k1, k2, k3, k4, k5, k6, k7, k8, k9, k10, k11, k12, k13, k14, k15, k16, k17, k18, k19, k20, k21, k22, k23, k24, k25, k26, k27, k28, k29, k30, k31, Bool.and_self]
abbrev LAID : List (String × DataW Unit) := [("math/bits.deBruijn64tab", Rows.laid_math_bits_deBruijn64tab)]
set_option maxRecDepth 100000 in
theorem lifted (os : Os) (started : os.Started) (H : Type) (enc : TypeId × Value → H) :
    ReturnsInHanded {} Tryd.checked os 4 .any (fun w args => (Rows.fnExactAddCellSpec.pre enc Tryd.prog Tryd.f4 [] false w args ∧ laidMetH Tryd.prog LAID w) ∧ sizedMet enc Tryd.prog Tryd.f4 (OpenSpec.ofChange Rows.fnExactAddCellSpec) false w args) (Rows.fnExactAddCellSpec.post enc Tryd.prog Tryd.f4 false true false false) := by
  refine returnsInHanded_of_change_and (C := Tryd.checked) (X := fun w _ => laidMetH Tryd.prog LAID w) (fun _ _ _ hh h => h.of_heap hh) own started (by kernel_rfl) Tryd.func4 (ChangeSpec.witness_at (enc := enc) (C := Tryd.checked) (os := os) (X := fun w _ => laidMetH Tryd.prog LAID w) false (Laid.laidWorld os) #[.agg #[.int .i64 0, .int .i64 0, .slice none 0 0, .slice none 0 0], .int .i64 0, .int .i64 0] 8 rfl (by kernel_rfl) (by kernel_rfl) (by kernel_rfl) (by kernel_rfl) (by kernel_rfl) (Laid.laidWorld_met os _)) ?_
  intro W base args ds gs before hval0 hW hcnd hsz0 hL _
  have hT : P.TB W := Laid.tb hL
  have hsz : (DataW.weightsEach Tryd.prog (Tryd.f4.params.toList ++ Rows.fnExactAddCellSpec.plain.varTypes Tryd.prog) (ds ++ gs)).all (· ≤ reachBytes) = true := hsz0
  have hval : ∀ (j : Nat) t v, Tryd.f4.params[j]? = some t → args[j]? = some v → Value.okWide Tryd.prog W .any base t v := hval0
  have hW' := hW
  obtain ⟨p, q, hA0, hV, rfl, hfz, hnd⟩ := hW
  have hA : DataW.TrodAll enc Tryd.prog W 0 (fun _ => true) true Tryd.f4.params.toList args.toList ds p := hA0
  rw [Tryd.params4] at hA hval hsz
  obtain ⟨v0, vs0, d0, ds0, p0, q0, hargs, rfl, rfl, h0, r0⟩ := trodAll_cons hA
  obtain ⟨v1, vs1, d1, ds1, p1, q1, rfl, rfl, rfl, h1, r1⟩ := trodAll_cons r0
  obtain ⟨v2, vs2, d2, ds2, p2, q2, rfl, rfl, rfl, h2, r2⟩ := trodAll_cons r1
  obtain ⟨rfl, rfl, rfl⟩ := trodAll_nil r2
  obtain rfl : args = #[v0, v1, v2] := by cases args; simp_all
  obtain ⟨rfl, rfl⟩ := trodVars_none hV
  have k0 := h0
  have lt0 : ∀ x ∈ p0, x.block < W.heap.size := by obtain ⟨m, hm⟩ := k0; exact DataW.trod_lt m _ _ _ hm
  obtain ⟨x1, rfl, rfl, rfl, wf1⟩ := open_int Tryd.underlying3 (hval 1 3 v1 rfl rfl) h1
  obtain ⟨x2, rfl, rfl, rfl, wf2⟩ := open_int Tryd.underlying3 (hval 2 3 v2 rfl rfl) h2
  obtain ⟨c0, c1, c2, c3, y0, y1, y2, y3, m, rfl, rfl, rfl, hy0, hy1, hy2, hy3⟩ := open_agg4 Tryd.underlying24 (by kernel_rfl) (by kernel_rfl) (hval 0 24 v0 rfl rfl) h0
  have hsz2 : (DataW.weightsEach Tryd.prog [3, 3, 22, 22] [y0.1, y1.1, y2.1, y3.1]).all (· ≤ reachBytes) = true := by
    rw [List.all_eq_true]
    intro n hn
    exact List.all_eq_true.1 hsz n (DataW.weights_mem_each (j := 0) (t := 24) (d := .agg [y0.1, y1.1, y2.1, y3.1]) rfl rfl n (by simp only [DataW.weights, Tryd.underlying24]; exact hn))
  obtain ⟨a, e0, -, wa⟩ := DataW.trod_int Tryd.underlying3 hy0
  obtain ⟨b, e1, -, wb⟩ := DataW.trod_int Tryd.underlying3 hy1
  obtain ⟨a2, len2, cap2, z2, rfl, w2⟩ := opened hy2
  obtain ⟨a3, len3, cap3, z3, rfl, w3⟩ := opened hy3
  have z2_ : len2 * 8 ≤ 140737488351232 := sized_ints hsz2 (j := 2) (t := 22) rfl rfl Tryd.underlying22 Tryd.underlying3 (by kernel_rfl) (by kernel_rfl) (⟨m, by simpa [Value.cells] using hy2⟩ : DataW.Trod enc Tryd.prog W 0 (fun _ => true) true 22 (.slice a2 len2 cap2) y2.1 y2.2)
  have z3_ : len3 * 8 ≤ 140737488351232 := sized_ints hsz2 (j := 3) (t := 22) rfl rfl Tryd.underlying22 Tryd.underlying3 (by kernel_rfl) (by kernel_rfl) (⟨m, by simpa [Value.cells] using hy3⟩ : DataW.Trod enc Tryd.prog W 0 (fun _ => true) true 22 (.slice a3 len3 cap3) y3.1 y3.2)
  obtain rfl : c0 = .int .i64 a := by simpa using e0
  obtain rfl : c1 = .int .i64 b := by simpa using e1
  clear hA0 hval0 hsz0 hsz hsz2
  refine (walk a b a2 len2 cap2 z2 a3 len3 cap3 z3 x1 x2 W w2 w3 z2_ z3_ hT).mono fun e W' ⟨he, bel⟩ => ?_
  subst he
  exact ⟨_, rfl, _, _, _, [], _, [], hW', trodAll_mk1 (shut_bool Tryd.underlying4 _), (trodAll_cons_mk (Below.trod laidOut (by kernel_rfl) (of_decide_eq_true (by kernel_rfl)) k0 bel lt0) (trodAll_cons_mk (shut_int Tryd.underlying3 wf1) (trodAll_cons_mk (shut_int Tryd.underlying3 wf2) trodAll_mk0))), rfl, bel.frame _, fun h => by cases h⟩
theorem k0_ : (Rows.fnExactAddCellRow.wf (OpenSpec.ofChange Rows.fnExactAddCellSpec)) = true := by kernel_rfl
theorem k1_ : (laidOutB Tryd.prog) = true := Closed.laidOut
theorem k2_ : (mapsRowed Tryd.prog) = true := Closed.mapsRowedP
theorem k3_ : (Tryd.f4.params.all (Tryd.prog.readableRec ·)) = true := by kernel_rfl
theorem k4_ : (namedTie Tryd.prog Rows.fnExactAddCellRow.named Rows.fnExactAddCellSpec.vars) = true := by kernel_rfl
theorem k5_ : ((Rows.fnExactAddCellRow.stops == [])) = true := by kernel_rfl
theorem k6_ : ((Tryd.prog.stops == [])) = true := Closed.noStops
theorem k7_ : ((Rows.fnExactAddCellRow.knobs == [])) = true := by kernel_rfl
theorem k8_ : ((Tryd.prog.stopKnobs == [])) = true := Closed.noKnobs
theorem k9_ : ((Rows.fnExactAddCellRow.inPlace == Tryd.prog.inPlace 4)) = true := by kernel_rfl
theorem k10_ : ((Rows.fnExactAddCellRow.unfollowed == Tryd.prog.unfollowed 4)) = true := by kernel_rfl
theorem k11_ : ((Rows.fnExactAddCellRow.recurses == Tryd.prog.recurses 4)) = true := by kernel_rfl
theorem k12_ : ((Rows.fnExactAddCellRow.named == Tryd.prog.varsNamed 4)) = true := by kernel_rfl
theorem k13_ : ((Rows.fnExactAddCellRow.maps == (Tryd.f4.params.toList ++ Rows.fnExactAddCellSpec.plain.varTypes Tryd.prog).any (Tryd.prog.mapsRec ·))) = true := by kernel_rfl
theorem k14_ : ((Rows.fnExactAddCellRow.ifaces == (Tryd.f4.params.toList ++ Rows.fnExactAddCellSpec.plain.varTypes Tryd.prog).any (Tryd.prog.ifacesRec ·))) = true := by kernel_rfl
theorem k15_ : ((Rows.fnExactAddCellRow.mapsOut == Tryd.prog.mapsAmong Tryd.f4.resultTypes.toList)) = true := by kernel_rfl
theorem k16_ : ((Rows.fnExactAddCellRow.loops == (Tryd.f4.params.toList ++ Rows.fnExactAddCellSpec.plain.varTypes Tryd.prog).any (Tryd.prog.loopsFrom ·))) = true := by kernel_rfl
theorem k17_ : ((Rows.fnExactAddCellRow.wideKeys == (Tryd.f4.params.toList ++ Rows.fnExactAddCellSpec.plain.varTypes Tryd.prog ++ Tryd.f4.resultTypes.toList).any (Tryd.prog.wideKeysFrom ·))) = true := by kernel_rfl
theorem k18_ : (Rows.fnExactAddCellSpec.vars.all (Tryd.prog.varReadable ·)) = true := by kernel_rfl
theorem k19_ : (Tryd.f4.resultTypes.all (fun t => Tryd.prog.readableRec t && decide (t < Tryd.prog.types.size))) = true := by kernel_rfl
theorem k20_ : ((Rows.fnExactAddCellRow.ifacesOut == Tryd.f4.resultTypes.toList.any (Tryd.prog.ifacesRec ·))) = true := by kernel_rfl
theorem k21_ : ((Rows.fnExactAddCellRow.loopsOut == Tryd.f4.resultTypes.toList.any (Tryd.prog.loopsFrom ·))) = true := by kernel_rfl
theorem k22_ : ((Rows.fnExactAddCellRow.plainKeys == Tryd.prog.plainKeys)) = true := by kernel_rfl
theorem k23_ : (Rows.fnExactAddCellRow.shortTexts.isNone) = true := by kernel_rfl
theorem k24_ : (Tryd.prog.stopsHeard) = true := Closed.stopsHeard
theorem k25_ : (Tryd.prog.mayEnter) = true := Closed.mayEnter
theorem k26_ : ((Rows.fnExactAddCellRow.lifted == Tryd.prog.liftsFinal)) = true := by rw [Closed.liftsFinal]; kernel_rfl
theorem k27_ : ((Tryd.prog.make == some Rows.fnExactAddCellRow.make)) = true := by rw [Closed.make]; kernel_rfl
theorem k28_ : ((Rows.fnExactAddCellRow.kinds == [])) = true := by kernel_rfl
theorem k29_ : ((Rows.fnExactAddCellRow.pinned == Rows.fnExactAddCellRow.pinnedBy)) = true := by kernel_rfl
theorem k30_ : ((Rows.fnExactAddCellRow.veiled == (Tryd.f4.params.toList ++ Rows.fnExactAddCellSpec.plain.varTypes Tryd.prog ++ Tryd.f4.resultTypes.toList).any (Tryd.prog.veiledRec ·))) = true := by kernel_rfl
theorem k31_ : (Rows.fnExactAddCellRow.veiledFits Tryd.prog Tryd.f4.params.toList (Tryd.f4.params.toList ++ Rows.fnExactAddCellSpec.plain.varTypes Tryd.prog ++ Tryd.f4.resultTypes.toList)) = true := by kernel_rfl
theorem k99_ : (Rows.fnExactAddCellRow.domain.isEmpty) = true := by kernel_rfl
theorem closed : joinedFacts Tryd.prog 4 Tryd.f4 Rows.fnExactAddCellSpec Rows.fnExactAddCellRow = true :=
  joined_mk _ _ _ _ _ k0_ k1_ k2_ k3_ k4_ k5_ k6_ k7_ k8_ k9_ k10_ k11_ k12_ k13_ k14_ k15_ k16_ k17_ k18_ k19_ k20_ k21_ k22_ k23_ k24_ k25_ k26_ k27_ k99_ k28_ k29_ k30_ k31_
theorem over : Rows.fnExactAddCellRow.holds Tryd.pinned (OpenSpec.ofChange Rows.fnExactAddCellSpec) :=
  OpenClaim.holds_of_wide 4 Tryd.f4 rfl rfl rfl rfl rfl rfl rfl ⟨rfl, rfl, rfl, rfl, rfl⟩ rfl rfl rfl rfl rfl (by kernel_rfl) Tryd.func4 closed
    (of_decide_eq_true (by kernel_rfl)) (by unfold Func.isWrapper; first | (rw [if_pos (by decide +kernel)]; kernel_rfl) | (rw [if_neg (by decide +kernel)]; exact ⟨rfl, rfl⟩))
    (fun os started H enc _ => lifted os started H enc)
theorem card : Rows.FnExactAddCellCardSaid :=
  Claim7.holds_tied_plain_at .later [] [.data] true (true, "881df8fd4cc24539997f6b0e4a4c9c78cd9d90516025012de697bc07ffd4fb01") false
    over (fun _ h => by cases h) (by kernel_rfl) (fun _ h => by cases h) fnExactAddCell_row_tie rfl ⟨rfl, rfl⟩ (by kernel_rfl) rfl
    (fun f fn hf hfn => by
      obtain rfl : f = 4 := Option.some.inj ((show Tryd.prog.funcNamed "loop.example/g01233/laws.FnExactAddCell" = some 4 by kernel_rfl).symm.trans hf) |>.symm
      obtain rfl : fn = Tryd.f4 := (Option.some.inj (Tryd.func4.symm.trans hfn)).symm
      exact ⟨by kernel_rfl, fun j t ht => by
        rw [Tryd.params4] at ht
        have h3 : t = 24 ∨ t = 3 ∨ t = 4 := by
          rcases j with _ | _ | _ | _ | _ | j
          all_goals first | (left; simpa using ht.symm) | (right; left; simpa using ht.symm) | (right; right; simpa using ht.symm) | simp at ht
        rcases h3 with rfl | rfl | rfl
        · exact (show Tryd.prog.wantsStandIn 24 = false by kernel_rfl)
        · exact (show Tryd.prog.wantsStandIn 3 = false by kernel_rfl)
        · exact (show Tryd.prog.wantsStandIn 4 = false by kernel_rfl)⟩)
    (by kernel_rfl)
end Go.Proofs.YtjnajeplfgdklaaDoor.fnExactAddCell
namespace Go.Proofs.YtjnajeplfgdklaaDoor
theorem fnExactAddCell_holds : Rows.FnExactAddCellCardSaid := fnExactAddCell.card
end Go.Proofs.YtjnajeplfgdklaaDoor

