/- For every input the law FnExactParseFigure answers true: the program's ParseFigure tells what the reference's ParseFigure tells; no condition. (part 3 of the proof; the words of the kit's print tool and the texts of this seat, merged by a program) -/
import Derived.Below
import Derived.ChangeOld
import Derived.FnData
import Derived.Handed
import Derived.JoinedOf
import Derived.LaidHandle
import Derived.LaidLaws
import Derived.Lib.CountLaws
import Derived.Lib.Join
import Derived.Lib.SmallJoins
import Derived.Lib.SplitLaws
import Derived.OpenShut
import Derived.ProofKit
import Derived.SevenTiedAt
import Derived.Shelf.Vars
import Derived.ShutString
import Derived.SizedLaws
import Derived.Test.YtehjfaddhmdicaaDoorCards
import Derived.Test.YtehjfaddhmdicaaDoorClosed
import Derived.Test.YtehjfaddhmdicaaDoorRows
import Derived.Test.YtehjfaddhmdicaaDoorTie
import Derived.WalkKit
import Derived.Test.YtehjfaddhmdicaaDoorMPF2
namespace Go.Proofs.YtehjfaddhmdicaaDoor.P
open Go.RowKit Go.Proofs.YtehjfaddhmdicaaDoorW.PrintWords Go.Proofs.YtehjfaddhmdicaaDoorW.PrintLast Go.Proofs.YtehjfaddhmdicaaDoorW.PrintMore
attribute [local go_sem] max2_int min2_int max_two min_two max_three min_three max_four min_four   -- for this text's walks alone
set_option linter.unusedVariables false
set_option linter.unusedSimpArgs false

mutual
def laws_FnExactParseFigure.j0 : Nat → ByteArray → Bool → Bool → Int → Int → List Int → List Int → Int → Int → List Int → List Int → Option (Bool)
 | 0, _, _, _, _, _, _, _, _, _, _, _ => none
 | k + 1, x0, x4, x32, x205000, x205001, x205002, x205003, x215000, x215001, x215002, x215003 => if x32 = true then (some false) else ((laws_markFigure.f k x215000 x215001 x215002 x215003 101).bind fun bt216 => ((laws_heldFigure.f k x215000 x215001 bt216.2.1 bt216.2.2 101).bind fun t219 => (if t219 < 0 then (some false) else (if t219 = bt216.1 then ((impl_ParseFigure.f k x0).bind fun bt220 => ((laws_eqFigure.f k bt220.1 bt220.2.1 bt220.2.2.1 bt220.2.2.2.1 x205000 x205001 x205002 x205003).bind fun t230 => (if t230 = true then (laws_FnExactParseFigure.j1 k bt216.1 (bt220.2.2.2.2 != x4) x215000 x215001 bt216.2.1 bt216.2.2) else (laws_FnExactParseFigure.j1 k bt216.1 true x215000 x215001 bt216.2.1 bt216.2.2)))) else (some false)))))
def laws_FnExactParseFigure.j1 : Nat → Int → Bool → Int → Int → List Int → List Int → Option (Bool)
 | 0, _, _, _, _, _, _ => none
 | k + 1, x7, x57, x215000, x215001, x215002, x215003 => if x57 = true then (some false) else ((laws_heldFigure.f k x215000 x215001 x215002 x215003 101).bind fun t231 => (if t231 < 0 then (some false) else (if t231 = x7 then (some true) else (some false))))
end
def laws_FnExactParseFigure.f (k : Nat) (a0 : ByteArray) : Option (Bool) := if (a0.size : Int) > 1000000 then (some true) else ((spec_ParseFigure.f k a0).bind fun bt195 => ((impl_ParseFigure.f k a0).bind fun bt205 => ((laws_eqFigure.f k bt205.1 bt205.2.1 bt205.2.2.1 bt205.2.2.2.1 bt195.1 bt195.2.1 bt195.2.2.1 bt195.2.2.2.1).bind fun t215 => (if t215 = true then (laws_FnExactParseFigure.j0 k a0 bt195.2.2.2.2 (bt205.2.2.2.2 != bt195.2.2.2.2) bt195.1 bt195.2.1 bt195.2.2.1 bt195.2.2.2.1 bt205.1 bt205.2.1 bt205.2.2.1 bt205.2.2.2.1) else (laws_FnExactParseFigure.j0 k a0 bt195.2.2.2.2 true bt195.1 bt195.2.1 bt195.2.2.1 bt195.2.2.2.1 bt205.1 bt205.2.1 bt205.2.2.1 bt205.2.2.2.1)))))
theorem laws_FnExactParseFigure.mono_l : ∀ k, (∀ y0 y1 y2 y3 y4 y5 y6 y7 y8 y9 y10, LeO (laws_FnExactParseFigure.j0 k y0 y1 y2 y3 y4 y5 y6 y7 y8 y9 y10) (laws_FnExactParseFigure.j0 (k + 1) y0 y1 y2 y3 y4 y5 y6 y7 y8 y9 y10)) ∧ (∀ y0 y1 y2 y3 y4 y5, LeO (laws_FnExactParseFigure.j1 k y0 y1 y2 y3 y4 y5) (laws_FnExactParseFigure.j1 (k + 1) y0 y1 y2 y3 y4 y5))
 | 0 => ⟨fun _ _ _ _ _ _ _ _ _ _ _ r h => by simp [laws_FnExactParseFigure.j0] at h, fun _ _ _ _ _ _ r h => by simp [laws_FnExactParseFigure.j1] at h⟩
 | k + 1 => by
  obtain ⟨ih0, ih1⟩ := laws_FnExactParseFigure.mono_l k
  refine ⟨?_, ?_⟩
  ·intro y0 y1 y2 y3 y4 y5 y6 y7 y8 y9 y10
   unfold laws_FnExactParseFigure.j0
   repeat' first
   | (with_reducible exact ih0 _ _ _ _ _ _ _ _ _ _ _)
   | (with_reducible exact ih1 _ _ _ _ _ _)
   | (with_reducible exact impl_ParseFigure.mono _ _)
   | (with_reducible exact laws_eqFigure.mono _ _ _ _ _ _ _ _ _)
   | (with_reducible exact laws_heldFigure.mono _ _ _ _ _ _)
   | (with_reducible exact laws_markFigure.mono _ _ _ _ _ _)
   | (with_reducible exact spec_ParseFigure.mono _ _)
   | (with_reducible exact LeO.refl _)
   | (with_reducible exact LeO.none _)
   | (with_reducible refine LeO.ite ?_ ?_)
   | (with_reducible refine LeO.bind ?_ (fun _ => ?_))
   | exact ih0 _ _ _ _ _ _ _ _ _ _ _
   | exact ih1 _ _ _ _ _ _
   | exact impl_ParseFigure.mono _ _
   | exact laws_eqFigure.mono _ _ _ _ _ _ _ _ _
   | exact laws_heldFigure.mono _ _ _ _ _ _
   | exact laws_markFigure.mono _ _ _ _ _ _
   | exact spec_ParseFigure.mono _ _
   | exact LeO.none _
   | refine LeO.ite ?_ ?_
   | refine LeO.bind ?_ (fun _ => ?_)
  ·intro y0 y1 y2 y3 y4 y5
   unfold laws_FnExactParseFigure.j1
   repeat' first
   | (with_reducible exact ih0 _ _ _ _ _ _ _ _ _ _ _)
   | (with_reducible exact ih1 _ _ _ _ _ _)
   | (with_reducible exact impl_ParseFigure.mono _ _)
   | (with_reducible exact laws_eqFigure.mono _ _ _ _ _ _ _ _ _)
   | (with_reducible exact laws_heldFigure.mono _ _ _ _ _ _)
   | (with_reducible exact laws_markFigure.mono _ _ _ _ _ _)
   | (with_reducible exact spec_ParseFigure.mono _ _)
   | (with_reducible exact LeO.refl _)
   | (with_reducible exact LeO.none _)
   | (with_reducible refine LeO.ite ?_ ?_)
   | (with_reducible refine LeO.bind ?_ (fun _ => ?_))
   | exact ih0 _ _ _ _ _ _ _ _ _ _ _
   | exact ih1 _ _ _ _ _ _
   | exact impl_ParseFigure.mono _ _
   | exact laws_eqFigure.mono _ _ _ _ _ _ _ _ _
   | exact laws_heldFigure.mono _ _ _ _ _ _
   | exact laws_markFigure.mono _ _ _ _ _ _
   | exact spec_ParseFigure.mono _ _
   | exact LeO.none _
   | refine LeO.ite ?_ ?_
   | refine LeO.bind ?_ (fun _ => ?_)
theorem laws_FnExactParseFigure.mono : ∀ a0 k, LeO (laws_FnExactParseFigure.f k a0) (laws_FnExactParseFigure.f (k + 1) a0) := by
 intro a0 k
 obtain ⟨ih0, ih1⟩ := laws_FnExactParseFigure.mono_l k
 unfold laws_FnExactParseFigure.f
 repeat' first
   | (with_reducible exact ih0 _ _ _ _ _ _ _ _ _ _ _)
   | (with_reducible exact ih1 _ _ _ _ _ _)
   | (with_reducible exact impl_ParseFigure.mono _ _)
   | (with_reducible exact laws_eqFigure.mono _ _ _ _ _ _ _ _ _)
   | (with_reducible exact laws_heldFigure.mono _ _ _ _ _ _)
   | (with_reducible exact laws_markFigure.mono _ _ _ _ _ _)
   | (with_reducible exact spec_ParseFigure.mono _ _)
   | (with_reducible exact LeO.refl _)
   | (with_reducible exact LeO.none _)
   | (with_reducible refine LeO.ite ?_ ?_)
   | (with_reducible refine LeO.bind ?_ (fun _ => ?_))
   | exact ih0 _ _ _ _ _ _ _ _ _ _ _
   | exact ih1 _ _ _ _ _ _
   | exact impl_ParseFigure.mono _ _
   | exact laws_eqFigure.mono _ _ _ _ _ _ _ _ _
   | exact laws_heldFigure.mono _ _ _ _ _ _
   | exact laws_markFigure.mono _ _ _ _ _ _
   | exact spec_ParseFigure.mono _ _
   | exact LeO.none _
   | refine LeO.ite ?_ ?_
   | refine LeO.bind ?_ (fun _ => ?_)
set_option maxHeartbeats 8000000 in
set_option maxRecDepth 100000 in
theorem laws_FnExactParseFigure.calls (k : Nat) (a0 : ByteArray) (r : Bool) (w : World) (hT_ : TB w) (h : laws_FnExactParseFigure.f k a0 = some r) :
  Calls Tryd.prog 6 #[.string a0] w fun e w' => e = .returned (.bool r) ∧ Below w.heap.size w w' := by
 have hu36 := Tryd.underlying36
 have HB := Aside0.mk (Below.refl w.heap.size w)
 have HTB := Aside0.mk hT_
 clear hT_
 have H : (if (a0.size : Int) > 1000000 then (some true) else ((spec_ParseFigure.f k a0).bind fun bt195 => ((impl_ParseFigure.f k a0).bind fun bt205 => ((laws_eqFigure.f k bt205.1 bt205.2.1 bt205.2.2.1 bt205.2.2.2.1 bt195.1 bt195.2.1 bt195.2.2.1 bt195.2.2.2.1).bind fun t215 => (if t215 = true then (laws_FnExactParseFigure.j0 k a0 bt195.2.2.2.2 (bt205.2.2.2.2 != bt195.2.2.2.2) bt195.1 bt195.2.1 bt195.2.2.1 bt195.2.2.2.1 bt205.1 bt205.2.1 bt205.2.2.1 bt205.2.2.2.1) else (laws_FnExactParseFigure.j0 k a0 bt195.2.2.2.2 true bt195.1 bt195.2.1 bt195.2.2.1 bt195.2.2.2.1 bt205.1 bt205.2.1 bt205.2.2.1 bt205.2.2.2.1)))))) = some r := h
 clear h
 by_cases c2 : (a0.size : Int) > 1000000
 ·rw [if_pos c2] at H
  have c2b0 : decide (1000000 < (a0.size : Int)) = true := decide_eq_true c2
  have c2b1 : decide (1000000 < a0.size) = true := decide_eq_true (by omega)
  clear c2
  obtain rfl := Option.some.inj H
  go_enter Tryd.func6, Tryd.ntmps6
  go_wp2
  go_ret
  exact ⟨er_, bl0_ HB.out⟩
 ·rw [if_neg c2] at H
  have c2b0 : decide (1000000 < (a0.size : Int)) = false := decide_eq_false c2
  have c2b1 : decide (1000000 < a0.size) = false := decide_eq_false (by omega)
  clear c2
  replace H := Option.bind_eq_some_iff.mp H
  obtain ⟨⟨t195, t196, t197, t200, t203⟩, A30, H⟩ := H
  replace H : ((impl_ParseFigure.f k a0).bind fun bt205 => ((laws_eqFigure.f k bt205.1 bt205.2.1 bt205.2.2.1 bt205.2.2.2.1 t195 t196 t197 t200).bind fun t215 => (if t215 = true then (laws_FnExactParseFigure.j0 k a0 t203 (bt205.2.2.2.2 != t203) t195 t196 t197 t200 bt205.1 bt205.2.1 bt205.2.2.1 bt205.2.2.2.1) else (laws_FnExactParseFigure.j0 k a0 t203 true t195 t196 t197 t200 bt205.1 bt205.2.1 bt205.2.2.1 bt205.2.2.2.1)))) = some r := H
  have A3 := Aside0.mk A30
  clear A30
  replace H := Option.bind_eq_some_iff.mp H
  obtain ⟨⟨t205, t206, t207, t210, t213⟩, A40, H⟩ := H
  replace H : ((laws_eqFigure.f k t205 t206 t207 t210 t195 t196 t197 t200).bind fun t215 => (if t215 = true then (laws_FnExactParseFigure.j0 k a0 t203 (t213 != t203) t195 t196 t197 t200 t205 t206 t207 t210) else (laws_FnExactParseFigure.j0 k a0 t203 true t195 t196 t197 t200 t205 t206 t207 t210))) = some r := H
  have A4 := Aside0.mk A40
  clear A40
  have HC5 := Aside0.mk H
  clear H
  go_enter Tryd.func6, Tryd.ntmps6
  go_upto_region 5 with (first | ((with_reducible refine gate_callee (f := 21) rfl ?_); refine goesL_ (some 16) rfl rfl Tryd.func21 (by kernel_rfl) rfl #[.string a0] rfl ob_ ?_; (with_reducible refine (spec_ParseFigure.calls k a0 t195 t196 t197 t200 t203 _ A3.out).mono ?_); rintro e w6 ⟨v198, v201, rfl, ho0, ho1, hb⟩; refine ⟨_, rfl, ?_⟩; have n0_ := Aside0.mk (Kd.R_lower ho0 (below_size (bl0_ HB.out))); have n1_ := Aside0.mk (Kd.R_lower ho1 (below_size (bl0_ HB.out))); have n2_ := Aside0.mk (below_step (bl0_ HB.out) hb); clear HB; have HO199 := n0_; have HO202 := n1_; have HB := n2_; clear n0_ n1_ n2_; (try clear hb); (try clear hb2); (try clear hk); (try clear hi); (try clear ho0); (try clear ho1)) | ((with_reducible refine gate_dst (N := 3) rfl ?_); refine boxE_ (N := 3) (cs := #[.int .i64 0, .int .i64 0, .slice none 0 0, .slice none 0 0]) (t := 36) ?_; intro gb204 hg w7 hbox hb; have n0_ := Aside0.mk (Kd.R_below (kr_ HO199.out) hb); have n1_ := Aside0.mk (Kd.R_below (kr_ HO202.out) hb); have n2_ := Aside0.mk (below_step (bl0_ HB.out) hb); have n3_ := Aside0.mk (hbox); have n4_ := Aside0.mk ((bs0_ hg HB.out : w.heap.size ≤ gb204)); have n5_ := Aside0.mk ((bs0_ hg HB.out : w.heap.size ≤ gb204)); clear HO199; clear HO202; clear HB; have HO199 := n0_; have HO202 := n1_; have HB := n2_; have BK204 := n3_; have GW204 := n4_; have GE204 := n5_; clear n0_ n1_ n2_ n3_ n4_ n5_; clear hb hbox hg; have hcz8_0 : w7.cell? ⟨gb204, 0, none⟩ = some (.int .i64 0) := (blk_cell BK204.out 0).trans rfl; have hcz8_1 : w7.cell? ⟨gb204, 1, none⟩ = some (.int .i64 0) := (blk_cell BK204.out 1).trans rfl; have hcz8_2 : w7.cell? ⟨gb204, 2, none⟩ = some (.slice none 0 0) := (blk_cell BK204.out 2).trans rfl; have hcz8_3 : w7.cell? ⟨gb204, 3, none⟩ = some (.slice none 0 0) := (blk_cell BK204.out 3).trans rfl; have hfz8_0 := blk_frozen BK204.out 0; have hfz8_1 := blk_frozen BK204.out 1; have hfz8_2 := blk_frozen BK204.out 2; have hfz8_3 := blk_frozen BK204.out 3; obtain ⟨Ao9, co9, eo9⟩ := Kd.R_slice HO199.out; subst eo9; obtain ⟨Ao10, co10, eo10⟩ := Kd.R_slice HO202.out; subst eo10) | ((with_reducible refine gate_callee (f := 22) rfl ?_); refine goesL_ (some 21) rfl rfl Tryd.func22 (by kernel_rfl) rfl #[.string a0] rfl ob_ ?_; (with_reducible refine (impl_ParseFigure.calls k a0 t205 t206 t207 t210 t213 _ (TB.below HTB.out (bl1_ HB.out GE204.out)) A4.out).mono ?_); rintro e w11 ⟨v208, v211, rfl, ho0, ho1, hb⟩; refine ⟨_, rfl, ?_⟩; have n0_ := Aside0.mk (Kd.R_mono (Kd.R_told (Kd.R_told (Kd.R_old (by (with_reducible repeat (first | apply Kd.R_alloc | apply Kd.R_drewN | apply Kd.R_drew)); exact (Kd.R_mono (Kd.R_far (p := ⟨gb204, 3, none⟩) (Kd.R_far (p := ⟨gb204, 2, none⟩) (Kd.R_far (p := ⟨gb204, 1, none⟩) (Kd.R_far (p := ⟨gb204, 0, none⟩) (Kd.R_types HO199.out BK204.out (by decide)) (fun _ hk => hk.2) (.int .i64 t195)) (fun _ hk => hk.2) (.int .i64 t196)) (fun _ hk => hk.2) (.slice Ao9 t197.length co9)) (fun _ hk => hk.2) (.slice Ao10 t200.length co10)) (fun _ h_ => h_.1))) hb) (Kd.R_base ho0)) (Kd.R_base ho1)) (fun _ h_ => h_.1)); have n1_ := Aside0.mk (Kd.R_mono (Kd.R_told (Kd.R_told (Kd.R_old (by (with_reducible repeat (first | apply Kd.R_alloc | apply Kd.R_drewN | apply Kd.R_drew)); exact (Kd.R_mono (Kd.R_far (p := ⟨gb204, 3, none⟩) (Kd.R_far (p := ⟨gb204, 2, none⟩) (Kd.R_far (p := ⟨gb204, 1, none⟩) (Kd.R_far (p := ⟨gb204, 0, none⟩) (Kd.R_types HO202.out BK204.out (by decide)) (fun _ hk => hk.2) (.int .i64 t195)) (fun _ hk => hk.2) (.int .i64 t196)) (fun _ hk => hk.2) (.slice Ao9 t197.length co9)) (fun _ hk => hk.2) (.slice Ao10 t200.length co10)) (fun _ h_ => h_.1))) hb) (Kd.R_base ho0)) (Kd.R_base ho1)) (fun _ h_ => h_.1)); have n2_ := Aside0.mk (Kd.R_lower (Kd.R_new' (Kd.R_new' ho0 (Kd.R_lt (by (with_reducible repeat (first | apply Kd.R_alloc | apply Kd.R_drewN | apply Kd.R_drew)); exact (Kd.R_mono (Kd.R_far (p := ⟨gb204, 3, none⟩) (Kd.R_far (p := ⟨gb204, 2, none⟩) (Kd.R_far (p := ⟨gb204, 1, none⟩) (Kd.R_far (p := ⟨gb204, 0, none⟩) (Kd.R_types HO199.out BK204.out (by decide)) (fun _ hk => hk.2) (.int .i64 t195)) (fun _ hk => hk.2) (.int .i64 t196)) (fun _ hk => hk.2) (.slice Ao9 t197.length co9)) (fun _ hk => hk.2) (.slice Ao10 t200.length co10)) (fun _ h_ => h_.1))))) (Kd.R_lt (by (with_reducible repeat (first | apply Kd.R_alloc | apply Kd.R_drewN | apply Kd.R_drew)); exact (Kd.R_mono (Kd.R_far (p := ⟨gb204, 3, none⟩) (Kd.R_far (p := ⟨gb204, 2, none⟩) (Kd.R_far (p := ⟨gb204, 1, none⟩) (Kd.R_far (p := ⟨gb204, 0, none⟩) (Kd.R_types HO202.out BK204.out (by decide)) (fun _ hk => hk.2) (.int .i64 t195)) (fun _ hk => hk.2) (.int .i64 t196)) (fun _ hk => hk.2) (.slice Ao9 t197.length co9)) (fun _ hk => hk.2) (.slice Ao10 t200.length co10)) (fun _ h_ => h_.1))))) (below_size (bl1_ HB.out GE204.out))); have n3_ := Aside0.mk (Kd.R_lower (Kd.R_new' (Kd.R_new' ho1 (Kd.R_lt (by (with_reducible repeat (first | apply Kd.R_alloc | apply Kd.R_drewN | apply Kd.R_drew)); exact (Kd.R_mono (Kd.R_far (p := ⟨gb204, 3, none⟩) (Kd.R_far (p := ⟨gb204, 2, none⟩) (Kd.R_far (p := ⟨gb204, 1, none⟩) (Kd.R_far (p := ⟨gb204, 0, none⟩) (Kd.R_types HO199.out BK204.out (by decide)) (fun _ hk => hk.2) (.int .i64 t195)) (fun _ hk => hk.2) (.int .i64 t196)) (fun _ hk => hk.2) (.slice Ao9 t197.length co9)) (fun _ hk => hk.2) (.slice Ao10 t200.length co10)) (fun _ h_ => h_.1))))) (Kd.R_lt (by (with_reducible repeat (first | apply Kd.R_alloc | apply Kd.R_drewN | apply Kd.R_drew)); exact (Kd.R_mono (Kd.R_far (p := ⟨gb204, 3, none⟩) (Kd.R_far (p := ⟨gb204, 2, none⟩) (Kd.R_far (p := ⟨gb204, 1, none⟩) (Kd.R_far (p := ⟨gb204, 0, none⟩) (Kd.R_types HO202.out BK204.out (by decide)) (fun _ hk => hk.2) (.int .i64 t195)) (fun _ hk => hk.2) (.int .i64 t196)) (fun _ hk => hk.2) (.slice Ao9 t197.length co9)) (fun _ hk => hk.2) (.slice Ao10 t200.length co10)) (fun _ h_ => h_.1))))) (below_size (bl1_ HB.out GE204.out))); have n4_ := Aside0.mk (blk_below (g := gb204) (o := .cells #[.int .i64 t195, .int .i64 t196, .slice Ao9 t197.length co9, .slice Ao10 t200.length co10] 36 (0, 0)) (by (with_reducible repeat (first | refine blk_drewN ?_ _ | refine blk_drew ?_ | refine blk_alloc ?_ _)); refine blk_put (cs := #[.int .i64 t195, .int .i64 t196, .slice Ao9 t197.length co9, .slice none 0 0]) ?_ 3 _ rfl; (with_reducible repeat (first | refine blk_drewN ?_ _ | refine blk_drew ?_ | refine blk_alloc ?_ _)); refine blk_put (cs := #[.int .i64 t195, .int .i64 t196, .slice none 0 0, .slice none 0 0]) ?_ 2 _ rfl; (with_reducible repeat (first | refine blk_drewN ?_ _ | refine blk_drew ?_ | refine blk_alloc ?_ _)); refine blk_put (cs := #[.int .i64 t195, .int .i64 0, .slice none 0 0, .slice none 0 0]) ?_ 1 _ rfl; (with_reducible repeat (first | refine blk_drewN ?_ _ | refine blk_drew ?_ | refine blk_alloc ?_ _)); refine blk_put (cs := #[.int .i64 0, .int .i64 0, .slice none 0 0, .slice none 0 0]) ?_ 0 _ rfl; (with_reducible repeat (first | refine blk_drewN ?_ _ | refine blk_drew ?_ | refine blk_alloc ?_ _)); exact BK204.out) hb); have n5_ := Aside0.mk (below_step (bl1_ HB.out GE204.out) hb); clear HO199; clear HO202; clear BK204; clear HB; have HO199 := n0_; have HO202 := n1_; have HO209 := n2_; have HO212 := n3_; have BK204 := n4_; have HB := n5_; clear n0_ n1_ n2_ n3_ n4_ n5_; (try clear hb); (try clear hb2); (try clear hk); (try clear hi); (try clear ho0); (try clear ho1)) | ((with_reducible refine gate_dst (N := 5) rfl ?_); refine boxE_ (N := 5) (cs := #[.int .i64 0, .int .i64 0, .slice none 0 0, .slice none 0 0]) (t := 36) ?_; intro gb214 hg w12 hbox hb; have n0_ := Aside0.mk (Kd.R_below (kr_ HO199.out) hb); have n1_ := Aside0.mk (Kd.R_below (kr_ HO202.out) hb); have n2_ := Aside0.mk (Kd.R_below (kr_ HO209.out) hb); have n3_ := Aside0.mk (Kd.R_below (kr_ HO212.out) hb); have n4_ := Aside0.mk (bb_ BK204.out hb); have n5_ := Aside0.mk (below_step (bl1_ HB.out GE204.out) hb); have n6_ := Aside0.mk (hbox); have n7_ := Aside0.mk ((bs1_ hg HB.out GE204.out : w.heap.size ≤ gb214)); have n8_ := Aside0.mk ((bs1_ hg HB.out GE204.out : w.heap.size ≤ gb214)); have n9_ := Aside0.mk ((nl_ hg BK204.out : gb204 ≠ gb214)); have n10_ := Aside0.mk ((ng_ hg BK204.out : gb214 ≠ gb204)); clear HO199; clear HO202; clear HO209; clear HO212; clear BK204; clear HB; have HO199 := n0_; have HO202 := n1_; have HO209 := n2_; have HO212 := n3_; have BK204 := n4_; have HB := n5_; have BK214 := n6_; have GW214 := n7_; have GE214 := n8_; have NB204_214 := n9_; have NB214_204 := n10_; clear n0_ n1_ n2_ n3_ n4_ n5_ n6_ n7_ n8_ n9_ n10_; clear hb hbox hg; have hnb13 := NB214_204.out; have hnc13 := NB204_214.out; have hcz14_0 : w12.cell? ⟨gb214, 0, none⟩ = some (.int .i64 0) := (blk_cell BK214.out 0).trans rfl; have hcz14_1 : w12.cell? ⟨gb214, 1, none⟩ = some (.int .i64 0) := (blk_cell BK214.out 1).trans rfl; have hcz14_2 : w12.cell? ⟨gb214, 2, none⟩ = some (.slice none 0 0) := (blk_cell BK214.out 2).trans rfl; have hcz14_3 : w12.cell? ⟨gb214, 3, none⟩ = some (.slice none 0 0) := (blk_cell BK214.out 3).trans rfl; have hfz14_0 := blk_frozen BK214.out 0; have hfz14_1 := blk_frozen BK214.out 1; have hfz14_2 := blk_frozen BK214.out 2; have hfz14_3 := blk_frozen BK214.out 3; obtain ⟨Ao15, co15, eo15⟩ := Kd.R_slice HO209.out; subst eo15; obtain ⟨Ao16, co16, eo16⟩ := Kd.R_slice HO212.out; subst eo16))
  (try simp only [Act.put, List.setIfInBounds_toArray, List.set_cons_zero, List.set_cons_succ])
  go_cut [32] (fun v32 wc => ∃ (kq : Nat) (x32_4 : Bool), v32 = .bool x32_4 ∧ Aside0 (laws_FnExactParseFigure.j0 kq a0 t203 x32_4 t195 t196 t197 t200 t205 t206 t207 t210 = some r) ∧ Aside0 (kq ≤ k) ∧ Aside0 (Kd.R (Kd.int .i64) 3 wc w.heap.size (fun k_ => some k_ ≠ ((.slice Ao10 t200.length co10) : Value).ownBlock ∧ some k_ ≠ ((.slice Ao15 t207.length co15) : Value).ownBlock ∧ some k_ ≠ ((.slice Ao16 t210.length co16) : Value).ownBlock) (.slice Ao9 t197.length co9) t197) ∧ Aside0 (Kd.R (Kd.int .i64) 3 wc w.heap.size (fun k_ => some k_ ≠ ((.slice Ao9 t197.length co9) : Value).ownBlock ∧ some k_ ≠ ((.slice Ao15 t207.length co15) : Value).ownBlock ∧ some k_ ≠ ((.slice Ao16 t210.length co16) : Value).ownBlock) (.slice Ao10 t200.length co10) t200) ∧ Aside0 (Kd.R (Kd.int .i64) 3 wc w.heap.size (fun k_ => some k_ ≠ ((.slice Ao9 t197.length co9) : Value).ownBlock ∧ some k_ ≠ ((.slice Ao10 t200.length co10) : Value).ownBlock ∧ some k_ ≠ ((.slice Ao16 t210.length co16) : Value).ownBlock) (.slice Ao15 t207.length co15) t207) ∧ Aside0 (Kd.R (Kd.int .i64) 3 wc w.heap.size (fun k_ => some k_ ≠ ((.slice Ao9 t197.length co9) : Value).ownBlock ∧ some k_ ≠ ((.slice Ao10 t200.length co10) : Value).ownBlock ∧ some k_ ≠ ((.slice Ao15 t207.length co15) : Value).ownBlock) (.slice Ao16 t210.length co16) t210) ∧ Aside0 (wc.heap[gb204]? = some (.cells #[.int .i64 t195, .int .i64 t196, (.slice Ao9 t197.length co9), (.slice Ao10 t200.length co10)] 36 (0, 0))) ∧ Aside0 (wc.heap[gb214]? = some (.cells #[.int .i64 t205, .int .i64 t206, (.slice Ao15 t207.length co15), (.slice Ao16 t210.length co16)] 36 (0, 0))) ∧ Aside0 (Below w.heap.size w wc))
  case first =>
   have H := HC5.out
   clear HC5
   replace H := Option.bind_eq_some_iff.mp H
   obtain ⟨t215, A170, H⟩ := H
   replace H : (if t215 = true then (laws_FnExactParseFigure.j0 k a0 t203 (t213 != t203) t195 t196 t197 t200 t205 t206 t207 t210) else (laws_FnExactParseFigure.j0 k a0 t203 true t195 t196 t197 t200 t205 t206 t207 t210)) = some r := H
   have A17 := Aside0.mk A170
   clear A170
   by_cases c18 : t215 = true
   ·subst c18
    have H1 : (laws_FnExactParseFigure.j0 k a0 t203 (t213 != t203) t195 t196 t197 t200 t205 t206 t207 t210) = some r := by rw [if_pos rfl] at H; exact H
    clear H
    have H := H1
    clear H1
    have H' := Aside0.mk H
    clear H
    have hnb19 := NB214_204.out
    have hnc19 := NB204_214.out
    have hcz20_0 : w12.cell? ⟨gb214, 0, none⟩ = some (.int .i64 0) := (blk_cell BK214.out 0).trans rfl
    have hcz20_1 : w12.cell? ⟨gb214, 1, none⟩ = some (.int .i64 0) := (blk_cell BK214.out 1).trans rfl
    have hcz20_2 : w12.cell? ⟨gb214, 2, none⟩ = some (.slice none 0 0) := (blk_cell BK214.out 2).trans rfl
    have hcz20_3 : w12.cell? ⟨gb214, 3, none⟩ = some (.slice none 0 0) := (blk_cell BK214.out 3).trans rfl
    have hfz20_0 := blk_frozen BK214.out 0
    have hfz20_1 := blk_frozen BK214.out 1
    have hfz20_2 := blk_frozen BK214.out 2
    have hfz20_3 := blk_frozen BK214.out 3
    have hcz21_0 : w12.cell? ⟨gb204, 0, none⟩ = some (.int .i64 t195) := (blk_cell BK204.out 0).trans rfl
    have hcz21_1 : w12.cell? ⟨gb204, 1, none⟩ = some (.int .i64 t196) := (blk_cell BK204.out 1).trans rfl
    have hcz21_2 : w12.cell? ⟨gb204, 2, none⟩ = some (.slice Ao9 t197.length co9) := (blk_cell BK204.out 2).trans rfl
    have hcz21_3 : w12.cell? ⟨gb204, 3, none⟩ = some (.slice Ao10 t200.length co10) := (blk_cell BK204.out 3).trans rfl
    have hfz21_0 := blk_frozen BK204.out 0
    have hfz21_1 := blk_frozen BK204.out 1
    have hfz21_2 := blk_frozen BK204.out 2
    have hfz21_3 := blk_frozen BK204.out 3
    go_wp2_with (first | ((with_reducible refine gate_callee (f := 23) rfl ?_); refine goesL_ (some 26) rfl rfl Tryd.func23 (by kernel_rfl) rfl #[.agg #[.int .i64 t205, .int .i64 t206, .slice Ao15 t207.length co15, .slice Ao16 t210.length co16], .agg #[.int .i64 t195, .int .i64 t196, .slice Ao9 t197.length co9, .slice Ao10 t200.length co10]] rfl ob_ ?_; (with_reducible refine (laws_eqFigure.calls k t205 t206 _ _ t207 _ _ t210 t195 t196 _ _ t197 _ _ t200 true _ ?side1 ?side2 ?side3 ?side4 ?side5 ?side6 ?side7 ?side8 A17.out).mono ?_); (case side1 => refine (Kd.R_reads' (e := 3) (base := w.heap.size) (ok := fun k_ => ((some k_ ≠ (.slice Ao16 t210.length co16 : Value).ownBlock ∧ some k_ ≠ (.slice Ao9 t197.length co9 : Value).ownBlock) ∧ some k_ ≠ (.slice Ao10 t200.length co10 : Value).ownBlock)) (n := t207.length) (c := co15) ?_).2.2; exact (by (with_reducible repeat (first | apply Kd.R_alloc | apply Kd.R_drewN | apply Kd.R_drew)); exact (Kd.R_mono (Kd.R_far (p := ⟨gb214, 3, none⟩) (Kd.R_far (p := ⟨gb214, 2, none⟩) (Kd.R_far (p := ⟨gb214, 1, none⟩) (Kd.R_far (p := ⟨gb214, 0, none⟩) (Kd.R_types HO209.out BK214.out (by decide)) (fun _ hk => hk.2) (.int .i64 t205)) (fun _ hk => hk.2) (.int .i64 t206)) (fun _ hk => hk.2) (.slice Ao15 t207.length co15)) (fun _ hk => hk.2) (.slice Ao16 t210.length co16)) (fun _ h_ => h_.1)))); (case side2 => exact (Kd.R_reads' HO209.out).2.1); (case side3 => refine (Kd.R_reads' (e := 3) (base := w.heap.size) (ok := fun k_ => ((some k_ ≠ (.slice Ao15 t207.length co15 : Value).ownBlock ∧ some k_ ≠ (.slice Ao9 t197.length co9 : Value).ownBlock) ∧ some k_ ≠ (.slice Ao10 t200.length co10 : Value).ownBlock)) (n := t210.length) (c := co16) ?_).2.2; exact (by (with_reducible repeat (first | apply Kd.R_alloc | apply Kd.R_drewN | apply Kd.R_drew)); exact (Kd.R_mono (Kd.R_far (p := ⟨gb214, 3, none⟩) (Kd.R_far (p := ⟨gb214, 2, none⟩) (Kd.R_far (p := ⟨gb214, 1, none⟩) (Kd.R_far (p := ⟨gb214, 0, none⟩) (Kd.R_types HO212.out BK214.out (by decide)) (fun _ hk => hk.2) (.int .i64 t205)) (fun _ hk => hk.2) (.int .i64 t206)) (fun _ hk => hk.2) (.slice Ao15 t207.length co15)) (fun _ hk => hk.2) (.slice Ao16 t210.length co16)) (fun _ h_ => h_.1)))); (case side4 => exact (Kd.R_reads' HO212.out).2.1); (case side5 => refine (Kd.R_reads' (e := 3) (base := w.heap.size) (ok := fun k_ => ((some k_ ≠ (.slice Ao10 t200.length co10 : Value).ownBlock ∧ some k_ ≠ (.slice Ao15 t207.length co15 : Value).ownBlock) ∧ some k_ ≠ (.slice Ao16 t210.length co16 : Value).ownBlock)) (n := t197.length) (c := co9) ?_).2.2; exact (by (with_reducible repeat (first | apply Kd.R_alloc | apply Kd.R_drewN | apply Kd.R_drew)); exact (Kd.R_mono (Kd.R_far (p := ⟨gb214, 3, none⟩) (Kd.R_far (p := ⟨gb214, 2, none⟩) (Kd.R_far (p := ⟨gb214, 1, none⟩) (Kd.R_far (p := ⟨gb214, 0, none⟩) (Kd.R_types HO199.out BK214.out (by decide)) (fun _ hk => hk.2) (.int .i64 t205)) (fun _ hk => hk.2) (.int .i64 t206)) (fun _ hk => hk.2) (.slice Ao15 t207.length co15)) (fun _ hk => hk.2) (.slice Ao16 t210.length co16)) (fun _ h_ => h_.1)))); (case side6 => exact (Kd.R_reads' HO199.out).2.1); (case side7 => refine (Kd.R_reads' (e := 3) (base := w.heap.size) (ok := fun k_ => ((some k_ ≠ (.slice Ao9 t197.length co9 : Value).ownBlock ∧ some k_ ≠ (.slice Ao15 t207.length co15 : Value).ownBlock) ∧ some k_ ≠ (.slice Ao16 t210.length co16 : Value).ownBlock)) (n := t200.length) (c := co10) ?_).2.2; exact (by (with_reducible repeat (first | apply Kd.R_alloc | apply Kd.R_drewN | apply Kd.R_drew)); exact (Kd.R_mono (Kd.R_far (p := ⟨gb214, 3, none⟩) (Kd.R_far (p := ⟨gb214, 2, none⟩) (Kd.R_far (p := ⟨gb214, 1, none⟩) (Kd.R_far (p := ⟨gb214, 0, none⟩) (Kd.R_types HO202.out BK214.out (by decide)) (fun _ hk => hk.2) (.int .i64 t205)) (fun _ hk => hk.2) (.int .i64 t206)) (fun _ hk => hk.2) (.slice Ao15 t207.length co15)) (fun _ hk => hk.2) (.slice Ao16 t210.length co16)) (fun _ h_ => h_.1)))); (case side8 => exact (Kd.R_reads' HO202.out).2.1); rintro e w22 ⟨rfl, hb⟩; refine ⟨_, rfl, ?_⟩; have n0_ := Aside0.mk (Kd.R_below (by (with_reducible repeat (first | apply Kd.R_alloc | apply Kd.R_drewN | apply Kd.R_drew)); exact (Kd.R_mono (Kd.R_far (p := ⟨gb214, 3, none⟩) (Kd.R_far (p := ⟨gb214, 2, none⟩) (Kd.R_far (p := ⟨gb214, 1, none⟩) (Kd.R_far (p := ⟨gb214, 0, none⟩) (Kd.R_types HO199.out BK214.out (by decide)) (fun _ hk => hk.2) (.int .i64 t205)) (fun _ hk => hk.2) (.int .i64 t206)) (fun _ hk => hk.2) (.slice Ao15 t207.length co15)) (fun _ hk => hk.2) (.slice Ao16 t210.length co16)) (fun _ h_ => h_.1))) hb); have n1_ := Aside0.mk (Kd.R_below (by (with_reducible repeat (first | apply Kd.R_alloc | apply Kd.R_drewN | apply Kd.R_drew)); exact (Kd.R_mono (Kd.R_far (p := ⟨gb214, 3, none⟩) (Kd.R_far (p := ⟨gb214, 2, none⟩) (Kd.R_far (p := ⟨gb214, 1, none⟩) (Kd.R_far (p := ⟨gb214, 0, none⟩) (Kd.R_types HO202.out BK214.out (by decide)) (fun _ hk => hk.2) (.int .i64 t205)) (fun _ hk => hk.2) (.int .i64 t206)) (fun _ hk => hk.2) (.slice Ao15 t207.length co15)) (fun _ hk => hk.2) (.slice Ao16 t210.length co16)) (fun _ h_ => h_.1))) hb); have n2_ := Aside0.mk (Kd.R_below (by (with_reducible repeat (first | apply Kd.R_alloc | apply Kd.R_drewN | apply Kd.R_drew)); exact (Kd.R_mono (Kd.R_far (p := ⟨gb214, 3, none⟩) (Kd.R_far (p := ⟨gb214, 2, none⟩) (Kd.R_far (p := ⟨gb214, 1, none⟩) (Kd.R_far (p := ⟨gb214, 0, none⟩) (Kd.R_types HO209.out BK214.out (by decide)) (fun _ hk => hk.2) (.int .i64 t205)) (fun _ hk => hk.2) (.int .i64 t206)) (fun _ hk => hk.2) (.slice Ao15 t207.length co15)) (fun _ hk => hk.2) (.slice Ao16 t210.length co16)) (fun _ h_ => h_.1))) hb); have n3_ := Aside0.mk (Kd.R_below (by (with_reducible repeat (first | apply Kd.R_alloc | apply Kd.R_drewN | apply Kd.R_drew)); exact (Kd.R_mono (Kd.R_far (p := ⟨gb214, 3, none⟩) (Kd.R_far (p := ⟨gb214, 2, none⟩) (Kd.R_far (p := ⟨gb214, 1, none⟩) (Kd.R_far (p := ⟨gb214, 0, none⟩) (Kd.R_types HO212.out BK214.out (by decide)) (fun _ hk => hk.2) (.int .i64 t205)) (fun _ hk => hk.2) (.int .i64 t206)) (fun _ hk => hk.2) (.slice Ao15 t207.length co15)) (fun _ hk => hk.2) (.slice Ao16 t210.length co16)) (fun _ h_ => h_.1))) hb); have n4_ := Aside0.mk (blk_below (g := gb204) (o := .cells #[.int .i64 t195, .int .i64 t196, .slice Ao9 t197.length co9, .slice Ao10 t200.length co10] 36 (0, 0)) (bf4_ NB204_214.out NB204_214.out NB204_214.out NB204_214.out BK204.out) hb); have n5_ := Aside0.mk (blk_below (g := gb214) (o := .cells #[.int .i64 t205, .int .i64 t206, .slice Ao15 t207.length co15, .slice Ao16 t210.length co16] 36 (0, 0)) (by (with_reducible repeat (first | refine blk_drewN ?_ _ | refine blk_drew ?_ | refine blk_alloc ?_ _)); refine blk_put (cs := #[.int .i64 t205, .int .i64 t206, .slice Ao15 t207.length co15, .slice none 0 0]) ?_ 3 _ rfl; (with_reducible repeat (first | refine blk_drewN ?_ _ | refine blk_drew ?_ | refine blk_alloc ?_ _)); refine blk_put (cs := #[.int .i64 t205, .int .i64 t206, .slice none 0 0, .slice none 0 0]) ?_ 2 _ rfl; (with_reducible repeat (first | refine blk_drewN ?_ _ | refine blk_drew ?_ | refine blk_alloc ?_ _)); refine blk_put (cs := #[.int .i64 t205, .int .i64 0, .slice none 0 0, .slice none 0 0]) ?_ 1 _ rfl; (with_reducible repeat (first | refine blk_drewN ?_ _ | refine blk_drew ?_ | refine blk_alloc ?_ _)); refine blk_put (cs := #[.int .i64 0, .int .i64 0, .slice none 0 0, .slice none 0 0]) ?_ 0 _ rfl; (with_reducible repeat (first | refine blk_drewN ?_ _ | refine blk_drew ?_ | refine blk_alloc ?_ _)); exact BK214.out) hb); have n6_ := Aside0.mk (below_step (bl2_ HB.out GE204.out GE214.out) hb); clear HO199; clear HO202; clear HO209; clear HO212; clear BK204; clear BK214; clear HB; have HO199 := n0_; have HO202 := n1_; have HO209 := n2_; have HO212 := n3_; have BK204 := n4_; have BK214 := n5_; have HB := n6_; clear n0_ n1_ n2_ n3_ n4_ n5_ n6_; (try clear hb); (try clear hb2); (try clear hk); (try clear hi)))
    go_meet
    case rel => exact ⟨_, ((t213 != t203)), rs_, H', ⟨by first | omega | exact Nat.le_refl _⟩, ⟨by (with_reducible repeat (first | apply Kd.R_alloc | apply Kd.R_drewN | apply Kd.R_drew)); exact Kd.R_mono HO199.out (fun _ hk => ⟨hk.1.1, ⟨hk.1.2, hk.2⟩⟩)⟩, ⟨by (with_reducible repeat (first | apply Kd.R_alloc | apply Kd.R_drewN | apply Kd.R_drew)); exact Kd.R_mono HO202.out (fun _ hk => ⟨hk.1.1, ⟨hk.1.2, hk.2⟩⟩)⟩, ⟨by (with_reducible repeat (first | apply Kd.R_alloc | apply Kd.R_drewN | apply Kd.R_drew)); exact Kd.R_mono HO209.out (fun _ hk => ⟨hk.1.2, ⟨hk.2, hk.1.1⟩⟩)⟩, ⟨by (with_reducible repeat (first | apply Kd.R_alloc | apply Kd.R_drewN | apply Kd.R_drew)); exact Kd.R_mono HO212.out (fun _ hk => ⟨hk.1.2, ⟨hk.2, hk.1.1⟩⟩)⟩, ⟨bk_ BK204.out⟩, ⟨bk_ BK214.out⟩, ⟨bl2_ HB.out GE204.out GE214.out⟩⟩
   ·replace c18 := Bool.eq_false_iff.mpr c18
    subst c18
    have H1 : (laws_FnExactParseFigure.j0 k a0 t203 true t195 t196 t197 t200 t205 t206 t207 t210) = some r := by rw [if_neg (show ¬ (false = true) by decide)] at H; exact H
    clear H
    have H := H1
    clear H1
    have H' := Aside0.mk H
    clear H
    have hnb23 := NB214_204.out
    have hnc23 := NB204_214.out
    have hcz24_0 : w12.cell? ⟨gb214, 0, none⟩ = some (.int .i64 0) := (blk_cell BK214.out 0).trans rfl
    have hcz24_1 : w12.cell? ⟨gb214, 1, none⟩ = some (.int .i64 0) := (blk_cell BK214.out 1).trans rfl
    have hcz24_2 : w12.cell? ⟨gb214, 2, none⟩ = some (.slice none 0 0) := (blk_cell BK214.out 2).trans rfl
    have hcz24_3 : w12.cell? ⟨gb214, 3, none⟩ = some (.slice none 0 0) := (blk_cell BK214.out 3).trans rfl
    have hfz24_0 := blk_frozen BK214.out 0
    have hfz24_1 := blk_frozen BK214.out 1
    have hfz24_2 := blk_frozen BK214.out 2
    have hfz24_3 := blk_frozen BK214.out 3
    have hcz25_0 : w12.cell? ⟨gb204, 0, none⟩ = some (.int .i64 t195) := (blk_cell BK204.out 0).trans rfl
    have hcz25_1 : w12.cell? ⟨gb204, 1, none⟩ = some (.int .i64 t196) := (blk_cell BK204.out 1).trans rfl
    have hcz25_2 : w12.cell? ⟨gb204, 2, none⟩ = some (.slice Ao9 t197.length co9) := (blk_cell BK204.out 2).trans rfl
    have hcz25_3 : w12.cell? ⟨gb204, 3, none⟩ = some (.slice Ao10 t200.length co10) := (blk_cell BK204.out 3).trans rfl
    have hfz25_0 := blk_frozen BK204.out 0
    have hfz25_1 := blk_frozen BK204.out 1
    have hfz25_2 := blk_frozen BK204.out 2
    have hfz25_3 := blk_frozen BK204.out 3
    go_wp2_with (first | ((with_reducible refine gate_callee (f := 23) rfl ?_); refine goesL_ (some 26) rfl rfl Tryd.func23 (by kernel_rfl) rfl #[.agg #[.int .i64 t205, .int .i64 t206, .slice Ao15 t207.length co15, .slice Ao16 t210.length co16], .agg #[.int .i64 t195, .int .i64 t196, .slice Ao9 t197.length co9, .slice Ao10 t200.length co10]] rfl ob_ ?_; (with_reducible refine (laws_eqFigure.calls k t205 t206 _ _ t207 _ _ t210 t195 t196 _ _ t197 _ _ t200 false _ ?side1 ?side2 ?side3 ?side4 ?side5 ?side6 ?side7 ?side8 A17.out).mono ?_); (case side1 => refine (Kd.R_reads' (e := 3) (base := w.heap.size) (ok := fun k_ => ((some k_ ≠ (.slice Ao16 t210.length co16 : Value).ownBlock ∧ some k_ ≠ (.slice Ao9 t197.length co9 : Value).ownBlock) ∧ some k_ ≠ (.slice Ao10 t200.length co10 : Value).ownBlock)) (n := t207.length) (c := co15) ?_).2.2; exact (by (with_reducible repeat (first | apply Kd.R_alloc | apply Kd.R_drewN | apply Kd.R_drew)); exact (Kd.R_mono (Kd.R_far (p := ⟨gb214, 3, none⟩) (Kd.R_far (p := ⟨gb214, 2, none⟩) (Kd.R_far (p := ⟨gb214, 1, none⟩) (Kd.R_far (p := ⟨gb214, 0, none⟩) (Kd.R_types HO209.out BK214.out (by decide)) (fun _ hk => hk.2) (.int .i64 t205)) (fun _ hk => hk.2) (.int .i64 t206)) (fun _ hk => hk.2) (.slice Ao15 t207.length co15)) (fun _ hk => hk.2) (.slice Ao16 t210.length co16)) (fun _ h_ => h_.1)))); (case side2 => exact (Kd.R_reads' HO209.out).2.1); (case side3 => refine (Kd.R_reads' (e := 3) (base := w.heap.size) (ok := fun k_ => ((some k_ ≠ (.slice Ao15 t207.length co15 : Value).ownBlock ∧ some k_ ≠ (.slice Ao9 t197.length co9 : Value).ownBlock) ∧ some k_ ≠ (.slice Ao10 t200.length co10 : Value).ownBlock)) (n := t210.length) (c := co16) ?_).2.2; exact (by (with_reducible repeat (first | apply Kd.R_alloc | apply Kd.R_drewN | apply Kd.R_drew)); exact (Kd.R_mono (Kd.R_far (p := ⟨gb214, 3, none⟩) (Kd.R_far (p := ⟨gb214, 2, none⟩) (Kd.R_far (p := ⟨gb214, 1, none⟩) (Kd.R_far (p := ⟨gb214, 0, none⟩) (Kd.R_types HO212.out BK214.out (by decide)) (fun _ hk => hk.2) (.int .i64 t205)) (fun _ hk => hk.2) (.int .i64 t206)) (fun _ hk => hk.2) (.slice Ao15 t207.length co15)) (fun _ hk => hk.2) (.slice Ao16 t210.length co16)) (fun _ h_ => h_.1)))); (case side4 => exact (Kd.R_reads' HO212.out).2.1); (case side5 => refine (Kd.R_reads' (e := 3) (base := w.heap.size) (ok := fun k_ => ((some k_ ≠ (.slice Ao10 t200.length co10 : Value).ownBlock ∧ some k_ ≠ (.slice Ao15 t207.length co15 : Value).ownBlock) ∧ some k_ ≠ (.slice Ao16 t210.length co16 : Value).ownBlock)) (n := t197.length) (c := co9) ?_).2.2; exact (by (with_reducible repeat (first | apply Kd.R_alloc | apply Kd.R_drewN | apply Kd.R_drew)); exact (Kd.R_mono (Kd.R_far (p := ⟨gb214, 3, none⟩) (Kd.R_far (p := ⟨gb214, 2, none⟩) (Kd.R_far (p := ⟨gb214, 1, none⟩) (Kd.R_far (p := ⟨gb214, 0, none⟩) (Kd.R_types HO199.out BK214.out (by decide)) (fun _ hk => hk.2) (.int .i64 t205)) (fun _ hk => hk.2) (.int .i64 t206)) (fun _ hk => hk.2) (.slice Ao15 t207.length co15)) (fun _ hk => hk.2) (.slice Ao16 t210.length co16)) (fun _ h_ => h_.1)))); (case side6 => exact (Kd.R_reads' HO199.out).2.1); (case side7 => refine (Kd.R_reads' (e := 3) (base := w.heap.size) (ok := fun k_ => ((some k_ ≠ (.slice Ao9 t197.length co9 : Value).ownBlock ∧ some k_ ≠ (.slice Ao15 t207.length co15 : Value).ownBlock) ∧ some k_ ≠ (.slice Ao16 t210.length co16 : Value).ownBlock)) (n := t200.length) (c := co10) ?_).2.2; exact (by (with_reducible repeat (first | apply Kd.R_alloc | apply Kd.R_drewN | apply Kd.R_drew)); exact (Kd.R_mono (Kd.R_far (p := ⟨gb214, 3, none⟩) (Kd.R_far (p := ⟨gb214, 2, none⟩) (Kd.R_far (p := ⟨gb214, 1, none⟩) (Kd.R_far (p := ⟨gb214, 0, none⟩) (Kd.R_types HO202.out BK214.out (by decide)) (fun _ hk => hk.2) (.int .i64 t205)) (fun _ hk => hk.2) (.int .i64 t206)) (fun _ hk => hk.2) (.slice Ao15 t207.length co15)) (fun _ hk => hk.2) (.slice Ao16 t210.length co16)) (fun _ h_ => h_.1)))); (case side8 => exact (Kd.R_reads' HO202.out).2.1); rintro e w26 ⟨rfl, hb⟩; refine ⟨_, rfl, ?_⟩; have n0_ := Aside0.mk (Kd.R_below (by (with_reducible repeat (first | apply Kd.R_alloc | apply Kd.R_drewN | apply Kd.R_drew)); exact (Kd.R_mono (Kd.R_far (p := ⟨gb214, 3, none⟩) (Kd.R_far (p := ⟨gb214, 2, none⟩) (Kd.R_far (p := ⟨gb214, 1, none⟩) (Kd.R_far (p := ⟨gb214, 0, none⟩) (Kd.R_types HO199.out BK214.out (by decide)) (fun _ hk => hk.2) (.int .i64 t205)) (fun _ hk => hk.2) (.int .i64 t206)) (fun _ hk => hk.2) (.slice Ao15 t207.length co15)) (fun _ hk => hk.2) (.slice Ao16 t210.length co16)) (fun _ h_ => h_.1))) hb); have n1_ := Aside0.mk (Kd.R_below (by (with_reducible repeat (first | apply Kd.R_alloc | apply Kd.R_drewN | apply Kd.R_drew)); exact (Kd.R_mono (Kd.R_far (p := ⟨gb214, 3, none⟩) (Kd.R_far (p := ⟨gb214, 2, none⟩) (Kd.R_far (p := ⟨gb214, 1, none⟩) (Kd.R_far (p := ⟨gb214, 0, none⟩) (Kd.R_types HO202.out BK214.out (by decide)) (fun _ hk => hk.2) (.int .i64 t205)) (fun _ hk => hk.2) (.int .i64 t206)) (fun _ hk => hk.2) (.slice Ao15 t207.length co15)) (fun _ hk => hk.2) (.slice Ao16 t210.length co16)) (fun _ h_ => h_.1))) hb); have n2_ := Aside0.mk (Kd.R_below (by (with_reducible repeat (first | apply Kd.R_alloc | apply Kd.R_drewN | apply Kd.R_drew)); exact (Kd.R_mono (Kd.R_far (p := ⟨gb214, 3, none⟩) (Kd.R_far (p := ⟨gb214, 2, none⟩) (Kd.R_far (p := ⟨gb214, 1, none⟩) (Kd.R_far (p := ⟨gb214, 0, none⟩) (Kd.R_types HO209.out BK214.out (by decide)) (fun _ hk => hk.2) (.int .i64 t205)) (fun _ hk => hk.2) (.int .i64 t206)) (fun _ hk => hk.2) (.slice Ao15 t207.length co15)) (fun _ hk => hk.2) (.slice Ao16 t210.length co16)) (fun _ h_ => h_.1))) hb); have n3_ := Aside0.mk (Kd.R_below (by (with_reducible repeat (first | apply Kd.R_alloc | apply Kd.R_drewN | apply Kd.R_drew)); exact (Kd.R_mono (Kd.R_far (p := ⟨gb214, 3, none⟩) (Kd.R_far (p := ⟨gb214, 2, none⟩) (Kd.R_far (p := ⟨gb214, 1, none⟩) (Kd.R_far (p := ⟨gb214, 0, none⟩) (Kd.R_types HO212.out BK214.out (by decide)) (fun _ hk => hk.2) (.int .i64 t205)) (fun _ hk => hk.2) (.int .i64 t206)) (fun _ hk => hk.2) (.slice Ao15 t207.length co15)) (fun _ hk => hk.2) (.slice Ao16 t210.length co16)) (fun _ h_ => h_.1))) hb); have n4_ := Aside0.mk (blk_below (g := gb204) (o := .cells #[.int .i64 t195, .int .i64 t196, .slice Ao9 t197.length co9, .slice Ao10 t200.length co10] 36 (0, 0)) (bf4_ NB204_214.out NB204_214.out NB204_214.out NB204_214.out BK204.out) hb); have n5_ := Aside0.mk (blk_below (g := gb214) (o := .cells #[.int .i64 t205, .int .i64 t206, .slice Ao15 t207.length co15, .slice Ao16 t210.length co16] 36 (0, 0)) (by (with_reducible repeat (first | refine blk_drewN ?_ _ | refine blk_drew ?_ | refine blk_alloc ?_ _)); refine blk_put (cs := #[.int .i64 t205, .int .i64 t206, .slice Ao15 t207.length co15, .slice none 0 0]) ?_ 3 _ rfl; (with_reducible repeat (first | refine blk_drewN ?_ _ | refine blk_drew ?_ | refine blk_alloc ?_ _)); refine blk_put (cs := #[.int .i64 t205, .int .i64 t206, .slice none 0 0, .slice none 0 0]) ?_ 2 _ rfl; (with_reducible repeat (first | refine blk_drewN ?_ _ | refine blk_drew ?_ | refine blk_alloc ?_ _)); refine blk_put (cs := #[.int .i64 t205, .int .i64 0, .slice none 0 0, .slice none 0 0]) ?_ 1 _ rfl; (with_reducible repeat (first | refine blk_drewN ?_ _ | refine blk_drew ?_ | refine blk_alloc ?_ _)); refine blk_put (cs := #[.int .i64 0, .int .i64 0, .slice none 0 0, .slice none 0 0]) ?_ 0 _ rfl; (with_reducible repeat (first | refine blk_drewN ?_ _ | refine blk_drew ?_ | refine blk_alloc ?_ _)); exact BK214.out) hb); have n6_ := Aside0.mk (below_step (bl2_ HB.out GE204.out GE214.out) hb); clear HO199; clear HO202; clear HO209; clear HO212; clear BK204; clear BK214; clear HB; have HO199 := n0_; have HO202 := n1_; have HO209 := n2_; have HO212 := n3_; have BK204 := n4_; have BK214 := n5_; have HB := n6_; clear n0_ n1_ n2_ n3_ n4_ n5_ n6_; (try clear hb); (try clear hb2); (try clear hk); (try clear hi)))
    go_meet
    case rel => exact ⟨_, (true), rs_, H', ⟨by first | omega | exact Nat.le_refl _⟩, ⟨by (with_reducible repeat (first | apply Kd.R_alloc | apply Kd.R_drewN | apply Kd.R_drew)); exact Kd.R_mono HO199.out (fun _ hk => ⟨hk.1.1, ⟨hk.1.2, hk.2⟩⟩)⟩, ⟨by (with_reducible repeat (first | apply Kd.R_alloc | apply Kd.R_drewN | apply Kd.R_drew)); exact Kd.R_mono HO202.out (fun _ hk => ⟨hk.1.1, ⟨hk.1.2, hk.2⟩⟩)⟩, ⟨by (with_reducible repeat (first | apply Kd.R_alloc | apply Kd.R_drewN | apply Kd.R_drew)); exact Kd.R_mono HO209.out (fun _ hk => ⟨hk.1.2, ⟨hk.2, hk.1.1⟩⟩)⟩, ⟨by (with_reducible repeat (first | apply Kd.R_alloc | apply Kd.R_drewN | apply Kd.R_drew)); exact Kd.R_mono HO212.out (fun _ hk => ⟨hk.1.2, ⟨hk.2, hk.1.1⟩⟩)⟩, ⟨bk_ BK204.out⟩, ⟨bk_ BK214.out⟩, ⟨bl2_ HB.out GE204.out GE214.out⟩⟩
  case rest =>
   clear HC5
   try clear c1
   try clear c2
   try clear c2b0
   try clear c2b1
   try clear p2
   try clear c6
   try clear c13
   try clear c18
   try clear c19
   try clear c21
   try clear c22
   try clear c23
   try clear hcz14_0
   try clear hcz14_1
   try clear hcz14_2
   try clear hcz14_3
   try clear hcz20_0
   try clear hcz20_1
   try clear hcz20_2
   try clear hcz20_3
   try clear hcz21_0
   try clear hcz21_1
   try clear hcz21_2
   try clear hcz21_3
   try clear hcz24_0
   try clear hcz24_1
   try clear hcz24_2
   try clear hcz24_3
   try clear hcz25_0
   try clear hcz25_1
   try clear hcz25_2
   try clear hcz25_3
   try clear hcz8_0
   try clear hcz8_1
   try clear hcz8_2
   try clear hcz8_3
   try clear hfz14_0
   try clear hfz14_1
   try clear hfz14_2
   try clear hfz14_3
   try clear hfz20_0
   try clear hfz20_1
   try clear hfz20_2
   try clear hfz20_3
   try clear hfz21_0
   try clear hfz21_1
   try clear hfz21_2
   try clear hfz21_3
   try clear hfz24_0
   try clear hfz24_1
   try clear hfz24_2
   try clear hfz24_3
   try clear hfz25_0
   try clear hfz25_1
   try clear hfz25_2
   try clear hfz25_3
   try clear hfz8_0
   try clear hfz8_1
   try clear hfz8_2
   try clear hfz8_3
   obtain ⟨kq, x32_4, rfl, HA, HJ4, HO_205002, HO_205003, HO_215002, HO_215003, BK204, BK214, HB⟩ := hcut
   cases kq with
   | zero => exact absurd HA.out (by simp [laws_FnExactParseFigure.j0])
   | succ kj4 =>
    have H := HA.out
    clear HA
    simp only [laws_FnExactParseFigure.j0] at H
    by_cases c27 : x32_4 = true
    ·subst c27
     have H1 : (some false) = some r := by rw [if_pos rfl] at H; exact H
     clear H
     have H := H1
     clear H1
     obtain rfl := Option.some.inj H
     go_wp2
     go_ret
     exact ⟨er_, bl2_ HB.out GE204.out GE214.out⟩
    ·replace c27 := Bool.eq_false_iff.mpr c27
     subst c27
     have H1 : ((laws_markFigure.f kj4 t205 t206 t207 t210 101).bind fun bt216 => ((laws_heldFigure.f kj4 t205 t206 bt216.2.1 bt216.2.2 101).bind fun t219 => (if t219 < 0 then (some false) else (if t219 = bt216.1 then ((impl_ParseFigure.f kj4 a0).bind fun bt220 => ((laws_eqFigure.f kj4 bt220.1 bt220.2.1 bt220.2.2.1 bt220.2.2.2.1 t195 t196 t197 t200).bind fun t230 => (if t230 = true then (laws_FnExactParseFigure.j1 kj4 bt216.1 (bt220.2.2.2.2 != t203) t205 t206 bt216.2.1 bt216.2.2) else (laws_FnExactParseFigure.j1 kj4 bt216.1 true t205 t206 bt216.2.1 bt216.2.2)))) else (some false))))) = some r := by rw [if_neg (show ¬ (false = true) by decide)] at H; exact H
     clear H
     have H := H1
     clear H1
     replace H := Option.bind_eq_some_iff.mp H
     obtain ⟨⟨t216, t217, t218⟩, A280, H⟩ := H
     replace H : ((laws_heldFigure.f kj4 t205 t206 t217 t218 101).bind fun t219 => (if t219 < 0 then (some false) else (if t219 = t216 then ((impl_ParseFigure.f kj4 a0).bind fun bt220 => ((laws_eqFigure.f kj4 bt220.1 bt220.2.1 bt220.2.2.1 bt220.2.2.2.1 t195 t196 t197 t200).bind fun t230 => (if t230 = true then (laws_FnExactParseFigure.j1 kj4 t216 (bt220.2.2.2.2 != t203) t205 t206 t217 t218) else (laws_FnExactParseFigure.j1 kj4 t216 true t205 t206 t217 t218)))) else (some false)))) = some r := H
     have A28 := Aside0.mk A280
     clear A280
     replace H := Option.bind_eq_some_iff.mp H
     obtain ⟨t219, A290, H⟩ := H
     replace H : (if t219 < 0 then (some false) else (if t219 = t216 then ((impl_ParseFigure.f kj4 a0).bind fun bt220 => ((laws_eqFigure.f kj4 bt220.1 bt220.2.1 bt220.2.2.1 bt220.2.2.2.1 t195 t196 t197 t200).bind fun t230 => (if t230 = true then (laws_FnExactParseFigure.j1 kj4 t216 (bt220.2.2.2.2 != t203) t205 t206 t217 t218) else (laws_FnExactParseFigure.j1 kj4 t216 true t205 t206 t217 t218)))) else (some false))) = some r := H
     have A29 := Aside0.mk A290
     clear A290
     by_cases c30 : t219 < 0
     ·rw [if_pos c30] at H
      have c30b0 : decide (t219 < 0) = true := decide_eq_true c30
      clear c30
      obtain rfl := Option.some.inj H
      have hnb31 := NB214_204.out
      have hnc31 := NB204_214.out
      have hcz32_0 : wc.cell? ⟨gb214, 0, none⟩ = some (.int .i64 t205) := (blk_cell BK214.out 0).trans rfl
      have hcz32_1 : wc.cell? ⟨gb214, 1, none⟩ = some (.int .i64 t206) := (blk_cell BK214.out 1).trans rfl
      have hcz32_2 : wc.cell? ⟨gb214, 2, none⟩ = some (.slice Ao15 t207.length co15) := (blk_cell BK214.out 2).trans rfl
      have hcz32_3 : wc.cell? ⟨gb214, 3, none⟩ = some (.slice Ao16 t210.length co16) := (blk_cell BK214.out 3).trans rfl
      have hfz32_0 := blk_frozen BK214.out 0
      have hfz32_1 := blk_frozen BK214.out 1
      have hfz32_2 := blk_frozen BK214.out 2
      have hfz32_3 := blk_frozen BK214.out 3
      go_wp2_with (first | ((with_reducible refine gate_callee (f := 24) rfl ?_); refine goesL_ (some 35) rfl rfl Tryd.func24 (by kernel_rfl) rfl #[.agg #[.int .i64 t205, .int .i64 t206, .slice Ao15 t207.length co15, .slice Ao16 t210.length co16], .int .i64 101] rfl ob_ ?_; (with_reducible refine (laws_markFigure.calls kj4 t205 t206 (fun k_ => some k_ = (.slice Ao15 t207.length co15 : Value).ownBlock) (.slice Ao15 t207.length co15) t207 (fun k_ => some k_ = (.slice Ao16 t210.length co16 : Value).ownBlock) (.slice Ao16 t210.length co16) t210 101 t216 t217 t218 w _ ?side1 ?side2 ?side3 ?side4 ?side5 A28.out).mono ?_); (case side1 => repeat (first | (with_reducible first | exact HB.out | apply below_alloc | apply pw_below_drewN | apply below_drew1 | refine below_set ?_ GE204.out | refine below_set ?_ GE214.out) | exact HB.out)); (case side2 => exact Kd.R_tight rfl HO_215002.out); (case side3 => exact fun k_ e_ => (HO_215002.out.1 k_ e_.symm).2.2); (case side4 => exact Kd.R_tight rfl HO_215003.out); (case side5 => exact fun k_ e_ => (HO_215003.out.1 k_ e_.symm).2.2); rintro e w33 ⟨rfl, hy0, hy1, hb, hkp⟩; refine ⟨_, rfl, ?_⟩; have n0_ := Aside0.mk (Kd.R_mono (ok' := fun k_ => some k_ ≠ (.slice Ao10 t200.length co10 : Value).ownBlock ∧ some k_ ≠ (.slice Ao15 t207.length co15 : Value).ownBlock ∧ some k_ ≠ (.slice Ao16 t210.length co16 : Value).ownBlock) (Kd.R_keptB (HO_205002.out) hkp (fun k_ hk_ hs_ => Or.elim hs_ (fun e_ => (hk_.2.1) e_) (fun e_ => (hk_.2.2) e_))) (fun k_ hk_ => ⟨hk_.1.1, hk_.1.2.1, hk_.1.2.2⟩)); have n1_ := Aside0.mk (Kd.R_mono (ok' := fun k_ => some k_ ≠ (.slice Ao9 t197.length co9 : Value).ownBlock ∧ some k_ ≠ (.slice Ao15 t207.length co15 : Value).ownBlock ∧ some k_ ≠ (.slice Ao16 t210.length co16 : Value).ownBlock) (Kd.R_keptB (HO_205003.out) hkp (fun k_ hk_ hs_ => Or.elim hs_ (fun e_ => (hk_.2.1) e_) (fun e_ => (hk_.2.2) e_))) (fun k_ hk_ => ⟨hk_.1.1, hk_.1.2.1, hk_.1.2.2⟩)); have n2_ := Aside0.mk (Kd.R_reok rfl hy0 (fun k_ e_ => HO_215002.out.1 k_ e_)); have n3_ := Aside0.mk (Kd.R_reok rfl hy1 (fun k_ e_ => HO_215003.out.1 k_ e_)); have n4_ := Aside0.mk (blk_kept (bk_ BK204.out) hkp (fun hs_ => Or.elim hs_ (fun e_ => (fun e_ => (Kd.R_ne HO_215002.out BK204.out (by decide)) e_) e_) (fun e_ => (fun e_ => (Kd.R_ne HO_215003.out BK204.out (by decide)) e_) e_))); have n5_ := Aside0.mk (blk_kept (bk_ BK214.out) hkp (fun hs_ => Or.elim hs_ (fun e_ => (fun e_ => (Kd.R_ne HO_215002.out BK214.out (by decide)) e_) e_) (fun e_ => (fun e_ => (Kd.R_ne HO_215003.out BK214.out (by decide)) e_) e_))); have n6_ := Aside0.mk (hb); clear HO_205002; clear HO_205003; clear HO_215002; clear HO_215003; clear BK204; clear BK214; clear HB; have HO_205002 := n0_; have HO_205003 := n1_; have HO_215002 := n2_; have HO_215003 := n3_; have BK204 := n4_; have BK214 := n5_; have HB := n6_; clear n0_ n1_ n2_ n3_ n4_ n5_ n6_; (try clear hb); (try clear hkp); (try clear hy0); (try clear hy1); have hcz34_0 : w33.cell? ⟨gb214, 0, none⟩ = some (.int .i64 t205) := (blk_cell BK214.out 0).trans rfl; have hcz34_1 : w33.cell? ⟨gb214, 1, none⟩ = some (.int .i64 t206) := (blk_cell BK214.out 1).trans rfl; have hcz34_2 : w33.cell? ⟨gb214, 2, none⟩ = some (.slice Ao15 t207.length co15) := (blk_cell BK214.out 2).trans rfl; have hcz34_3 : w33.cell? ⟨gb214, 3, none⟩ = some (.slice Ao16 t210.length co16) := (blk_cell BK214.out 3).trans rfl; have hfz34_0 := blk_frozen BK214.out 0; have hfz34_1 := blk_frozen BK214.out 1; have hfz34_2 := blk_frozen BK214.out 2; have hfz34_3 := blk_frozen BK214.out 3) | ((with_reducible refine gate_callee (f := 25) rfl ?_); refine goesL_ (some 38) rfl rfl Tryd.func25 (by kernel_rfl) rfl #[.agg #[.int .i64 t205, .int .i64 t206, .slice Ao15 t217.length co15, .slice Ao16 t218.length co16], .int .i64 101] rfl (by (try simp only [List.map_toArray, List.map_cons, List.map_nil]); first | done | (rw [show t217.length = t207.length from (Kd.R_reads' HO_215002.out).1.symm, show t218.length = t210.length from (Kd.R_reads' HO_215003.out).1.symm] <;> rfl) | rfl | (simp only [List.length_drop, List.length_take]; rfl)) ?_; (with_reducible refine (laws_heldFigure.calls kj4 t205 t206 _ _ t217 _ _ t218 101 t219 _ ?side1 ?side2 ?side3 ?side4 A29.out).mono ?_); (case side1 => repeat (first | exact (Kd.R_reads' HO_215002.out).2.2 | (with_reducible refine Kd.C_alloc ?_ _) | (with_reducible refine Kd.C_drewN ?_ _) | (with_reducible refine Kd.C_drew ?_))); (case side2 => rw [show t217.length = t207.length from (Kd.R_reads' HO_215002.out).1.symm]; exact (Kd.R_reads' HO_215002.out).2.1); (case side3 => repeat (first | exact (Kd.R_reads' HO_215003.out).2.2 | (with_reducible refine Kd.C_alloc ?_ _) | (with_reducible refine Kd.C_drewN ?_ _) | (with_reducible refine Kd.C_drew ?_))); (case side4 => rw [show t218.length = t210.length from (Kd.R_reads' HO_215003.out).1.symm]; exact (Kd.R_reads' HO_215003.out).2.1); rintro e w35 ⟨rfl, hb⟩; refine ⟨_, rfl, ?_⟩; have n0_ := Aside0.mk (Kd.R_below (kr_ HO_205002.out) hb); have n1_ := Aside0.mk (Kd.R_below (kr_ HO_205003.out) hb); have n2_ := Aside0.mk (Kd.R_below (kr_ HO_215002.out) hb); have n3_ := Aside0.mk (Kd.R_below (kr_ HO_215003.out) hb); have n4_ := Aside0.mk (bb_ BK204.out hb); have n5_ := Aside0.mk (bb_ BK214.out hb); have n6_ := Aside0.mk (below_step (bl2_ HB.out GE204.out GE214.out) hb); clear HO_205002; clear HO_205003; clear HO_215002; clear HO_215003; clear BK204; clear BK214; clear HB; have HO_205002 := n0_; have HO_205003 := n1_; have HO_215002 := n2_; have HO_215003 := n3_; have BK204 := n4_; have BK214 := n5_; have HB := n6_; clear n0_ n1_ n2_ n3_ n4_ n5_ n6_; (try clear hb); (try clear hb2); (try clear hk); (try clear hi)))
      go_ret
      exact ⟨er_, bl2_ HB.out GE204.out GE214.out⟩
     ·rw [if_neg c30] at H
      have c30b0 : decide (t219 < 0) = false := decide_eq_false c30
      clear c30
      by_cases c36 : t219 = t216
      ·rw [if_pos c36] at H
       have c36b0 : (t219 == t216) = true := beq_iff_eq.mpr c36
       have c36b1 : (t219 != t216) = false := bne_eq_false_iff_eq.mpr c36
       clear c36
       replace H := Option.bind_eq_some_iff.mp H
       obtain ⟨⟨t220, t221, t222, t225, t228⟩, A370, H⟩ := H
       replace H : ((laws_eqFigure.f kj4 t220 t221 t222 t225 t195 t196 t197 t200).bind fun t230 => (if t230 = true then (laws_FnExactParseFigure.j1 kj4 t216 (t228 != t203) t205 t206 t217 t218) else (laws_FnExactParseFigure.j1 kj4 t216 true t205 t206 t217 t218))) = some r := H
       have A37 := Aside0.mk A370
       clear A370
       have HC38 := Aside0.mk H
       clear H
       have hnb39 := NB214_204.out
       have hnc39 := NB204_214.out
       have hcz40_0 : wc.cell? ⟨gb214, 0, none⟩ = some (.int .i64 t205) := (blk_cell BK214.out 0).trans rfl
       have hcz40_1 : wc.cell? ⟨gb214, 1, none⟩ = some (.int .i64 t206) := (blk_cell BK214.out 1).trans rfl
       have hcz40_2 : wc.cell? ⟨gb214, 2, none⟩ = some (.slice Ao15 t207.length co15) := (blk_cell BK214.out 2).trans rfl
       have hcz40_3 : wc.cell? ⟨gb214, 3, none⟩ = some (.slice Ao16 t210.length co16) := (blk_cell BK214.out 3).trans rfl
       have hfz40_0 := blk_frozen BK214.out 0
       have hfz40_1 := blk_frozen BK214.out 1
       have hfz40_2 := blk_frozen BK214.out 2
       have hfz40_3 := blk_frozen BK214.out 3
       go_upto_region 16 with (first | ((with_reducible refine gate_callee (f := 24) rfl ?_); refine goesL_ (some 35) rfl rfl Tryd.func24 (by kernel_rfl) rfl #[.agg #[.int .i64 t205, .int .i64 t206, .slice Ao15 t207.length co15, .slice Ao16 t210.length co16], .int .i64 101] rfl ob_ ?_; (with_reducible refine (laws_markFigure.calls kj4 t205 t206 (fun k_ => some k_ = (.slice Ao15 t207.length co15 : Value).ownBlock) (.slice Ao15 t207.length co15) t207 (fun k_ => some k_ = (.slice Ao16 t210.length co16 : Value).ownBlock) (.slice Ao16 t210.length co16) t210 101 t216 t217 t218 w _ ?side1 ?side2 ?side3 ?side4 ?side5 A28.out).mono ?_); (case side1 => repeat (first | (with_reducible first | exact HB.out | apply below_alloc | apply pw_below_drewN | apply below_drew1 | refine below_set ?_ GE204.out | refine below_set ?_ GE214.out) | exact HB.out)); (case side2 => exact Kd.R_tight rfl HO_215002.out); (case side3 => exact fun k_ e_ => (HO_215002.out.1 k_ e_.symm).2.2); (case side4 => exact Kd.R_tight rfl HO_215003.out); (case side5 => exact fun k_ e_ => (HO_215003.out.1 k_ e_.symm).2.2); rintro e w41 ⟨rfl, hy0, hy1, hb, hkp⟩; refine ⟨_, rfl, ?_⟩; have n0_ := Aside0.mk (Kd.R_mono (ok' := fun k_ => some k_ ≠ (.slice Ao10 t200.length co10 : Value).ownBlock ∧ some k_ ≠ (.slice Ao15 t207.length co15 : Value).ownBlock ∧ some k_ ≠ (.slice Ao16 t210.length co16 : Value).ownBlock) (Kd.R_keptB (HO_205002.out) hkp (fun k_ hk_ hs_ => Or.elim hs_ (fun e_ => (hk_.2.1) e_) (fun e_ => (hk_.2.2) e_))) (fun k_ hk_ => ⟨hk_.1.1, hk_.1.2.1, hk_.1.2.2⟩)); have n1_ := Aside0.mk (Kd.R_mono (ok' := fun k_ => some k_ ≠ (.slice Ao9 t197.length co9 : Value).ownBlock ∧ some k_ ≠ (.slice Ao15 t207.length co15 : Value).ownBlock ∧ some k_ ≠ (.slice Ao16 t210.length co16 : Value).ownBlock) (Kd.R_keptB (HO_205003.out) hkp (fun k_ hk_ hs_ => Or.elim hs_ (fun e_ => (hk_.2.1) e_) (fun e_ => (hk_.2.2) e_))) (fun k_ hk_ => ⟨hk_.1.1, hk_.1.2.1, hk_.1.2.2⟩)); have n2_ := Aside0.mk (Kd.R_reok rfl hy0 (fun k_ e_ => HO_215002.out.1 k_ e_)); have n3_ := Aside0.mk (Kd.R_reok rfl hy1 (fun k_ e_ => HO_215003.out.1 k_ e_)); have n4_ := Aside0.mk (blk_kept (bk_ BK204.out) hkp (fun hs_ => Or.elim hs_ (fun e_ => (fun e_ => (Kd.R_ne HO_215002.out BK204.out (by decide)) e_) e_) (fun e_ => (fun e_ => (Kd.R_ne HO_215003.out BK204.out (by decide)) e_) e_))); have n5_ := Aside0.mk (blk_kept (bk_ BK214.out) hkp (fun hs_ => Or.elim hs_ (fun e_ => (fun e_ => (Kd.R_ne HO_215002.out BK214.out (by decide)) e_) e_) (fun e_ => (fun e_ => (Kd.R_ne HO_215003.out BK214.out (by decide)) e_) e_))); have n6_ := Aside0.mk (hb); clear HO_205002; clear HO_205003; clear HO_215002; clear HO_215003; clear BK204; clear BK214; clear HB; have HO_205002 := n0_; have HO_205003 := n1_; have HO_215002 := n2_; have HO_215003 := n3_; have BK204 := n4_; have BK214 := n5_; have HB := n6_; clear n0_ n1_ n2_ n3_ n4_ n5_ n6_; (try clear hb); (try clear hkp); (try clear hy0); (try clear hy1); have hcz42_0 : w41.cell? ⟨gb214, 0, none⟩ = some (.int .i64 t205) := (blk_cell BK214.out 0).trans rfl; have hcz42_1 : w41.cell? ⟨gb214, 1, none⟩ = some (.int .i64 t206) := (blk_cell BK214.out 1).trans rfl; have hcz42_2 : w41.cell? ⟨gb214, 2, none⟩ = some (.slice Ao15 t207.length co15) := (blk_cell BK214.out 2).trans rfl; have hcz42_3 : w41.cell? ⟨gb214, 3, none⟩ = some (.slice Ao16 t210.length co16) := (blk_cell BK214.out 3).trans rfl; have hfz42_0 := blk_frozen BK214.out 0; have hfz42_1 := blk_frozen BK214.out 1; have hfz42_2 := blk_frozen BK214.out 2; have hfz42_3 := blk_frozen BK214.out 3) | ((with_reducible refine gate_callee (f := 25) rfl ?_); refine goesL_ (some 38) rfl rfl Tryd.func25 (by kernel_rfl) rfl #[.agg #[.int .i64 t205, .int .i64 t206, .slice Ao15 t217.length co15, .slice Ao16 t218.length co16], .int .i64 101] rfl (by (try simp only [List.map_toArray, List.map_cons, List.map_nil]); first | done | (rw [show t217.length = t207.length from (Kd.R_reads' HO_215002.out).1.symm, show t218.length = t210.length from (Kd.R_reads' HO_215003.out).1.symm] <;> rfl) | rfl | (simp only [List.length_drop, List.length_take]; rfl)) ?_; (with_reducible refine (laws_heldFigure.calls kj4 t205 t206 _ _ t217 _ _ t218 101 t219 _ ?side1 ?side2 ?side3 ?side4 A29.out).mono ?_); (case side1 => repeat (first | exact (Kd.R_reads' HO_215002.out).2.2 | (with_reducible refine Kd.C_alloc ?_ _) | (with_reducible refine Kd.C_drewN ?_ _) | (with_reducible refine Kd.C_drew ?_))); (case side2 => rw [show t217.length = t207.length from (Kd.R_reads' HO_215002.out).1.symm]; exact (Kd.R_reads' HO_215002.out).2.1); (case side3 => repeat (first | exact (Kd.R_reads' HO_215003.out).2.2 | (with_reducible refine Kd.C_alloc ?_ _) | (with_reducible refine Kd.C_drewN ?_ _) | (with_reducible refine Kd.C_drew ?_))); (case side4 => rw [show t218.length = t210.length from (Kd.R_reads' HO_215003.out).1.symm]; exact (Kd.R_reads' HO_215003.out).2.1); rintro e w43 ⟨rfl, hb⟩; refine ⟨_, rfl, ?_⟩; have n0_ := Aside0.mk (Kd.R_below (kr_ HO_205002.out) hb); have n1_ := Aside0.mk (Kd.R_below (kr_ HO_205003.out) hb); have n2_ := Aside0.mk (Kd.R_below (kr_ HO_215002.out) hb); have n3_ := Aside0.mk (Kd.R_below (kr_ HO_215003.out) hb); have n4_ := Aside0.mk (bb_ BK204.out hb); have n5_ := Aside0.mk (bb_ BK214.out hb); have n6_ := Aside0.mk (below_step (bl2_ HB.out GE204.out GE214.out) hb); clear HO_205002; clear HO_205003; clear HO_215002; clear HO_215003; clear BK204; clear BK214; clear HB; have HO_205002 := n0_; have HO_205003 := n1_; have HO_215002 := n2_; have HO_215003 := n3_; have BK204 := n4_; have BK214 := n5_; have HB := n6_; clear n0_ n1_ n2_ n3_ n4_ n5_ n6_; (try clear hb); (try clear hb2); (try clear hk); (try clear hi)) | ((with_reducible refine gate_callee (f := 22) rfl ?_); refine goesL_ (some 46) rfl rfl Tryd.func22 (by kernel_rfl) rfl #[.string a0] rfl ob_ ?_; (with_reducible refine (impl_ParseFigure.calls kj4 a0 t220 t221 t222 t225 t228 _ (TB.below HTB.out (bl2_ HB.out GE204.out GE214.out)) A37.out).mono ?_); rintro e w44 ⟨v223, v226, rfl, ho0, ho1, hb⟩; refine ⟨_, rfl, ?_⟩; have n0_ := Aside0.mk (Kd.R_mono (Kd.R_told (Kd.R_told (Kd.R_old (kr_ HO_205002.out) hb) (Kd.R_base ho0)) (Kd.R_base ho1)) (fun _ h_ => h_.1)); have n1_ := Aside0.mk (Kd.R_mono (Kd.R_told (Kd.R_told (Kd.R_old (kr_ HO_205003.out) hb) (Kd.R_base ho0)) (Kd.R_base ho1)) (fun _ h_ => h_.1)); have n2_ := Aside0.mk (Kd.R_mono (Kd.R_told (Kd.R_told (Kd.R_old (kr_ HO_215002.out) hb) (Kd.R_base ho0)) (Kd.R_base ho1)) (fun _ h_ => h_.1)); have n3_ := Aside0.mk (Kd.R_mono (Kd.R_told (Kd.R_told (Kd.R_old (kr_ HO_215003.out) hb) (Kd.R_base ho0)) (Kd.R_base ho1)) (fun _ h_ => h_.1)); have n4_ := Aside0.mk (Kd.R_lower (Kd.R_new' (Kd.R_new' (Kd.R_new' (Kd.R_new' ho0 (Kd.R_lt (kr_ HO_205002.out))) (Kd.R_lt (kr_ HO_205003.out))) (Kd.R_lt (kr_ HO_215002.out))) (Kd.R_lt (kr_ HO_215003.out))) (below_size (bl2_ HB.out GE204.out GE214.out))); have n5_ := Aside0.mk (Kd.R_lower (Kd.R_new' (Kd.R_new' (Kd.R_new' (Kd.R_new' ho1 (Kd.R_lt (kr_ HO_205002.out))) (Kd.R_lt (kr_ HO_205003.out))) (Kd.R_lt (kr_ HO_215002.out))) (Kd.R_lt (kr_ HO_215003.out))) (below_size (bl2_ HB.out GE204.out GE214.out))); have n6_ := Aside0.mk (bb_ BK204.out hb); have n7_ := Aside0.mk (bb_ BK214.out hb); have n8_ := Aside0.mk (below_step (bl2_ HB.out GE204.out GE214.out) hb); clear HO_205002; clear HO_205003; clear HO_215002; clear HO_215003; clear BK204; clear BK214; clear HB; have HO_205002 := n0_; have HO_205003 := n1_; have HO_215002 := n2_; have HO_215003 := n3_; have HO224 := n4_; have HO227 := n5_; have BK204 := n6_; have BK214 := n7_; have HB := n8_; clear n0_ n1_ n2_ n3_ n4_ n5_ n6_ n7_ n8_; (try clear hb); (try clear hb2); (try clear hk); (try clear hi); (try clear ho0); (try clear ho1)) | ((with_reducible refine gate_dst (N := 9) rfl ?_); refine boxE_ (N := 9) (cs := #[.int .i64 0, .int .i64 0, .slice none 0 0, .slice none 0 0]) (t := 36) ?_; intro gb229 hg w45 hbox hb; have n0_ := Aside0.mk (Kd.R_below (kr_ HO_205002.out) hb); have n1_ := Aside0.mk (Kd.R_below (kr_ HO_205003.out) hb); have n2_ := Aside0.mk (Kd.R_below (kr_ HO_215002.out) hb); have n3_ := Aside0.mk (Kd.R_below (kr_ HO_215003.out) hb); have n4_ := Aside0.mk (Kd.R_below (kr_ HO224.out) hb); have n5_ := Aside0.mk (Kd.R_below (kr_ HO227.out) hb); have n6_ := Aside0.mk (bb_ BK204.out hb); have n7_ := Aside0.mk (bb_ BK214.out hb); have n8_ := Aside0.mk (below_step (bl2_ HB.out GE204.out GE214.out) hb); have n9_ := Aside0.mk (hbox); have n10_ := Aside0.mk ((bs2_ hg HB.out GE204.out GE214.out : w.heap.size ≤ gb229)); have n11_ := Aside0.mk ((bs2_ hg HB.out GE204.out GE214.out : w.heap.size ≤ gb229)); have n12_ := Aside0.mk ((nl_ hg BK204.out : gb204 ≠ gb229)); have n13_ := Aside0.mk ((ng_ hg BK204.out : gb229 ≠ gb204)); have n14_ := Aside0.mk ((nl_ hg BK214.out : gb214 ≠ gb229)); have n15_ := Aside0.mk ((ng_ hg BK214.out : gb229 ≠ gb214)); clear HO_205002; clear HO_205003; clear HO_215002; clear HO_215003; clear HO224; clear HO227; clear BK204; clear BK214; clear HB; have HO_205002 := n0_; have HO_205003 := n1_; have HO_215002 := n2_; have HO_215003 := n3_; have HO224 := n4_; have HO227 := n5_; have BK204 := n6_; have BK214 := n7_; have HB := n8_; have BK229 := n9_; have GW229 := n10_; have GE229 := n11_; have NB204_229 := n12_; have NB229_204 := n13_; have NB214_229 := n14_; have NB229_214 := n15_; clear n0_ n1_ n2_ n3_ n4_ n5_ n6_ n7_ n8_ n9_ n10_ n11_ n12_ n13_ n14_ n15_; clear hb hbox hg; have hnb46 := NB229_204.out; have hnc46 := NB204_229.out; have hnb47 := NB229_214.out; have hnc47 := NB214_229.out; have hcz48_0 : w45.cell? ⟨gb229, 0, none⟩ = some (.int .i64 0) := (blk_cell BK229.out 0).trans rfl; have hcz48_1 : w45.cell? ⟨gb229, 1, none⟩ = some (.int .i64 0) := (blk_cell BK229.out 1).trans rfl; have hcz48_2 : w45.cell? ⟨gb229, 2, none⟩ = some (.slice none 0 0) := (blk_cell BK229.out 2).trans rfl; have hcz48_3 : w45.cell? ⟨gb229, 3, none⟩ = some (.slice none 0 0) := (blk_cell BK229.out 3).trans rfl; have hfz48_0 := blk_frozen BK229.out 0; have hfz48_1 := blk_frozen BK229.out 1; have hfz48_2 := blk_frozen BK229.out 2; have hfz48_3 := blk_frozen BK229.out 3; obtain ⟨Ao49, co49, eo49⟩ := Kd.R_slice HO224.out; subst eo49; obtain ⟨Ao50, co50, eo50⟩ := Kd.R_slice HO227.out; subst eo50))
       (try simp only [Act.put, List.setIfInBounds_toArray, List.set_cons_zero, List.set_cons_succ])
       go_cut [57] (fun v57 wc => ∃ (kq : Nat) (x57_37 : Bool), v57 = .bool x57_37 ∧ Aside0 (laws_FnExactParseFigure.j1 kq t216 x57_37 t205 t206 t217 t218 = some r) ∧ Aside0 (kq ≤ kj4) ∧ Aside0 (Kd.R (Kd.int .i64) 3 wc w.heap.size (fun k_ => some k_ ≠ ((.slice Ao10 t200.length co10) : Value).ownBlock ∧ some k_ ≠ ((.slice Ao15 t207.length co15) : Value).ownBlock ∧ some k_ ≠ ((.slice Ao16 t210.length co16) : Value).ownBlock ∧ some k_ ≠ ((.slice Ao49 t222.length co49) : Value).ownBlock ∧ some k_ ≠ ((.slice Ao50 t225.length co50) : Value).ownBlock) (.slice Ao9 t197.length co9) t197) ∧ Aside0 (Kd.R (Kd.int .i64) 3 wc w.heap.size (fun k_ => some k_ ≠ ((.slice Ao9 t197.length co9) : Value).ownBlock ∧ some k_ ≠ ((.slice Ao15 t207.length co15) : Value).ownBlock ∧ some k_ ≠ ((.slice Ao16 t210.length co16) : Value).ownBlock ∧ some k_ ≠ ((.slice Ao49 t222.length co49) : Value).ownBlock ∧ some k_ ≠ ((.slice Ao50 t225.length co50) : Value).ownBlock) (.slice Ao10 t200.length co10) t200) ∧ Aside0 (Kd.R (Kd.int .i64) 3 wc w.heap.size (fun k_ => some k_ ≠ ((.slice Ao9 t197.length co9) : Value).ownBlock ∧ some k_ ≠ ((.slice Ao10 t200.length co10) : Value).ownBlock ∧ some k_ ≠ ((.slice Ao16 t210.length co16) : Value).ownBlock ∧ some k_ ≠ ((.slice Ao49 t222.length co49) : Value).ownBlock ∧ some k_ ≠ ((.slice Ao50 t225.length co50) : Value).ownBlock) (.slice Ao15 t207.length co15) t217) ∧ Aside0 (Kd.R (Kd.int .i64) 3 wc w.heap.size (fun k_ => some k_ ≠ ((.slice Ao9 t197.length co9) : Value).ownBlock ∧ some k_ ≠ ((.slice Ao10 t200.length co10) : Value).ownBlock ∧ some k_ ≠ ((.slice Ao15 t207.length co15) : Value).ownBlock ∧ some k_ ≠ ((.slice Ao49 t222.length co49) : Value).ownBlock ∧ some k_ ≠ ((.slice Ao50 t225.length co50) : Value).ownBlock) (.slice Ao16 t210.length co16) t218) ∧ Aside0 (Kd.R (Kd.int .i64) 3 wc w.heap.size (fun k_ => some k_ ≠ ((.slice Ao9 t197.length co9) : Value).ownBlock ∧ some k_ ≠ ((.slice Ao10 t200.length co10) : Value).ownBlock ∧ some k_ ≠ ((.slice Ao15 t207.length co15) : Value).ownBlock ∧ some k_ ≠ ((.slice Ao16 t210.length co16) : Value).ownBlock ∧ some k_ ≠ ((.slice Ao50 t225.length co50) : Value).ownBlock) (.slice Ao49 t222.length co49) t222) ∧ Aside0 (Kd.R (Kd.int .i64) 3 wc w.heap.size (fun k_ => some k_ ≠ ((.slice Ao9 t197.length co9) : Value).ownBlock ∧ some k_ ≠ ((.slice Ao10 t200.length co10) : Value).ownBlock ∧ some k_ ≠ ((.slice Ao15 t207.length co15) : Value).ownBlock ∧ some k_ ≠ ((.slice Ao16 t210.length co16) : Value).ownBlock ∧ some k_ ≠ ((.slice Ao49 t222.length co49) : Value).ownBlock) (.slice Ao50 t225.length co50) t225) ∧ Aside0 (wc.heap[gb204]? = some (.cells #[.int .i64 t195, .int .i64 t196, (.slice Ao9 t197.length co9), (.slice Ao10 t200.length co10)] 36 (0, 0))) ∧ Aside0 (wc.heap[gb214]? = some (.cells #[.int .i64 t205, .int .i64 t206, (.slice Ao15 t207.length co15), (.slice Ao16 t210.length co16)] 36 (0, 0))) ∧ Aside0 (wc.heap[gb229]? = some (.cells #[.int .i64 t220, .int .i64 t221, (.slice Ao49 t222.length co49), (.slice Ao50 t225.length co50)] 36 (0, 0))) ∧ Aside0 (Below w.heap.size w wc))
       case first =>
        have H := HC38.out
        clear HC38
        replace H := Option.bind_eq_some_iff.mp H
        obtain ⟨t230, A510, H⟩ := H
        replace H : (if t230 = true then (laws_FnExactParseFigure.j1 kj4 t216 (t228 != t203) t205 t206 t217 t218) else (laws_FnExactParseFigure.j1 kj4 t216 true t205 t206 t217 t218)) = some r := H
        have A51 := Aside0.mk A510
        clear A510
        by_cases c52 : t230 = true
        ·subst c52
         have H1 : (laws_FnExactParseFigure.j1 kj4 t216 (t228 != t203) t205 t206 t217 t218) = some r := by rw [if_pos rfl] at H; exact H
         clear H
         have H := H1
         clear H1
         have H' := Aside0.mk H
         clear H
         have hnb53 := NB229_204.out
         have hnc53 := NB204_229.out
         have hnb54 := NB229_214.out
         have hnc54 := NB214_229.out
         have hcz55_0 : w45.cell? ⟨gb229, 0, none⟩ = some (.int .i64 0) := (blk_cell BK229.out 0).trans rfl
         have hcz55_1 : w45.cell? ⟨gb229, 1, none⟩ = some (.int .i64 0) := (blk_cell BK229.out 1).trans rfl
         have hcz55_2 : w45.cell? ⟨gb229, 2, none⟩ = some (.slice none 0 0) := (blk_cell BK229.out 2).trans rfl
         have hcz55_3 : w45.cell? ⟨gb229, 3, none⟩ = some (.slice none 0 0) := (blk_cell BK229.out 3).trans rfl
         have hfz55_0 := blk_frozen BK229.out 0
         have hfz55_1 := blk_frozen BK229.out 1
         have hfz55_2 := blk_frozen BK229.out 2
         have hfz55_3 := blk_frozen BK229.out 3
         have hnb56 := NB204_214.out
         have hnc56 := NB214_204.out
         have hcz57_0 : w45.cell? ⟨gb204, 0, none⟩ = some (.int .i64 t195) := (blk_cell BK204.out 0).trans rfl
         have hcz57_1 : w45.cell? ⟨gb204, 1, none⟩ = some (.int .i64 t196) := (blk_cell BK204.out 1).trans rfl
         have hcz57_2 : w45.cell? ⟨gb204, 2, none⟩ = some (.slice Ao9 t197.length co9) := (blk_cell BK204.out 2).trans rfl
         have hcz57_3 : w45.cell? ⟨gb204, 3, none⟩ = some (.slice Ao10 t200.length co10) := (blk_cell BK204.out 3).trans rfl
         have hfz57_0 := blk_frozen BK204.out 0
         have hfz57_1 := blk_frozen BK204.out 1
         have hfz57_2 := blk_frozen BK204.out 2
         have hfz57_3 := blk_frozen BK204.out 3
         go_wp2_with (first | ((with_reducible refine gate_callee (f := 23) rfl ?_); refine goesL_ (some 51) rfl rfl Tryd.func23 (by kernel_rfl) rfl #[.agg #[.int .i64 t220, .int .i64 t221, .slice Ao49 t222.length co49, .slice Ao50 t225.length co50], .agg #[.int .i64 t195, .int .i64 t196, .slice Ao9 t197.length co9, .slice Ao10 t200.length co10]] rfl ob_ ?_; (with_reducible refine (laws_eqFigure.calls kj4 t220 t221 _ _ t222 _ _ t225 t195 t196 _ _ t197 _ _ t200 true _ ?side1 ?side2 ?side3 ?side4 ?side5 ?side6 ?side7 ?side8 A51.out).mono ?_); (case side1 => refine (Kd.R_reads' (e := 3) (base := w.heap.size) (ok := fun k_ => ((((some k_ ≠ (.slice Ao50 t225.length co50 : Value).ownBlock ∧ some k_ ≠ (.slice Ao9 t197.length co9 : Value).ownBlock) ∧ some k_ ≠ (.slice Ao10 t200.length co10 : Value).ownBlock) ∧ some k_ ≠ (.slice Ao15 t207.length co15 : Value).ownBlock) ∧ some k_ ≠ (.slice Ao16 t210.length co16 : Value).ownBlock)) (n := t222.length) (c := co49) ?_).2.2; exact (by (with_reducible repeat (first | apply Kd.R_alloc | apply Kd.R_drewN | apply Kd.R_drew)); exact (Kd.R_mono (Kd.R_far (p := ⟨gb229, 3, none⟩) (Kd.R_far (p := ⟨gb229, 2, none⟩) (Kd.R_far (p := ⟨gb229, 1, none⟩) (Kd.R_far (p := ⟨gb229, 0, none⟩) (Kd.R_types HO224.out BK229.out (by decide)) (fun _ hk => hk.2) (.int .i64 t220)) (fun _ hk => hk.2) (.int .i64 t221)) (fun _ hk => hk.2) (.slice Ao49 t222.length co49)) (fun _ hk => hk.2) (.slice Ao50 t225.length co50)) (fun _ h_ => h_.1)))); (case side2 => exact (Kd.R_reads' HO224.out).2.1); (case side3 => refine (Kd.R_reads' (e := 3) (base := w.heap.size) (ok := fun k_ => ((((some k_ ≠ (.slice Ao49 t222.length co49 : Value).ownBlock ∧ some k_ ≠ (.slice Ao9 t197.length co9 : Value).ownBlock) ∧ some k_ ≠ (.slice Ao10 t200.length co10 : Value).ownBlock) ∧ some k_ ≠ (.slice Ao15 t207.length co15 : Value).ownBlock) ∧ some k_ ≠ (.slice Ao16 t210.length co16 : Value).ownBlock)) (n := t225.length) (c := co50) ?_).2.2; exact (by (with_reducible repeat (first | apply Kd.R_alloc | apply Kd.R_drewN | apply Kd.R_drew)); exact (Kd.R_mono (Kd.R_far (p := ⟨gb229, 3, none⟩) (Kd.R_far (p := ⟨gb229, 2, none⟩) (Kd.R_far (p := ⟨gb229, 1, none⟩) (Kd.R_far (p := ⟨gb229, 0, none⟩) (Kd.R_types HO227.out BK229.out (by decide)) (fun _ hk => hk.2) (.int .i64 t220)) (fun _ hk => hk.2) (.int .i64 t221)) (fun _ hk => hk.2) (.slice Ao49 t222.length co49)) (fun _ hk => hk.2) (.slice Ao50 t225.length co50)) (fun _ h_ => h_.1)))); (case side4 => exact (Kd.R_reads' HO227.out).2.1); (case side5 => refine (Kd.R_reads' (e := 3) (base := w.heap.size) (ok := fun k_ => (((some k_ ≠ (.slice Ao10 t200.length co10 : Value).ownBlock ∧ (some k_ ≠ (.slice Ao15 t207.length co15 : Value).ownBlock ∧ some k_ ≠ (.slice Ao16 t210.length co16 : Value).ownBlock)) ∧ some k_ ≠ (.slice Ao49 t222.length co49 : Value).ownBlock) ∧ some k_ ≠ (.slice Ao50 t225.length co50 : Value).ownBlock)) (n := t197.length) (c := co9) ?_).2.2; exact (by (with_reducible repeat (first | apply Kd.R_alloc | apply Kd.R_drewN | apply Kd.R_drew)); exact (Kd.R_mono (Kd.R_far (p := ⟨gb229, 3, none⟩) (Kd.R_far (p := ⟨gb229, 2, none⟩) (Kd.R_far (p := ⟨gb229, 1, none⟩) (Kd.R_far (p := ⟨gb229, 0, none⟩) (Kd.R_types HO_205002.out BK229.out (by decide)) (fun _ hk => hk.2) (.int .i64 t220)) (fun _ hk => hk.2) (.int .i64 t221)) (fun _ hk => hk.2) (.slice Ao49 t222.length co49)) (fun _ hk => hk.2) (.slice Ao50 t225.length co50)) (fun _ h_ => h_.1)))); (case side6 => exact (Kd.R_reads' HO_205002.out).2.1); (case side7 => refine (Kd.R_reads' (e := 3) (base := w.heap.size) (ok := fun k_ => (((some k_ ≠ (.slice Ao9 t197.length co9 : Value).ownBlock ∧ (some k_ ≠ (.slice Ao15 t207.length co15 : Value).ownBlock ∧ some k_ ≠ (.slice Ao16 t210.length co16 : Value).ownBlock)) ∧ some k_ ≠ (.slice Ao49 t222.length co49 : Value).ownBlock) ∧ some k_ ≠ (.slice Ao50 t225.length co50 : Value).ownBlock)) (n := t200.length) (c := co10) ?_).2.2; exact (by (with_reducible repeat (first | apply Kd.R_alloc | apply Kd.R_drewN | apply Kd.R_drew)); exact (Kd.R_mono (Kd.R_far (p := ⟨gb229, 3, none⟩) (Kd.R_far (p := ⟨gb229, 2, none⟩) (Kd.R_far (p := ⟨gb229, 1, none⟩) (Kd.R_far (p := ⟨gb229, 0, none⟩) (Kd.R_types HO_205003.out BK229.out (by decide)) (fun _ hk => hk.2) (.int .i64 t220)) (fun _ hk => hk.2) (.int .i64 t221)) (fun _ hk => hk.2) (.slice Ao49 t222.length co49)) (fun _ hk => hk.2) (.slice Ao50 t225.length co50)) (fun _ h_ => h_.1)))); (case side8 => exact (Kd.R_reads' HO_205003.out).2.1); rintro e w58 ⟨rfl, hb⟩; refine ⟨_, rfl, ?_⟩; have n0_ := Aside0.mk (Kd.R_below (by (with_reducible repeat (first | apply Kd.R_alloc | apply Kd.R_drewN | apply Kd.R_drew)); exact (Kd.R_mono (Kd.R_far (p := ⟨gb229, 3, none⟩) (Kd.R_far (p := ⟨gb229, 2, none⟩) (Kd.R_far (p := ⟨gb229, 1, none⟩) (Kd.R_far (p := ⟨gb229, 0, none⟩) (Kd.R_types HO_205002.out BK229.out (by decide)) (fun _ hk => hk.2) (.int .i64 t220)) (fun _ hk => hk.2) (.int .i64 t221)) (fun _ hk => hk.2) (.slice Ao49 t222.length co49)) (fun _ hk => hk.2) (.slice Ao50 t225.length co50)) (fun _ h_ => h_.1))) hb); have n1_ := Aside0.mk (Kd.R_below (by (with_reducible repeat (first | apply Kd.R_alloc | apply Kd.R_drewN | apply Kd.R_drew)); exact (Kd.R_mono (Kd.R_far (p := ⟨gb229, 3, none⟩) (Kd.R_far (p := ⟨gb229, 2, none⟩) (Kd.R_far (p := ⟨gb229, 1, none⟩) (Kd.R_far (p := ⟨gb229, 0, none⟩) (Kd.R_types HO_205003.out BK229.out (by decide)) (fun _ hk => hk.2) (.int .i64 t220)) (fun _ hk => hk.2) (.int .i64 t221)) (fun _ hk => hk.2) (.slice Ao49 t222.length co49)) (fun _ hk => hk.2) (.slice Ao50 t225.length co50)) (fun _ h_ => h_.1))) hb); have n2_ := Aside0.mk (Kd.R_below (by (with_reducible repeat (first | apply Kd.R_alloc | apply Kd.R_drewN | apply Kd.R_drew)); exact (Kd.R_mono (Kd.R_far (p := ⟨gb229, 3, none⟩) (Kd.R_far (p := ⟨gb229, 2, none⟩) (Kd.R_far (p := ⟨gb229, 1, none⟩) (Kd.R_far (p := ⟨gb229, 0, none⟩) (Kd.R_types HO_215002.out BK229.out (by decide)) (fun _ hk => hk.2) (.int .i64 t220)) (fun _ hk => hk.2) (.int .i64 t221)) (fun _ hk => hk.2) (.slice Ao49 t222.length co49)) (fun _ hk => hk.2) (.slice Ao50 t225.length co50)) (fun _ h_ => h_.1))) hb); have n3_ := Aside0.mk (Kd.R_below (by (with_reducible repeat (first | apply Kd.R_alloc | apply Kd.R_drewN | apply Kd.R_drew)); exact (Kd.R_mono (Kd.R_far (p := ⟨gb229, 3, none⟩) (Kd.R_far (p := ⟨gb229, 2, none⟩) (Kd.R_far (p := ⟨gb229, 1, none⟩) (Kd.R_far (p := ⟨gb229, 0, none⟩) (Kd.R_types HO_215003.out BK229.out (by decide)) (fun _ hk => hk.2) (.int .i64 t220)) (fun _ hk => hk.2) (.int .i64 t221)) (fun _ hk => hk.2) (.slice Ao49 t222.length co49)) (fun _ hk => hk.2) (.slice Ao50 t225.length co50)) (fun _ h_ => h_.1))) hb); have n4_ := Aside0.mk (Kd.R_below (by (with_reducible repeat (first | apply Kd.R_alloc | apply Kd.R_drewN | apply Kd.R_drew)); exact (Kd.R_mono (Kd.R_far (p := ⟨gb229, 3, none⟩) (Kd.R_far (p := ⟨gb229, 2, none⟩) (Kd.R_far (p := ⟨gb229, 1, none⟩) (Kd.R_far (p := ⟨gb229, 0, none⟩) (Kd.R_types HO224.out BK229.out (by decide)) (fun _ hk => hk.2) (.int .i64 t220)) (fun _ hk => hk.2) (.int .i64 t221)) (fun _ hk => hk.2) (.slice Ao49 t222.length co49)) (fun _ hk => hk.2) (.slice Ao50 t225.length co50)) (fun _ h_ => h_.1))) hb); have n5_ := Aside0.mk (Kd.R_below (by (with_reducible repeat (first | apply Kd.R_alloc | apply Kd.R_drewN | apply Kd.R_drew)); exact (Kd.R_mono (Kd.R_far (p := ⟨gb229, 3, none⟩) (Kd.R_far (p := ⟨gb229, 2, none⟩) (Kd.R_far (p := ⟨gb229, 1, none⟩) (Kd.R_far (p := ⟨gb229, 0, none⟩) (Kd.R_types HO227.out BK229.out (by decide)) (fun _ hk => hk.2) (.int .i64 t220)) (fun _ hk => hk.2) (.int .i64 t221)) (fun _ hk => hk.2) (.slice Ao49 t222.length co49)) (fun _ hk => hk.2) (.slice Ao50 t225.length co50)) (fun _ h_ => h_.1))) hb); have n6_ := Aside0.mk (blk_below (g := gb204) (o := .cells #[.int .i64 t195, .int .i64 t196, .slice Ao9 t197.length co9, .slice Ao10 t200.length co10] 36 (0, 0)) (bf4_ NB204_229.out NB204_229.out NB204_229.out NB204_229.out BK204.out) hb); have n7_ := Aside0.mk (blk_below (g := gb214) (o := .cells #[.int .i64 t205, .int .i64 t206, .slice Ao15 t207.length co15, .slice Ao16 t210.length co16] 36 (0, 0)) (bf4_ NB214_229.out NB214_229.out NB214_229.out NB214_229.out BK214.out) hb); have n8_ := Aside0.mk (blk_below (g := gb229) (o := .cells #[.int .i64 t220, .int .i64 t221, .slice Ao49 t222.length co49, .slice Ao50 t225.length co50] 36 (0, 0)) (by (with_reducible repeat (first | refine blk_drewN ?_ _ | refine blk_drew ?_ | refine blk_alloc ?_ _)); refine blk_put (cs := #[.int .i64 t220, .int .i64 t221, .slice Ao49 t222.length co49, .slice none 0 0]) ?_ 3 _ rfl; (with_reducible repeat (first | refine blk_drewN ?_ _ | refine blk_drew ?_ | refine blk_alloc ?_ _)); refine blk_put (cs := #[.int .i64 t220, .int .i64 t221, .slice none 0 0, .slice none 0 0]) ?_ 2 _ rfl; (with_reducible repeat (first | refine blk_drewN ?_ _ | refine blk_drew ?_ | refine blk_alloc ?_ _)); refine blk_put (cs := #[.int .i64 t220, .int .i64 0, .slice none 0 0, .slice none 0 0]) ?_ 1 _ rfl; (with_reducible repeat (first | refine blk_drewN ?_ _ | refine blk_drew ?_ | refine blk_alloc ?_ _)); refine blk_put (cs := #[.int .i64 0, .int .i64 0, .slice none 0 0, .slice none 0 0]) ?_ 0 _ rfl; (with_reducible repeat (first | refine blk_drewN ?_ _ | refine blk_drew ?_ | refine blk_alloc ?_ _)); exact BK229.out) hb); have n9_ := Aside0.mk (below_step (bl3_ HB.out GE204.out GE214.out GE229.out) hb); clear HO_205002; clear HO_205003; clear HO_215002; clear HO_215003; clear HO224; clear HO227; clear BK204; clear BK214; clear BK229; clear HB; have HO_205002 := n0_; have HO_205003 := n1_; have HO_215002 := n2_; have HO_215003 := n3_; have HO224 := n4_; have HO227 := n5_; have BK204 := n6_; have BK214 := n7_; have BK229 := n8_; have HB := n9_; clear n0_ n1_ n2_ n3_ n4_ n5_ n6_ n7_ n8_ n9_; (try clear hb); (try clear hb2); (try clear hk); (try clear hi)))
         go_meet
         case rel => exact ⟨_, ((t228 != t203)), rs_, H', ⟨by have := HJ4.out; first | omega | exact Nat.le_refl _⟩, ⟨by (with_reducible repeat (first | apply Kd.R_alloc | apply Kd.R_drewN | apply Kd.R_drew)); exact Kd.R_mono HO_205002.out (fun _ hk => ⟨hk.1.1.1, ⟨hk.1.1.2.1, ⟨hk.1.1.2.2, ⟨hk.1.2, hk.2⟩⟩⟩⟩)⟩, ⟨by (with_reducible repeat (first | apply Kd.R_alloc | apply Kd.R_drewN | apply Kd.R_drew)); exact Kd.R_mono HO_205003.out (fun _ hk => ⟨hk.1.1.1, ⟨hk.1.1.2.1, ⟨hk.1.1.2.2, ⟨hk.1.2, hk.2⟩⟩⟩⟩)⟩, ⟨by (with_reducible repeat (first | apply Kd.R_alloc | apply Kd.R_drewN | apply Kd.R_drew)); exact Kd.R_mono HO_215002.out (fun _ hk => ⟨hk.1.1.1, ⟨hk.1.1.2.1, ⟨hk.1.1.2.2, ⟨hk.1.2, hk.2⟩⟩⟩⟩)⟩, ⟨by (with_reducible repeat (first | apply Kd.R_alloc | apply Kd.R_drewN | apply Kd.R_drew)); exact Kd.R_mono HO_215003.out (fun _ hk => ⟨hk.1.1.1, ⟨hk.1.1.2.1, ⟨hk.1.1.2.2, ⟨hk.1.2, hk.2⟩⟩⟩⟩)⟩, ⟨by (with_reducible repeat (first | apply Kd.R_alloc | apply Kd.R_drewN | apply Kd.R_drew)); exact Kd.R_mono HO224.out (fun _ hk => ⟨hk.1.1.1.2, ⟨hk.1.1.2, ⟨hk.1.2, ⟨hk.2, hk.1.1.1.1⟩⟩⟩⟩)⟩, ⟨by (with_reducible repeat (first | apply Kd.R_alloc | apply Kd.R_drewN | apply Kd.R_drew)); exact Kd.R_mono HO227.out (fun _ hk => ⟨hk.1.1.1.2, ⟨hk.1.1.2, ⟨hk.1.2, ⟨hk.2, hk.1.1.1.1⟩⟩⟩⟩)⟩, ⟨bk_ BK204.out⟩, ⟨bk_ BK214.out⟩, ⟨bk_ BK229.out⟩, ⟨bl3_ HB.out GE204.out GE214.out GE229.out⟩⟩
        ·replace c52 := Bool.eq_false_iff.mpr c52
         subst c52
         have H1 : (laws_FnExactParseFigure.j1 kj4 t216 true t205 t206 t217 t218) = some r := by rw [if_neg (show ¬ (false = true) by decide)] at H; exact H
         clear H
         have H := H1
         clear H1
         have H' := Aside0.mk H
         clear H
         have hnb59 := NB229_204.out
         have hnc59 := NB204_229.out
         have hnb60 := NB229_214.out
         have hnc60 := NB214_229.out
         have hcz61_0 : w45.cell? ⟨gb229, 0, none⟩ = some (.int .i64 0) := (blk_cell BK229.out 0).trans rfl
         have hcz61_1 : w45.cell? ⟨gb229, 1, none⟩ = some (.int .i64 0) := (blk_cell BK229.out 1).trans rfl
         have hcz61_2 : w45.cell? ⟨gb229, 2, none⟩ = some (.slice none 0 0) := (blk_cell BK229.out 2).trans rfl
         have hcz61_3 : w45.cell? ⟨gb229, 3, none⟩ = some (.slice none 0 0) := (blk_cell BK229.out 3).trans rfl
         have hfz61_0 := blk_frozen BK229.out 0
         have hfz61_1 := blk_frozen BK229.out 1
         have hfz61_2 := blk_frozen BK229.out 2
         have hfz61_3 := blk_frozen BK229.out 3
         have hnb62 := NB204_214.out
         have hnc62 := NB214_204.out
         have hcz63_0 : w45.cell? ⟨gb204, 0, none⟩ = some (.int .i64 t195) := (blk_cell BK204.out 0).trans rfl
         have hcz63_1 : w45.cell? ⟨gb204, 1, none⟩ = some (.int .i64 t196) := (blk_cell BK204.out 1).trans rfl
         have hcz63_2 : w45.cell? ⟨gb204, 2, none⟩ = some (.slice Ao9 t197.length co9) := (blk_cell BK204.out 2).trans rfl
         have hcz63_3 : w45.cell? ⟨gb204, 3, none⟩ = some (.slice Ao10 t200.length co10) := (blk_cell BK204.out 3).trans rfl
         have hfz63_0 := blk_frozen BK204.out 0
         have hfz63_1 := blk_frozen BK204.out 1
         have hfz63_2 := blk_frozen BK204.out 2
         have hfz63_3 := blk_frozen BK204.out 3
         go_wp2_with (first | ((with_reducible refine gate_callee (f := 23) rfl ?_); refine goesL_ (some 51) rfl rfl Tryd.func23 (by kernel_rfl) rfl #[.agg #[.int .i64 t220, .int .i64 t221, .slice Ao49 t222.length co49, .slice Ao50 t225.length co50], .agg #[.int .i64 t195, .int .i64 t196, .slice Ao9 t197.length co9, .slice Ao10 t200.length co10]] rfl ob_ ?_; (with_reducible refine (laws_eqFigure.calls kj4 t220 t221 _ _ t222 _ _ t225 t195 t196 _ _ t197 _ _ t200 false _ ?side1 ?side2 ?side3 ?side4 ?side5 ?side6 ?side7 ?side8 A51.out).mono ?_); (case side1 => refine (Kd.R_reads' (e := 3) (base := w.heap.size) (ok := fun k_ => ((((some k_ ≠ (.slice Ao50 t225.length co50 : Value).ownBlock ∧ some k_ ≠ (.slice Ao9 t197.length co9 : Value).ownBlock) ∧ some k_ ≠ (.slice Ao10 t200.length co10 : Value).ownBlock) ∧ some k_ ≠ (.slice Ao15 t207.length co15 : Value).ownBlock) ∧ some k_ ≠ (.slice Ao16 t210.length co16 : Value).ownBlock)) (n := t222.length) (c := co49) ?_).2.2; exact (by (with_reducible repeat (first | apply Kd.R_alloc | apply Kd.R_drewN | apply Kd.R_drew)); exact (Kd.R_mono (Kd.R_far (p := ⟨gb229, 3, none⟩) (Kd.R_far (p := ⟨gb229, 2, none⟩) (Kd.R_far (p := ⟨gb229, 1, none⟩) (Kd.R_far (p := ⟨gb229, 0, none⟩) (Kd.R_types HO224.out BK229.out (by decide)) (fun _ hk => hk.2) (.int .i64 t220)) (fun _ hk => hk.2) (.int .i64 t221)) (fun _ hk => hk.2) (.slice Ao49 t222.length co49)) (fun _ hk => hk.2) (.slice Ao50 t225.length co50)) (fun _ h_ => h_.1)))); (case side2 => exact (Kd.R_reads' HO224.out).2.1); (case side3 => refine (Kd.R_reads' (e := 3) (base := w.heap.size) (ok := fun k_ => ((((some k_ ≠ (.slice Ao49 t222.length co49 : Value).ownBlock ∧ some k_ ≠ (.slice Ao9 t197.length co9 : Value).ownBlock) ∧ some k_ ≠ (.slice Ao10 t200.length co10 : Value).ownBlock) ∧ some k_ ≠ (.slice Ao15 t207.length co15 : Value).ownBlock) ∧ some k_ ≠ (.slice Ao16 t210.length co16 : Value).ownBlock)) (n := t225.length) (c := co50) ?_).2.2; exact (by (with_reducible repeat (first | apply Kd.R_alloc | apply Kd.R_drewN | apply Kd.R_drew)); exact (Kd.R_mono (Kd.R_far (p := ⟨gb229, 3, none⟩) (Kd.R_far (p := ⟨gb229, 2, none⟩) (Kd.R_far (p := ⟨gb229, 1, none⟩) (Kd.R_far (p := ⟨gb229, 0, none⟩) (Kd.R_types HO227.out BK229.out (by decide)) (fun _ hk => hk.2) (.int .i64 t220)) (fun _ hk => hk.2) (.int .i64 t221)) (fun _ hk => hk.2) (.slice Ao49 t222.length co49)) (fun _ hk => hk.2) (.slice Ao50 t225.length co50)) (fun _ h_ => h_.1)))); (case side4 => exact (Kd.R_reads' HO227.out).2.1); (case side5 => refine (Kd.R_reads' (e := 3) (base := w.heap.size) (ok := fun k_ => (((some k_ ≠ (.slice Ao10 t200.length co10 : Value).ownBlock ∧ (some k_ ≠ (.slice Ao15 t207.length co15 : Value).ownBlock ∧ some k_ ≠ (.slice Ao16 t210.length co16 : Value).ownBlock)) ∧ some k_ ≠ (.slice Ao49 t222.length co49 : Value).ownBlock) ∧ some k_ ≠ (.slice Ao50 t225.length co50 : Value).ownBlock)) (n := t197.length) (c := co9) ?_).2.2; exact (by (with_reducible repeat (first | apply Kd.R_alloc | apply Kd.R_drewN | apply Kd.R_drew)); exact (Kd.R_mono (Kd.R_far (p := ⟨gb229, 3, none⟩) (Kd.R_far (p := ⟨gb229, 2, none⟩) (Kd.R_far (p := ⟨gb229, 1, none⟩) (Kd.R_far (p := ⟨gb229, 0, none⟩) (Kd.R_types HO_205002.out BK229.out (by decide)) (fun _ hk => hk.2) (.int .i64 t220)) (fun _ hk => hk.2) (.int .i64 t221)) (fun _ hk => hk.2) (.slice Ao49 t222.length co49)) (fun _ hk => hk.2) (.slice Ao50 t225.length co50)) (fun _ h_ => h_.1)))); (case side6 => exact (Kd.R_reads' HO_205002.out).2.1); (case side7 => refine (Kd.R_reads' (e := 3) (base := w.heap.size) (ok := fun k_ => (((some k_ ≠ (.slice Ao9 t197.length co9 : Value).ownBlock ∧ (some k_ ≠ (.slice Ao15 t207.length co15 : Value).ownBlock ∧ some k_ ≠ (.slice Ao16 t210.length co16 : Value).ownBlock)) ∧ some k_ ≠ (.slice Ao49 t222.length co49 : Value).ownBlock) ∧ some k_ ≠ (.slice Ao50 t225.length co50 : Value).ownBlock)) (n := t200.length) (c := co10) ?_).2.2; exact (by (with_reducible repeat (first | apply Kd.R_alloc | apply Kd.R_drewN | apply Kd.R_drew)); exact (Kd.R_mono (Kd.R_far (p := ⟨gb229, 3, none⟩) (Kd.R_far (p := ⟨gb229, 2, none⟩) (Kd.R_far (p := ⟨gb229, 1, none⟩) (Kd.R_far (p := ⟨gb229, 0, none⟩) (Kd.R_types HO_205003.out BK229.out (by decide)) (fun _ hk => hk.2) (.int .i64 t220)) (fun _ hk => hk.2) (.int .i64 t221)) (fun _ hk => hk.2) (.slice Ao49 t222.length co49)) (fun _ hk => hk.2) (.slice Ao50 t225.length co50)) (fun _ h_ => h_.1)))); (case side8 => exact (Kd.R_reads' HO_205003.out).2.1); rintro e w64 ⟨rfl, hb⟩; refine ⟨_, rfl, ?_⟩; have n0_ := Aside0.mk (Kd.R_below (by (with_reducible repeat (first | apply Kd.R_alloc | apply Kd.R_drewN | apply Kd.R_drew)); exact (Kd.R_mono (Kd.R_far (p := ⟨gb229, 3, none⟩) (Kd.R_far (p := ⟨gb229, 2, none⟩) (Kd.R_far (p := ⟨gb229, 1, none⟩) (Kd.R_far (p := ⟨gb229, 0, none⟩) (Kd.R_types HO_205002.out BK229.out (by decide)) (fun _ hk => hk.2) (.int .i64 t220)) (fun _ hk => hk.2) (.int .i64 t221)) (fun _ hk => hk.2) (.slice Ao49 t222.length co49)) (fun _ hk => hk.2) (.slice Ao50 t225.length co50)) (fun _ h_ => h_.1))) hb); have n1_ := Aside0.mk (Kd.R_below (by (with_reducible repeat (first | apply Kd.R_alloc | apply Kd.R_drewN | apply Kd.R_drew)); exact (Kd.R_mono (Kd.R_far (p := ⟨gb229, 3, none⟩) (Kd.R_far (p := ⟨gb229, 2, none⟩) (Kd.R_far (p := ⟨gb229, 1, none⟩) (Kd.R_far (p := ⟨gb229, 0, none⟩) (Kd.R_types HO_205003.out BK229.out (by decide)) (fun _ hk => hk.2) (.int .i64 t220)) (fun _ hk => hk.2) (.int .i64 t221)) (fun _ hk => hk.2) (.slice Ao49 t222.length co49)) (fun _ hk => hk.2) (.slice Ao50 t225.length co50)) (fun _ h_ => h_.1))) hb); have n2_ := Aside0.mk (Kd.R_below (by (with_reducible repeat (first | apply Kd.R_alloc | apply Kd.R_drewN | apply Kd.R_drew)); exact (Kd.R_mono (Kd.R_far (p := ⟨gb229, 3, none⟩) (Kd.R_far (p := ⟨gb229, 2, none⟩) (Kd.R_far (p := ⟨gb229, 1, none⟩) (Kd.R_far (p := ⟨gb229, 0, none⟩) (Kd.R_types HO_215002.out BK229.out (by decide)) (fun _ hk => hk.2) (.int .i64 t220)) (fun _ hk => hk.2) (.int .i64 t221)) (fun _ hk => hk.2) (.slice Ao49 t222.length co49)) (fun _ hk => hk.2) (.slice Ao50 t225.length co50)) (fun _ h_ => h_.1))) hb); have n3_ := Aside0.mk (Kd.R_below (by (with_reducible repeat (first | apply Kd.R_alloc | apply Kd.R_drewN | apply Kd.R_drew)); exact (Kd.R_mono (Kd.R_far (p := ⟨gb229, 3, none⟩) (Kd.R_far (p := ⟨gb229, 2, none⟩) (Kd.R_far (p := ⟨gb229, 1, none⟩) (Kd.R_far (p := ⟨gb229, 0, none⟩) (Kd.R_types HO_215003.out BK229.out (by decide)) (fun _ hk => hk.2) (.int .i64 t220)) (fun _ hk => hk.2) (.int .i64 t221)) (fun _ hk => hk.2) (.slice Ao49 t222.length co49)) (fun _ hk => hk.2) (.slice Ao50 t225.length co50)) (fun _ h_ => h_.1))) hb); have n4_ := Aside0.mk (Kd.R_below (by (with_reducible repeat (first | apply Kd.R_alloc | apply Kd.R_drewN | apply Kd.R_drew)); exact (Kd.R_mono (Kd.R_far (p := ⟨gb229, 3, none⟩) (Kd.R_far (p := ⟨gb229, 2, none⟩) (Kd.R_far (p := ⟨gb229, 1, none⟩) (Kd.R_far (p := ⟨gb229, 0, none⟩) (Kd.R_types HO224.out BK229.out (by decide)) (fun _ hk => hk.2) (.int .i64 t220)) (fun _ hk => hk.2) (.int .i64 t221)) (fun _ hk => hk.2) (.slice Ao49 t222.length co49)) (fun _ hk => hk.2) (.slice Ao50 t225.length co50)) (fun _ h_ => h_.1))) hb); have n5_ := Aside0.mk (Kd.R_below (by (with_reducible repeat (first | apply Kd.R_alloc | apply Kd.R_drewN | apply Kd.R_drew)); exact (Kd.R_mono (Kd.R_far (p := ⟨gb229, 3, none⟩) (Kd.R_far (p := ⟨gb229, 2, none⟩) (Kd.R_far (p := ⟨gb229, 1, none⟩) (Kd.R_far (p := ⟨gb229, 0, none⟩) (Kd.R_types HO227.out BK229.out (by decide)) (fun _ hk => hk.2) (.int .i64 t220)) (fun _ hk => hk.2) (.int .i64 t221)) (fun _ hk => hk.2) (.slice Ao49 t222.length co49)) (fun _ hk => hk.2) (.slice Ao50 t225.length co50)) (fun _ h_ => h_.1))) hb); have n6_ := Aside0.mk (blk_below (g := gb204) (o := .cells #[.int .i64 t195, .int .i64 t196, .slice Ao9 t197.length co9, .slice Ao10 t200.length co10] 36 (0, 0)) (bf4_ NB204_229.out NB204_229.out NB204_229.out NB204_229.out BK204.out) hb); have n7_ := Aside0.mk (blk_below (g := gb214) (o := .cells #[.int .i64 t205, .int .i64 t206, .slice Ao15 t207.length co15, .slice Ao16 t210.length co16] 36 (0, 0)) (bf4_ NB214_229.out NB214_229.out NB214_229.out NB214_229.out BK214.out) hb); have n8_ := Aside0.mk (blk_below (g := gb229) (o := .cells #[.int .i64 t220, .int .i64 t221, .slice Ao49 t222.length co49, .slice Ao50 t225.length co50] 36 (0, 0)) (by (with_reducible repeat (first | refine blk_drewN ?_ _ | refine blk_drew ?_ | refine blk_alloc ?_ _)); refine blk_put (cs := #[.int .i64 t220, .int .i64 t221, .slice Ao49 t222.length co49, .slice none 0 0]) ?_ 3 _ rfl; (with_reducible repeat (first | refine blk_drewN ?_ _ | refine blk_drew ?_ | refine blk_alloc ?_ _)); refine blk_put (cs := #[.int .i64 t220, .int .i64 t221, .slice none 0 0, .slice none 0 0]) ?_ 2 _ rfl; (with_reducible repeat (first | refine blk_drewN ?_ _ | refine blk_drew ?_ | refine blk_alloc ?_ _)); refine blk_put (cs := #[.int .i64 t220, .int .i64 0, .slice none 0 0, .slice none 0 0]) ?_ 1 _ rfl; (with_reducible repeat (first | refine blk_drewN ?_ _ | refine blk_drew ?_ | refine blk_alloc ?_ _)); refine blk_put (cs := #[.int .i64 0, .int .i64 0, .slice none 0 0, .slice none 0 0]) ?_ 0 _ rfl; (with_reducible repeat (first | refine blk_drewN ?_ _ | refine blk_drew ?_ | refine blk_alloc ?_ _)); exact BK229.out) hb); have n9_ := Aside0.mk (below_step (bl3_ HB.out GE204.out GE214.out GE229.out) hb); clear HO_205002; clear HO_205003; clear HO_215002; clear HO_215003; clear HO224; clear HO227; clear BK204; clear BK214; clear BK229; clear HB; have HO_205002 := n0_; have HO_205003 := n1_; have HO_215002 := n2_; have HO_215003 := n3_; have HO224 := n4_; have HO227 := n5_; have BK204 := n6_; have BK214 := n7_; have BK229 := n8_; have HB := n9_; clear n0_ n1_ n2_ n3_ n4_ n5_ n6_ n7_ n8_ n9_; (try clear hb); (try clear hb2); (try clear hk); (try clear hi)))
         go_meet
         case rel => exact ⟨_, (true), rs_, H', ⟨by have := HJ4.out; first | omega | exact Nat.le_refl _⟩, ⟨by (with_reducible repeat (first | apply Kd.R_alloc | apply Kd.R_drewN | apply Kd.R_drew)); exact Kd.R_mono HO_205002.out (fun _ hk => ⟨hk.1.1.1, ⟨hk.1.1.2.1, ⟨hk.1.1.2.2, ⟨hk.1.2, hk.2⟩⟩⟩⟩)⟩, ⟨by (with_reducible repeat (first | apply Kd.R_alloc | apply Kd.R_drewN | apply Kd.R_drew)); exact Kd.R_mono HO_205003.out (fun _ hk => ⟨hk.1.1.1, ⟨hk.1.1.2.1, ⟨hk.1.1.2.2, ⟨hk.1.2, hk.2⟩⟩⟩⟩)⟩, ⟨by (with_reducible repeat (first | apply Kd.R_alloc | apply Kd.R_drewN | apply Kd.R_drew)); exact Kd.R_mono HO_215002.out (fun _ hk => ⟨hk.1.1.1, ⟨hk.1.1.2.1, ⟨hk.1.1.2.2, ⟨hk.1.2, hk.2⟩⟩⟩⟩)⟩, ⟨by (with_reducible repeat (first | apply Kd.R_alloc | apply Kd.R_drewN | apply Kd.R_drew)); exact Kd.R_mono HO_215003.out (fun _ hk => ⟨hk.1.1.1, ⟨hk.1.1.2.1, ⟨hk.1.1.2.2, ⟨hk.1.2, hk.2⟩⟩⟩⟩)⟩, ⟨by (with_reducible repeat (first | apply Kd.R_alloc | apply Kd.R_drewN | apply Kd.R_drew)); exact Kd.R_mono HO224.out (fun _ hk => ⟨hk.1.1.1.2, ⟨hk.1.1.2, ⟨hk.1.2, ⟨hk.2, hk.1.1.1.1⟩⟩⟩⟩)⟩, ⟨by (with_reducible repeat (first | apply Kd.R_alloc | apply Kd.R_drewN | apply Kd.R_drew)); exact Kd.R_mono HO227.out (fun _ hk => ⟨hk.1.1.1.2, ⟨hk.1.1.2, ⟨hk.1.2, ⟨hk.2, hk.1.1.1.1⟩⟩⟩⟩)⟩, ⟨bk_ BK204.out⟩, ⟨bk_ BK214.out⟩, ⟨bk_ BK229.out⟩, ⟨bl3_ HB.out GE204.out GE214.out GE229.out⟩⟩
       case rest =>
        clear HC38
        try clear c1
        try clear c2
        try clear c2b0
        try clear c2b1
        try clear p2
        try clear c3
        try clear c4
        try clear c5
        try clear c6
        try clear c13
        try clear c18
        try clear c19
        try clear c21
        try clear c22
        try clear c23
        try clear c24
        try clear c25
        try clear c27
        try clear c30
        try clear c30b0
        try clear c31
        try clear c36
        try clear c36b0
        try clear c36b1
        try clear c39
        try clear c46
        try clear c47
        try clear c52
        try clear c53
        try clear c54
        try clear c56
        try clear c59
        try clear c60
        try clear c62
        try clear hcz14_0
        try clear hcz14_1
        try clear hcz14_2
        try clear hcz14_3
        try clear hcz20_0
        try clear hcz20_1
        try clear hcz20_2
        try clear hcz20_3
        try clear hcz21_0
        try clear hcz21_1
        try clear hcz21_2
        try clear hcz21_3
        try clear hcz24_0
        try clear hcz24_1
        try clear hcz24_2
        try clear hcz24_3
        try clear hcz25_0
        try clear hcz25_1
        try clear hcz25_2
        try clear hcz25_3
        try clear hcz32_0
        try clear hcz32_1
        try clear hcz32_2
        try clear hcz32_3
        try clear hcz34_0
        try clear hcz34_1
        try clear hcz34_2
        try clear hcz34_3
        try clear hcz40_0
        try clear hcz40_1
        try clear hcz40_2
        try clear hcz40_3
        try clear hcz42_0
        try clear hcz42_1
        try clear hcz42_2
        try clear hcz42_3
        try clear hcz48_0
        try clear hcz48_1
        try clear hcz48_2
        try clear hcz48_3
        try clear hcz55_0
        try clear hcz55_1
        try clear hcz55_2
        try clear hcz55_3
        try clear hcz57_0
        try clear hcz57_1
        try clear hcz57_2
        try clear hcz57_3
        try clear hcz61_0
        try clear hcz61_1
        try clear hcz61_2
        try clear hcz61_3
        try clear hcz63_0
        try clear hcz63_1
        try clear hcz63_2
        try clear hcz63_3
        try clear hcz8_0
        try clear hcz8_1
        try clear hcz8_2
        try clear hcz8_3
        try clear hfz14_0
        try clear hfz14_1
        try clear hfz14_2
        try clear hfz14_3
        try clear hfz20_0
        try clear hfz20_1
        try clear hfz20_2
        try clear hfz20_3
        try clear hfz21_0
        try clear hfz21_1
        try clear hfz21_2
        try clear hfz21_3
        try clear hfz24_0
        try clear hfz24_1
        try clear hfz24_2
        try clear hfz24_3
        try clear hfz25_0
        try clear hfz25_1
        try clear hfz25_2
        try clear hfz25_3
        try clear hfz32_0
        try clear hfz32_1
        try clear hfz32_2
        try clear hfz32_3
        try clear hfz34_0
        try clear hfz34_1
        try clear hfz34_2
        try clear hfz34_3
        try clear hfz40_0
        try clear hfz40_1
        try clear hfz40_2
        try clear hfz40_3
        try clear hfz42_0
        try clear hfz42_1
        try clear hfz42_2
        try clear hfz42_3
        try clear hfz48_0
        try clear hfz48_1
        try clear hfz48_2
        try clear hfz48_3
        try clear hfz55_0
        try clear hfz55_1
        try clear hfz55_2
        try clear hfz55_3
        try clear hfz57_0
        try clear hfz57_1
        try clear hfz57_2
        try clear hfz57_3
        try clear hfz61_0
        try clear hfz61_1
        try clear hfz61_2
        try clear hfz61_3
        try clear hfz63_0
        try clear hfz63_1
        try clear hfz63_2
        try clear hfz63_3
        try clear hfz8_0
        try clear hfz8_1
        try clear hfz8_2
        try clear hfz8_3
        try clear p2
        obtain ⟨kq, x57_37, rfl, HA, HJ37, HO_205002, HO_205003, HO_215002, HO_215003, HO_230002, HO_230003, BK204, BK214, BK229, HB⟩ := hcut
        have hl215002_37 := (Kd.R_reads' HO_215002.out).1
        rw [hl215002_37] at HO_215002
        (try simp only [hl215002_37])
        (try simp only [hl215002_37] at BK204)
        (try simp only [hl215002_37] at BK214)
        (try simp only [hl215002_37] at BK229)
        (try simp only [hl215002_37] at HO_205002)
        (try simp only [hl215002_37] at HO_205003)
        (try simp only [hl215002_37] at HO_215003)
        (try simp only [hl215002_37] at HO_230002)
        (try simp only [hl215002_37] at HO_230003)
        have hl215003_37 := (Kd.R_reads' HO_215003.out).1
        rw [hl215003_37] at HO_215003
        (try simp only [hl215003_37])
        (try simp only [hl215003_37] at BK204)
        (try simp only [hl215003_37] at BK214)
        (try simp only [hl215003_37] at BK229)
        (try simp only [hl215003_37] at HO_205002)
        (try simp only [hl215003_37] at HO_205003)
        (try simp only [hl215003_37] at HO_215002)
        (try simp only [hl215003_37] at HO_230002)
        (try simp only [hl215003_37] at HO_230003)
        cases kq with
        | zero => exact absurd HA.out (by simp [laws_FnExactParseFigure.j1])
        | succ kj37 =>
         have H := HA.out
         clear HA
         simp only [laws_FnExactParseFigure.j1] at H
         by_cases c65 : x57_37 = true
         ·subst c65
          have H1 : (some false) = some r := by rw [if_pos rfl] at H; exact H
          clear H
          have H := H1
          clear H1
          obtain rfl := Option.some.inj H
          go_wp2
          go_ret
          exact ⟨er_, bl3_ HB.out GE204.out GE214.out GE229.out⟩
         ·replace c65 := Bool.eq_false_iff.mpr c65
          subst c65
          have H1 : ((laws_heldFigure.f kj37 t205 t206 t217 t218 101).bind fun t231 => (if t231 < 0 then (some false) else (if t231 = t216 then (some true) else (some false)))) = some r := by rw [if_neg (show ¬ (false = true) by decide)] at H; exact H
          clear H
          have H := H1
          clear H1
          replace H := Option.bind_eq_some_iff.mp H
          obtain ⟨t231, A660, H⟩ := H
          replace H : (if t231 < 0 then (some false) else (if t231 = t216 then (some true) else (some false))) = some r := H
          have A66 := Aside0.mk A660
          clear A660
          by_cases c67 : t231 < 0
          ·rw [if_pos c67] at H
           have c67b0 : decide (t231 < 0) = true := decide_eq_true c67
           clear c67
           obtain rfl := Option.some.inj H
           have hnb68 := NB214_204.out
           have hnc68 := NB204_214.out
           have hnb69 := NB214_229.out
           have hnc69 := NB229_214.out
           have hcz70_0 : wc.cell? ⟨gb214, 0, none⟩ = some (.int .i64 t205) := (blk_cell BK214.out 0).trans rfl
           have hcz70_1 : wc.cell? ⟨gb214, 1, none⟩ = some (.int .i64 t206) := (blk_cell BK214.out 1).trans rfl
           have hcz70_2 : wc.cell? ⟨gb214, 2, none⟩ = some (.slice Ao15 t217.length co15) := (blk_cell BK214.out 2).trans rfl
           have hcz70_3 : wc.cell? ⟨gb214, 3, none⟩ = some (.slice Ao16 t218.length co16) := (blk_cell BK214.out 3).trans rfl
           have hfz70_0 := blk_frozen BK214.out 0
           have hfz70_1 := blk_frozen BK214.out 1
           have hfz70_2 := blk_frozen BK214.out 2
           have hfz70_3 := blk_frozen BK214.out 3
           go_wp2_with (first | ((with_reducible refine gate_callee (f := 25) rfl ?_); refine goesL_ (some 60) rfl rfl Tryd.func25 (by kernel_rfl) rfl #[.agg #[.int .i64 t205, .int .i64 t206, .slice Ao15 t217.length co15, .slice Ao16 t218.length co16], .int .i64 101] rfl ob_ ?_; (with_reducible refine (laws_heldFigure.calls kj37 t205 t206 _ _ t217 _ _ t218 101 t231 _ ?side1 ?side2 ?side3 ?side4 A66.out).mono ?_); (case side1 => repeat (first | exact (Kd.R_reads' HO_215002.out).2.2 | (with_reducible refine Kd.C_alloc ?_ _) | (with_reducible refine Kd.C_drewN ?_ _) | (with_reducible refine Kd.C_drew ?_))); (case side2 => exact (Kd.R_reads' HO_215002.out).2.1); (case side3 => repeat (first | exact (Kd.R_reads' HO_215003.out).2.2 | (with_reducible refine Kd.C_alloc ?_ _) | (with_reducible refine Kd.C_drewN ?_ _) | (with_reducible refine Kd.C_drew ?_))); (case side4 => exact (Kd.R_reads' HO_215003.out).2.1); rintro e w71 ⟨rfl, hb⟩; refine ⟨_, rfl, ?_⟩; have n0_ := Aside0.mk (Kd.R_below (kr_ HO_205002.out) hb); have n1_ := Aside0.mk (Kd.R_below (kr_ HO_205003.out) hb); have n2_ := Aside0.mk (Kd.R_below (kr_ HO_215002.out) hb); have n3_ := Aside0.mk (Kd.R_below (kr_ HO_215003.out) hb); have n4_ := Aside0.mk (Kd.R_below (kr_ HO_230002.out) hb); have n5_ := Aside0.mk (Kd.R_below (kr_ HO_230003.out) hb); have n6_ := Aside0.mk (bb_ BK204.out hb); have n7_ := Aside0.mk (bb_ BK214.out hb); have n8_ := Aside0.mk (bb_ BK229.out hb); have n9_ := Aside0.mk (below_step (bl3_ HB.out GE204.out GE214.out GE229.out) hb); clear HO_205002; clear HO_205003; clear HO_215002; clear HO_215003; clear HO_230002; clear HO_230003; clear BK204; clear BK214; clear BK229; clear HB; have HO_205002 := n0_; have HO_205003 := n1_; have HO_215002 := n2_; have HO_215003 := n3_; have HO_230002 := n4_; have HO_230003 := n5_; have BK204 := n6_; have BK214 := n7_; have BK229 := n8_; have HB := n9_; clear n0_ n1_ n2_ n3_ n4_ n5_ n6_ n7_ n8_ n9_; (try clear hb); (try clear hb2); (try clear hk); (try clear hi)))
           go_ret
           exact ⟨er_, bl3_ HB.out GE204.out GE214.out GE229.out⟩
          ·rw [if_neg c67] at H
           have c67b0 : decide (t231 < 0) = false := decide_eq_false c67
           clear c67
           by_cases c72 : t231 = t216
           ·rw [if_pos c72] at H
            have c72b0 : (t231 == t216) = true := beq_iff_eq.mpr c72
            have c72b1 : (t231 != t216) = false := bne_eq_false_iff_eq.mpr c72
            clear c72
            obtain rfl := Option.some.inj H
            have hnb73 := NB214_204.out
            have hnc73 := NB204_214.out
            have hnb74 := NB214_229.out
            have hnc74 := NB229_214.out
            have hcz75_0 : wc.cell? ⟨gb214, 0, none⟩ = some (.int .i64 t205) := (blk_cell BK214.out 0).trans rfl
            have hcz75_1 : wc.cell? ⟨gb214, 1, none⟩ = some (.int .i64 t206) := (blk_cell BK214.out 1).trans rfl
            have hcz75_2 : wc.cell? ⟨gb214, 2, none⟩ = some (.slice Ao15 t217.length co15) := (blk_cell BK214.out 2).trans rfl
            have hcz75_3 : wc.cell? ⟨gb214, 3, none⟩ = some (.slice Ao16 t218.length co16) := (blk_cell BK214.out 3).trans rfl
            have hfz75_0 := blk_frozen BK214.out 0
            have hfz75_1 := blk_frozen BK214.out 1
            have hfz75_2 := blk_frozen BK214.out 2
            have hfz75_3 := blk_frozen BK214.out 3
            go_wp2_with (first | ((with_reducible refine gate_callee (f := 25) rfl ?_); refine goesL_ (some 60) rfl rfl Tryd.func25 (by kernel_rfl) rfl #[.agg #[.int .i64 t205, .int .i64 t206, .slice Ao15 t217.length co15, .slice Ao16 t218.length co16], .int .i64 101] rfl ob_ ?_; (with_reducible refine (laws_heldFigure.calls kj37 t205 t206 _ _ t217 _ _ t218 101 t231 _ ?side1 ?side2 ?side3 ?side4 A66.out).mono ?_); (case side1 => repeat (first | exact (Kd.R_reads' HO_215002.out).2.2 | (with_reducible refine Kd.C_alloc ?_ _) | (with_reducible refine Kd.C_drewN ?_ _) | (with_reducible refine Kd.C_drew ?_))); (case side2 => exact (Kd.R_reads' HO_215002.out).2.1); (case side3 => repeat (first | exact (Kd.R_reads' HO_215003.out).2.2 | (with_reducible refine Kd.C_alloc ?_ _) | (with_reducible refine Kd.C_drewN ?_ _) | (with_reducible refine Kd.C_drew ?_))); (case side4 => exact (Kd.R_reads' HO_215003.out).2.1); rintro e w76 ⟨rfl, hb⟩; refine ⟨_, rfl, ?_⟩; have n0_ := Aside0.mk (Kd.R_below (kr_ HO_205002.out) hb); have n1_ := Aside0.mk (Kd.R_below (kr_ HO_205003.out) hb); have n2_ := Aside0.mk (Kd.R_below (kr_ HO_215002.out) hb); have n3_ := Aside0.mk (Kd.R_below (kr_ HO_215003.out) hb); have n4_ := Aside0.mk (Kd.R_below (kr_ HO_230002.out) hb); have n5_ := Aside0.mk (Kd.R_below (kr_ HO_230003.out) hb); have n6_ := Aside0.mk (bb_ BK204.out hb); have n7_ := Aside0.mk (bb_ BK214.out hb); have n8_ := Aside0.mk (bb_ BK229.out hb); have n9_ := Aside0.mk (below_step (bl3_ HB.out GE204.out GE214.out GE229.out) hb); clear HO_205002; clear HO_205003; clear HO_215002; clear HO_215003; clear HO_230002; clear HO_230003; clear BK204; clear BK214; clear BK229; clear HB; have HO_205002 := n0_; have HO_205003 := n1_; have HO_215002 := n2_; have HO_215003 := n3_; have HO_230002 := n4_; have HO_230003 := n5_; have BK204 := n6_; have BK214 := n7_; have BK229 := n8_; have HB := n9_; clear n0_ n1_ n2_ n3_ n4_ n5_ n6_ n7_ n8_ n9_; (try clear hb); (try clear hb2); (try clear hk); (try clear hi)))
            go_ret
            exact ⟨er_, bl3_ HB.out GE204.out GE214.out GE229.out⟩
           ·rw [if_neg c72] at H
            have c72b0 : (t231 == t216) = false := beq_eq_false_iff_ne.mpr c72
            have c72b1 : (t231 != t216) = true := bne_iff_ne.mpr c72
            obtain rfl := Option.some.inj H
            have hnb77 := NB214_204.out
            have hnc77 := NB204_214.out
            have hnb78 := NB214_229.out
            have hnc78 := NB229_214.out
            have hcz79_0 : wc.cell? ⟨gb214, 0, none⟩ = some (.int .i64 t205) := (blk_cell BK214.out 0).trans rfl
            have hcz79_1 : wc.cell? ⟨gb214, 1, none⟩ = some (.int .i64 t206) := (blk_cell BK214.out 1).trans rfl
            have hcz79_2 : wc.cell? ⟨gb214, 2, none⟩ = some (.slice Ao15 t217.length co15) := (blk_cell BK214.out 2).trans rfl
            have hcz79_3 : wc.cell? ⟨gb214, 3, none⟩ = some (.slice Ao16 t218.length co16) := (blk_cell BK214.out 3).trans rfl
            have hfz79_0 := blk_frozen BK214.out 0
            have hfz79_1 := blk_frozen BK214.out 1
            have hfz79_2 := blk_frozen BK214.out 2
            have hfz79_3 := blk_frozen BK214.out 3
            go_wp2_with (first | ((with_reducible refine gate_callee (f := 25) rfl ?_); refine goesL_ (some 60) rfl rfl Tryd.func25 (by kernel_rfl) rfl #[.agg #[.int .i64 t205, .int .i64 t206, .slice Ao15 t217.length co15, .slice Ao16 t218.length co16], .int .i64 101] rfl ob_ ?_; (with_reducible refine (laws_heldFigure.calls kj37 t205 t206 _ _ t217 _ _ t218 101 t231 _ ?side1 ?side2 ?side3 ?side4 A66.out).mono ?_); (case side1 => repeat (first | exact (Kd.R_reads' HO_215002.out).2.2 | (with_reducible refine Kd.C_alloc ?_ _) | (with_reducible refine Kd.C_drewN ?_ _) | (with_reducible refine Kd.C_drew ?_))); (case side2 => exact (Kd.R_reads' HO_215002.out).2.1); (case side3 => repeat (first | exact (Kd.R_reads' HO_215003.out).2.2 | (with_reducible refine Kd.C_alloc ?_ _) | (with_reducible refine Kd.C_drewN ?_ _) | (with_reducible refine Kd.C_drew ?_))); (case side4 => exact (Kd.R_reads' HO_215003.out).2.1); rintro e w80 ⟨rfl, hb⟩; refine ⟨_, rfl, ?_⟩; have n0_ := Aside0.mk (Kd.R_below (kr_ HO_205002.out) hb); have n1_ := Aside0.mk (Kd.R_below (kr_ HO_205003.out) hb); have n2_ := Aside0.mk (Kd.R_below (kr_ HO_215002.out) hb); have n3_ := Aside0.mk (Kd.R_below (kr_ HO_215003.out) hb); have n4_ := Aside0.mk (Kd.R_below (kr_ HO_230002.out) hb); have n5_ := Aside0.mk (Kd.R_below (kr_ HO_230003.out) hb); have n6_ := Aside0.mk (bb_ BK204.out hb); have n7_ := Aside0.mk (bb_ BK214.out hb); have n8_ := Aside0.mk (bb_ BK229.out hb); have n9_ := Aside0.mk (below_step (bl3_ HB.out GE204.out GE214.out GE229.out) hb); clear HO_205002; clear HO_205003; clear HO_215002; clear HO_215003; clear HO_230002; clear HO_230003; clear BK204; clear BK214; clear BK229; clear HB; have HO_205002 := n0_; have HO_205003 := n1_; have HO_215002 := n2_; have HO_215003 := n3_; have HO_230002 := n4_; have HO_230003 := n5_; have BK204 := n6_; have BK214 := n7_; have BK229 := n8_; have HB := n9_; clear n0_ n1_ n2_ n3_ n4_ n5_ n6_ n7_ n8_ n9_; (try clear hb); (try clear hb2); (try clear hk); (try clear hi)))
            go_ret
            exact ⟨er_, bl3_ HB.out GE204.out GE214.out GE229.out⟩
      ·rw [if_neg c36] at H
       have c36b0 : (t219 == t216) = false := beq_eq_false_iff_ne.mpr c36
       have c36b1 : (t219 != t216) = true := bne_iff_ne.mpr c36
       obtain rfl := Option.some.inj H
       have hnb81 := NB214_204.out
       have hnc81 := NB204_214.out
       have hcz82_0 : wc.cell? ⟨gb214, 0, none⟩ = some (.int .i64 t205) := (blk_cell BK214.out 0).trans rfl
       have hcz82_1 : wc.cell? ⟨gb214, 1, none⟩ = some (.int .i64 t206) := (blk_cell BK214.out 1).trans rfl
       have hcz82_2 : wc.cell? ⟨gb214, 2, none⟩ = some (.slice Ao15 t207.length co15) := (blk_cell BK214.out 2).trans rfl
       have hcz82_3 : wc.cell? ⟨gb214, 3, none⟩ = some (.slice Ao16 t210.length co16) := (blk_cell BK214.out 3).trans rfl
       have hfz82_0 := blk_frozen BK214.out 0
       have hfz82_1 := blk_frozen BK214.out 1
       have hfz82_2 := blk_frozen BK214.out 2
       have hfz82_3 := blk_frozen BK214.out 3
       go_wp2_with (first | ((with_reducible refine gate_callee (f := 24) rfl ?_); refine goesL_ (some 35) rfl rfl Tryd.func24 (by kernel_rfl) rfl #[.agg #[.int .i64 t205, .int .i64 t206, .slice Ao15 t207.length co15, .slice Ao16 t210.length co16], .int .i64 101] rfl ob_ ?_; (with_reducible refine (laws_markFigure.calls kj4 t205 t206 (fun k_ => some k_ = (.slice Ao15 t207.length co15 : Value).ownBlock) (.slice Ao15 t207.length co15) t207 (fun k_ => some k_ = (.slice Ao16 t210.length co16 : Value).ownBlock) (.slice Ao16 t210.length co16) t210 101 t216 t217 t218 w _ ?side1 ?side2 ?side3 ?side4 ?side5 A28.out).mono ?_); (case side1 => repeat (first | (with_reducible first | exact HB.out | apply below_alloc | apply pw_below_drewN | apply below_drew1 | refine below_set ?_ GE204.out | refine below_set ?_ GE214.out) | exact HB.out)); (case side2 => exact Kd.R_tight rfl HO_215002.out); (case side3 => exact fun k_ e_ => (HO_215002.out.1 k_ e_.symm).2.2); (case side4 => exact Kd.R_tight rfl HO_215003.out); (case side5 => exact fun k_ e_ => (HO_215003.out.1 k_ e_.symm).2.2); rintro e w83 ⟨rfl, hy0, hy1, hb, hkp⟩; refine ⟨_, rfl, ?_⟩; have n0_ := Aside0.mk (Kd.R_mono (ok' := fun k_ => some k_ ≠ (.slice Ao10 t200.length co10 : Value).ownBlock ∧ some k_ ≠ (.slice Ao15 t207.length co15 : Value).ownBlock ∧ some k_ ≠ (.slice Ao16 t210.length co16 : Value).ownBlock) (Kd.R_keptB (HO_205002.out) hkp (fun k_ hk_ hs_ => Or.elim hs_ (fun e_ => (hk_.2.1) e_) (fun e_ => (hk_.2.2) e_))) (fun k_ hk_ => ⟨hk_.1.1, hk_.1.2.1, hk_.1.2.2⟩)); have n1_ := Aside0.mk (Kd.R_mono (ok' := fun k_ => some k_ ≠ (.slice Ao9 t197.length co9 : Value).ownBlock ∧ some k_ ≠ (.slice Ao15 t207.length co15 : Value).ownBlock ∧ some k_ ≠ (.slice Ao16 t210.length co16 : Value).ownBlock) (Kd.R_keptB (HO_205003.out) hkp (fun k_ hk_ hs_ => Or.elim hs_ (fun e_ => (hk_.2.1) e_) (fun e_ => (hk_.2.2) e_))) (fun k_ hk_ => ⟨hk_.1.1, hk_.1.2.1, hk_.1.2.2⟩)); have n2_ := Aside0.mk (Kd.R_reok rfl hy0 (fun k_ e_ => HO_215002.out.1 k_ e_)); have n3_ := Aside0.mk (Kd.R_reok rfl hy1 (fun k_ e_ => HO_215003.out.1 k_ e_)); have n4_ := Aside0.mk (blk_kept (bk_ BK204.out) hkp (fun hs_ => Or.elim hs_ (fun e_ => (fun e_ => (Kd.R_ne HO_215002.out BK204.out (by decide)) e_) e_) (fun e_ => (fun e_ => (Kd.R_ne HO_215003.out BK204.out (by decide)) e_) e_))); have n5_ := Aside0.mk (blk_kept (bk_ BK214.out) hkp (fun hs_ => Or.elim hs_ (fun e_ => (fun e_ => (Kd.R_ne HO_215002.out BK214.out (by decide)) e_) e_) (fun e_ => (fun e_ => (Kd.R_ne HO_215003.out BK214.out (by decide)) e_) e_))); have n6_ := Aside0.mk (hb); clear HO_205002; clear HO_205003; clear HO_215002; clear HO_215003; clear BK204; clear BK214; clear HB; have HO_205002 := n0_; have HO_205003 := n1_; have HO_215002 := n2_; have HO_215003 := n3_; have BK204 := n4_; have BK214 := n5_; have HB := n6_; clear n0_ n1_ n2_ n3_ n4_ n5_ n6_; (try clear hb); (try clear hkp); (try clear hy0); (try clear hy1); have hcz84_0 : w83.cell? ⟨gb214, 0, none⟩ = some (.int .i64 t205) := (blk_cell BK214.out 0).trans rfl; have hcz84_1 : w83.cell? ⟨gb214, 1, none⟩ = some (.int .i64 t206) := (blk_cell BK214.out 1).trans rfl; have hcz84_2 : w83.cell? ⟨gb214, 2, none⟩ = some (.slice Ao15 t207.length co15) := (blk_cell BK214.out 2).trans rfl; have hcz84_3 : w83.cell? ⟨gb214, 3, none⟩ = some (.slice Ao16 t210.length co16) := (blk_cell BK214.out 3).trans rfl; have hfz84_0 := blk_frozen BK214.out 0; have hfz84_1 := blk_frozen BK214.out 1; have hfz84_2 := blk_frozen BK214.out 2; have hfz84_3 := blk_frozen BK214.out 3) | ((with_reducible refine gate_callee (f := 25) rfl ?_); refine goesL_ (some 38) rfl rfl Tryd.func25 (by kernel_rfl) rfl #[.agg #[.int .i64 t205, .int .i64 t206, .slice Ao15 t217.length co15, .slice Ao16 t218.length co16], .int .i64 101] rfl (by (try simp only [List.map_toArray, List.map_cons, List.map_nil]); first | done | (rw [show t217.length = t207.length from (Kd.R_reads' HO_215002.out).1.symm, show t218.length = t210.length from (Kd.R_reads' HO_215003.out).1.symm] <;> rfl) | rfl | (simp only [List.length_drop, List.length_take]; rfl)) ?_; (with_reducible refine (laws_heldFigure.calls kj4 t205 t206 _ _ t217 _ _ t218 101 t219 _ ?side1 ?side2 ?side3 ?side4 A29.out).mono ?_); (case side1 => repeat (first | exact (Kd.R_reads' HO_215002.out).2.2 | (with_reducible refine Kd.C_alloc ?_ _) | (with_reducible refine Kd.C_drewN ?_ _) | (with_reducible refine Kd.C_drew ?_))); (case side2 => rw [show t217.length = t207.length from (Kd.R_reads' HO_215002.out).1.symm]; exact (Kd.R_reads' HO_215002.out).2.1); (case side3 => repeat (first | exact (Kd.R_reads' HO_215003.out).2.2 | (with_reducible refine Kd.C_alloc ?_ _) | (with_reducible refine Kd.C_drewN ?_ _) | (with_reducible refine Kd.C_drew ?_))); (case side4 => rw [show t218.length = t210.length from (Kd.R_reads' HO_215003.out).1.symm]; exact (Kd.R_reads' HO_215003.out).2.1); rintro e w85 ⟨rfl, hb⟩; refine ⟨_, rfl, ?_⟩; have n0_ := Aside0.mk (Kd.R_below (kr_ HO_205002.out) hb); have n1_ := Aside0.mk (Kd.R_below (kr_ HO_205003.out) hb); have n2_ := Aside0.mk (Kd.R_below (kr_ HO_215002.out) hb); have n3_ := Aside0.mk (Kd.R_below (kr_ HO_215003.out) hb); have n4_ := Aside0.mk (bb_ BK204.out hb); have n5_ := Aside0.mk (bb_ BK214.out hb); have n6_ := Aside0.mk (below_step (bl2_ HB.out GE204.out GE214.out) hb); clear HO_205002; clear HO_205003; clear HO_215002; clear HO_215003; clear BK204; clear BK214; clear HB; have HO_205002 := n0_; have HO_205003 := n1_; have HO_215002 := n2_; have HO_215003 := n3_; have BK204 := n4_; have BK214 := n5_; have HB := n6_; clear n0_ n1_ n2_ n3_ n4_ n5_ n6_; (try clear hb); (try clear hb2); (try clear hk); (try clear hi)))
       go_ret
       exact ⟨er_, bl2_ HB.out GE204.out GE214.out⟩

def laws_FnExactParseFigure.Pure : Prop := ∀ (a0 : ByteArray), a0.size ≤ 140737488351232 → ∃ k, laws_FnExactParseFigure.f k a0 = some true
theorem laws_FnExactParseFigure.walk (P : laws_FnExactParseFigure.Pure) (a0 : ByteArray) (w : World) (hT_ : TB w) (w0 : a0.size ≤ 140737488351232) :
  Calls Tryd.prog 6 #[.string a0] w fun e w' => e = .returned (.bool true) ∧ Below w.heap.size w w' := by
 obtain ⟨k, h⟩ := P a0 w0
 refine (laws_FnExactParseFigure.calls k a0 true w hT_ h).mono ?_
 rintro e w' ⟨rfl, hd⟩
 exact ⟨rfl, hd⟩


def cutL (c : UInt8) : List UInt8 → List (List UInt8)
  | [] => [[]]
  | b :: t => if b = c then [] :: cutL c t else match cutL c t with
    | [] => [[b]]
    | p :: r => (b :: p) :: r
theorem cutL_ne (c : UInt8) : ∀ l, cutL c l ≠ []
  | [] => by simp [cutL]
  | b :: t => by
    unfold cutL
    split
    · simp
    · split <;> simp
theorem cutL_app (c : UInt8) (t : List UInt8) : ∀ a, c ∉ a → cutL c (a ++ c :: t) = a :: cutL c t
  | [], _ => by simp [cutL]
  | b :: a, h => by
    have hb : ¬ b = c := fun e => h (by rw [e]; exact List.mem_cons_self)
    rw [List.cons_append, cutL, if_neg hb, cutL_app c t a (fun e => h (List.mem_cons_of_mem _ e))]
theorem cutL_none (c : UInt8) : ∀ a, c ∉ a → cutL c a = [a]
  | [], _ => rfl
  | b :: a, h => by
    have hb : ¬ b = c := fun e => h (by rw [e]; exact List.mem_cons_self)
    rw [cutL, if_neg hb, cutL_none c a (fun e => h (List.mem_cons_of_mem _ e))]
theorem idx1 (c : UInt8) : ∀ l, (Lib.index l [c] = -1 ∧ c ∉ l) ∨ ∃ a t, l = a ++ c :: t ∧ c ∉ a ∧ Lib.index l [c] = (a.length : Int)
  | [] => .inl ⟨rfl, by simp⟩
  | b :: l => by
    by_cases hb : b = c
    · subst hb
      exact .inr ⟨[], l, rfl, by simp, by simp [Lib.index]⟩
    · have e : [c].isPrefixOf (b :: l) = false := by
        rw [Bool.eq_false_iff]
        intro h
        rw [List.isPrefixOf_cons_cons, Bool.and_eq_true, beq_iff_eq] at h
        exact hb h.1.symm
      rcases idx1 c l with ⟨h1, h2⟩ | ⟨a, t, rfl, h2, h3⟩
      · refine .inl ⟨?_, fun h => ?_⟩
        · unfold Lib.index
          rw [e, h1]
          rfl
        · rcases List.mem_cons.1 h with h | h
          · exact hb h.symm
          · exact h2 h
      · refine .inr ⟨b :: a, t, rfl, fun h => ?_, ?_⟩
        · rcases List.mem_cons.1 h with h | h
          · exact hb h.symm
          · exact h2 h
        · unfold Lib.index
          rw [e, h3, if_neg (by simp), if_neg (by rw [beq_iff_eq]; omega), List.length_cons]
          omega
theorem splitK_cut (c : UInt8) : ∀ (n : Nat) (l : List UInt8), l.length ≤ n → Lib.splitK [c] 0 (Lib.count l [c]) l = cutL c l
  | n, l, hn => by
    rcases idx1 c l with ⟨h1, h2⟩ | ⟨a, t, rfl, h2, h3⟩
    · rw [Lib.count_miss h1, cutL_none c l h2]
      rfl
    · cases n with
      | zero => simp at hn
      | succ n =>
        have hd : (a ++ c :: t).drop (a.length + 1) = t := by
          rw [← List.drop_drop, List.drop_left]; rfl
        have ht : (a ++ c :: t).take a.length = a := List.take_left
        rw [Lib.count_hit (by simp) h3, List.length_singleton, hd, Nat.add_comm, Lib.splitK, if_neg (by rw [beq_iff_eq]; omega), h3]
        rw [show ((a.length : Nat) : Int).toNat = a.length by omega, Nat.add_zero, List.length_singleton, hd, ht]
        rw [splitK_cut c n t (by rw [List.length_append, List.length_cons] at hn; omega), cutL_app c t a h2]
theorem split_cut (c : UInt8) (s : ByteArray) : (Lib.splitB ⟨#[c]⟩ 0 (Lib.countB s ⟨#[c]⟩) s).map (·.data.toList) = cutL c s.data.toList := by
  rw [Lib.splitB_data]
  exact splitK_cut c _ s.data.toList (Nat.le_refl _)
def joinL (c : UInt8) : List (List UInt8) → List UInt8
  | [] => []
  | [p] => p
  | p :: q :: r => p ++ c :: joinL c (q :: r)
theorem join_cut (c : UInt8) : ∀ l, joinL c (cutL c l) = l
  | [] => rfl
  | b :: t => by
    have ih := join_cut c t
    have hne := cutL_ne c t
    unfold cutL
    by_cases hb : b = c
    · rw [if_pos hb]
      cases h : cutL c t with
      | nil => exact absurd h hne
      | cons p r =>
        rw [h] at ih
        rw [hb]
        show [] ++ c :: joinL c (p :: r) = c :: t
        rw [ih]; rfl
    · rw [if_neg hb]
      cases h : cutL c t with
      | nil => exact absurd h hne
      | cons p r =>
        rw [h] at ih
        cases r with
        | nil => simp only [joinL] at ih ⊢; rw [ih]
        | cons q r => simp only [joinL, List.cons_append] at ih ⊢; rw [ih]

def BA (l : List UInt8) : ByteArray := ⟨l.toArray⟩
def rowL (c : UInt8) (p : Nat → Bool) (n : Nat) : List UInt8 := (List.range n).map fun x => if p x = true then c else 46
def levP (w m y x : Nat) : Bool := m.testBit (y * w + x)
def uprP (w h m y x : Nat) : Bool := m.testBit (w * (h + 1) + (y * (w + 1) + x))
def textRows (w h m : Nat) : Nat → List (List UInt8)
  | 0 => []
  | y + 1 => if y < h then (textRows w h m y ++ [rowL 45 (levP w m y) w]) ++ [rowL 124 (uprP w h m y) (w + 1)] else textRows w h m y ++ [rowL 45 (levP w m y) w]
theorem and_edgeB {M e : Nat} (hM : M < 2 ^ 60) (he : e < 60) : (Go.bits .and .u64 (M : Int) ((2 ^ e : Nat) : Int) != 0) = M.testBit e := by
  have h := and_two e M
  rw [Nat.and_comm] at h
  rw [and_u64 _ _ hM (Nat.pow_lt_pow_right (by decide) he), h]
  have hp := Nat.two_pow_pos e
  cases M.testBit e with
  | false => rfl
  | true =>
    rw [if_pos rfl, bne_iff_ne]
    omega
theorem small_edge {w h x y : Nat} (hw : w ≤ 4) (hh : h ≤ 4) (hx : x ≤ w) (hy : y ≤ h) : y * w + x < 60 ∧ w * (h + 1) + (y * (w + 1) + x) < 60 := by
  have cw : w = 0 ∨ w = 1 ∨ w = 2 ∨ w = 3 ∨ w = 4 := by omega
  rcases cw with rfl | rfl | rfl | rfl | rfl <;> omega
theorem row_str (c : Int) (d : UInt8) (hc : UInt8.ofNat c.toNat = d) (p q : Nat → Bool) (n : Nat) (h : ∀ x, x < n → p x = q x) : (strOfNums (rowF c p n)).data.toList = rowL d q n := by
  rw [strOfNums_data]
  unfold rowF rowL
  rw [List.map_map]
  refine List.map_congr_left (fun x hx => ?_)
  rw [Function.comp_apply, h x (List.mem_range.1 hx)]
  cases q x with
  | true => rw [if_pos rfl, if_pos rfl, hc]
  | false => rw [if_neg (by decide), if_neg (by decide)]; rfl
theorem figRows_text {w h m : Nat} (g : GridOK (w : Int) (h : Int)) (hm : m < 2 ^ 60) : ∀ y, y ≤ h + 1 → (figRows w h (m : Int) y).map (fun x : ByteArray => x.data.toList) = textRows w h m y := by
  have w4 : w ≤ 4 := by have := g.w4; omega
  have h4 : h ≤ 4 := by have := g.h4; omega
  have hl : ∀ x y : Nat, x < w → y ≤ h → levB w h (m : Int) y x = levP w m y x := fun x y hx hy => by
    unfold levB levP
    rw [level_f g (Int.natCast_nonneg x) (by omega) (Int.natCast_nonneg y) (by omega), Option.getD_some, ← Int.natCast_mul, ← Int.natCast_add, Int.toNat_natCast]
    exact and_edgeB hm (small_edge w4 h4 (by omega) hy).1
  have hu : ∀ x y : Nat, x < w + 1 → y < h → uprB w h (m : Int) y x = uprP w h m y x := fun x y hx hy => by
    unfold uprB uprP
    rw [upright_f g (Int.natCast_nonneg x) (by omega) (Int.natCast_nonneg y) (by omega), Option.getD_some]
    rw [show (w : Int) * ((h : Int) + 1) = ((w * (h + 1) : Nat) : Int) by push_cast; rfl, show (y : Int) * ((w : Int) + 1) + (x : Int) = ((y * (w + 1) + x : Nat) : Int) by push_cast; rfl, Int.toNat_natCast, Int.toNat_natCast]
    exact and_edgeB hm (small_edge w4 h4 (by omega) (by omega)).2
  intro y
  induction y with
  | zero => intro _; rfl
  | succ y ih =>
    intro hy
    have ih := ih (by omega)
    have e1 : (levR w h (m : Int) y).data.toList = rowL 45 (levP w m y) w := row_str 45 45 rfl _ _ w (fun x hx => hl x y hx (by omega))
    unfold figRows textRows
    by_cases hyh : y < h
    · have e2 : (uprR w h (m : Int) y).data.toList = rowL 124 (uprP w h m y) (w + 1) := row_str 124 124 rfl _ _ (w + 1) (fun x hx => hu x y hx hyh)
      rw [if_pos hyh, if_pos hyh, List.map_append, List.map_append, ih, List.map_cons, List.map_cons, List.map_nil, e1, e2]
    · rw [if_neg hyh, if_neg hyh, List.map_append, ih, List.map_cons, List.map_nil, e1]
def figText (w h m : Nat) : ByteArray := BA (Lib.join (textRows w h m (h + 1)) [47])
theorem figureText_f {w h : Nat} {a u : List Int} (hf : figB (w : Int) (h : Int) a u = true) (ha : a.length ≤ 1000000) (hu : u.length ≤ 1000000) (k : Nat) (hk : 2000010 < k) : impl_figureText.f k (w : Int) (h : Int) a u = some (figText w h (figMask (w : Int) (h : Int) a u)) := by
  have g := gridOK_of hf
  unfold impl_figureText.f
  rw [set_f hf ha hu k hk, Option.bind_some, if_pos ⟨⟨g.w1, g.w4⟩, g.h1, g.h4⟩, Int.toNat_natCast, Int.toNat_natCast]
  unfold joinB figText BA
  rw [figRows_text g (figMask_lt hf) (h + 1) (Nat.le_refl _)]


theorem rising_ext : ∀ {l m : List Int}, l.Pairwise (· < ·) → m.Pairwise (· < ·) → (∀ x, x ∈ l ↔ x ∈ m) → l = m
  | [], [], _, _, _ => rfl
  | [], b :: m, _, _, h => by have := (h b).2 List.mem_cons_self; cases this
  | a :: l, [], _, _, h => by have := (h a).1 List.mem_cons_self; cases this
  | a :: l, b :: m, h1, h2, h => by
    rw [List.pairwise_cons] at h1 h2
    have e : a = b := by
      rcases List.mem_cons.1 ((h a).1 List.mem_cons_self) with e | e
      · exact e
      · rcases List.mem_cons.1 ((h b).2 List.mem_cons_self) with e2 | e2
        · exact e2.symm
        · have := h2.1 a e; have := h1.1 b e2; omega
    subst e
    rw [rising_ext h1.2 h2.2 (fun x => ?_)]
    constructor
    · intro hx
      rcases List.mem_cons.1 ((h x).1 (List.mem_cons_of_mem _ hx)) with e | e
      · have := h1.1 x hx; omega
      · exact e
    · intro hx
      rcases List.mem_cons.1 ((h x).2 (List.mem_cons_of_mem _ hx)) with e | e
      · have := h2.1 x hx; omega
      · exact e
theorem pw_rising : ∀ {l : List Int}, l.Pairwise (· < ·) → risingB l = true
  | [], _ => rfl
  | [a], _ => rfl
  | a :: b :: t, h => by
    rw [List.pairwise_cons] at h
    simp only [risingB, Bool.and_eq_true, decide_eq_true_iff]
    exact ⟨h.1 b List.mem_cons_self, pw_rising h.2⟩
def setL (n : Nat) (p : Nat → Bool) : List Int := ((List.range n).filter p).map fun n : Nat => (n : Int)
theorem setL_pw (n : Nat) (p : Nat → Bool) : (setL n p).Pairwise (· < ·) := by
  unfold setL
  rw [List.pairwise_map]
  exact (List.Pairwise.filter p List.pairwise_lt_range).imp (fun h => by omega)
theorem setL_mem (n : Nat) (p : Nat → Bool) (x : Int) : x ∈ setL n p ↔ ∃ i : Nat, (i : Int) = x ∧ i < n ∧ p i = true := by
  unfold setL
  rw [List.mem_map]
  constructor
  · rintro ⟨i, hi, rfl⟩
    rw [List.mem_filter, List.mem_range] at hi
    exact ⟨i, rfl, hi⟩
  · rintro ⟨i, rfl, hi⟩
    exact ⟨i, by rw [List.mem_filter, List.mem_range]; exact hi, rfl⟩
theorem setL_len (n : Nat) (p : Nat → Bool) : (setL n p).length ≤ n := by
  unfold setL
  rw [List.length_map]
  have := List.length_filter_le p (List.range n)
  rw [List.length_range] at this
  exact this
theorem setL_eq {n m : Nat} {p q : Nat → Bool} (h : ∀ i, (i < n ∧ p i = true) ↔ (i < m ∧ q i = true)) : setL n p = setL m q := by
  refine rising_ext (setL_pw n p) (setL_pw m q) (fun x => ?_)
  rw [setL_mem, setL_mem]
  constructor
  · rintro ⟨i, hi, h2⟩; exact ⟨i, hi, (h i).1 h2⟩
  · rintro ⟨i, hi, h2⟩; exact ⟨i, hi, (h i).2 h2⟩
theorem setL_in (n : Nat) (p : Nat → Bool) (i : Nat) : (i : Int) ∈ setL n p ↔ i < n ∧ p i = true := by
  rw [setL_mem]
  constructor
  · rintro ⟨j, hj, h⟩
    have : j = i := by omega
    subst this
    exact h
  · intro h; exact ⟨i, rfl, h⟩
theorem setL_succ (n : Nat) (p : Nat → Bool) : setL (n + 1) p = setL n p ++ if p n = true then [(n : Int)] else [] := by
  unfold setL
  rw [List.range_succ, List.filter_append, List.map_append]
  congr 1
  cases h : p n with
  | true => rw [List.filter_cons_of_pos h]; rfl
  | false => rw [List.filter_cons_of_neg (by rw [h]; simp)]; rfl


def rowA (w h : Int) (M : Nat) : List Int := setL (w * (h + 1)).toNat fun i => M.testBit i
def rowU (w h : Int) (M : Nat) : List Int := setL (h * (w + 1)).toNat fun i => M.testBit ((w * (h + 1)).toNat + i)
def figN (w h : Int) : Nat := (w * (h + 1)).toNat + (h * (w + 1)).toNat
theorem figN_le {w h : Int} (g : GridOK w h) : figN w h ≤ 40 ∧ (w * (h + 1)).toNat ≤ 20 ∧ (h * (w + 1)).toNat ≤ 20 := by
  obtain ⟨c1, c2, c3, c4⟩ := area_bounds g.w1 g.w4 g.h1 g.h4
  unfold figN
  omega
theorem rowA_len {w h : Int} (g : GridOK w h) (M : Nat) : (rowA w h M).length ≤ 20 := Nat.le_trans (setL_len _ _) (figN_le g).2.1
theorem rowU_len {w h : Int} (g : GridOK w h) (M : Nat) : (rowU w h M).length ≤ 20 := Nat.le_trans (setL_len _ _) (figN_le g).2.2
theorem pow_figN {w h : Int} (g : GridOK w h) {M : Nat} (hM : M < 2 ^ figN w h) : M < 2 ^ 60 := Nat.lt_of_lt_of_le hM (Nat.pow_le_pow_right (by omega) (by have := (figN_le g).1; omega))
theorem figMask_figN {w h : Int} {a u : List Int} (hf : figB w h a u = true) : figMask w h a u < 2 ^ figN w h := by
  have g := gridOK_of hf
  obtain ⟨c1, c2, c3, c4⟩ := area_bounds g.w1 g.w4 g.h1 g.h4
  unfold figB at hf
  simp only [Bool.and_eq_true] at hf
  obtain ⟨hg, -, -, hi1, hi2⟩ := hf
  apply Nat.lt_pow_two_of_testBit
  intro i hi
  unfold figN at hi
  unfold figMask
  rw [bitsFrom_test, bitsFrom_test, Nat.zero_testBit, Bool.false_or, Bool.or_eq_false_iff]
  constructor
  · rw [List.any_eq_false]
    intro x hx
    have hb := inB_mem hi1 x hx
    simp
    omega
  · rw [List.any_eq_false]
    intro x hx
    have hb := inB_mem hi2 x hx
    simp
    omega
theorem rowA_in {w h : Int} {M i : Nat} (hi : i < (w * (h + 1)).toNat) : (i : Int) ∈ rowA w h M ↔ M.testBit i = true := by
  unfold rowA; rw [setL_in]; exact ⟨fun h => h.2, fun h => ⟨hi, h⟩⟩
theorem rowU_in {w h : Int} {M i : Nat} (hi : i < (h * (w + 1)).toNat) : (i : Int) ∈ rowU w h M ↔ M.testBit ((w * (h + 1)).toNat + i) = true := by
  unfold rowU; rw [setL_in]; exact ⟨fun h => h.2, fun h => ⟨hi, h⟩⟩
theorem rowA_b {w h : Int} {M : Nat} : ∀ x ∈ rowA w h M, 0 ≤ x ∧ x < ((w * (h + 1)).toNat : Int) := fun x hx => by
  unfold rowA at hx
  rw [setL_mem] at hx
  obtain ⟨i, rfl, hi, -⟩ := hx
  omega
theorem rowU_b {w h : Int} {M : Nat} : ∀ x ∈ rowU w h M, 0 ≤ x ∧ x < ((h * (w + 1)).toNat : Int) := fun x hx => by
  unfold rowU at hx
  rw [setL_mem] at hx
  obtain ⟨i, rfl, hi, -⟩ := hx
  omega


theorem levels_f {w h : Int} (g : GridOK w h) : impl_grid_levels.f w h = some (((w * (h + 1)).toNat : Nat) : Int) := by
  obtain ⟨c1, c2, c3, c4⟩ := area_bounds g.w1 g.w4 g.h1 g.h4
  have w1 := g.w1
  have w4 := g.w4
  have h1 := g.h1
  have h4 := g.h4
  have e1 : wrap64 (h + 1) = h + 1 := by unfold wrap64; omega
  have e2 : wrap64 (w * (h + 1)) = (((w * (h + 1)).toNat : Nat) : Int) := by unfold wrap64; omega
  unfold impl_grid_levels.f
  rw [e1, e2]
theorem listed_setL {s : Nat} (hs : s < 2 ^ 60) : impl_set_listed.f (s : Int) = some (setL 64 fun i => s.testBit i) := by
  unfold impl_set_listed.f
  have h2 : (2 : Nat) ^ 60 = 1152921504606846976 := by decide
  rw [if_pos ⟨Int.natCast_nonneg _, by omega⟩, Int.toNat_natCast]
  rfl
theorem figure_f {w h : Int} (g : GridOK w h) {M : Nat} (hM : M < 2 ^ figN w h) : impl_grid_figure.f w h (M : Int) = some (w, h, rowA w h M, rowU w h M) := by
  have hM60 := pow_figN g hM
  obtain ⟨b1, b2, b3⟩ := figN_le g
  unfold impl_grid_figure.f
  rw [levels_f g, Option.bind_some, if_pos (Int.natCast_nonneg _), shl_u64 _ (by omega)]
  unfold rowA rowU
  unfold figN at hM
  generalize (w * (h + 1)).toNat = A at *
  generalize (h * (w + 1)).toNat = U at *
  have hp := Nat.two_pow_pos A
  have hA : 2 ^ A < 2 ^ 60 := pow_lt60 (by omega)
  have hA2 : 2 ^ A - 1 < 2 ^ 60 := by omega
  have e1 : IntKind.u64.wrap (((2 ^ A : Nat) : Int) - 1) = ((2 ^ A - 1 : Nat) : Int) := by
    have : ((2 ^ A : Nat) : Int) - 1 = ((2 ^ A - 1 : Nat) : Int) := by omega
    rw [this]
    exact u64_small _ (Int.natCast_nonneg _) (by
      have h2 : (2 : Nat) ^ 60 = 1152921504606846976 := by decide
      have h3 : (2 : Int) ^ 60 = 1152921504606846976 := by decide
      rw [h3]; omega)
  have e2 : shr .u64 (M : Int) (A : Int) = ((M >>> A : Nat) : Int) := by
    unfold shr
    rw [Int.toNat_natCast, Nat.min_eq_left (show A ≤ IntKind.u64.bits by have : IntKind.u64.bits = 64 := rfl; omega), Nat.shiftRight_eq_div_pow]
    exact_mod_cast rfl
  have hs : M >>> A < 2 ^ 60 := Nat.lt_of_le_of_lt (by rw [Nat.shiftRight_eq_div_pow]; exact Nat.div_le_self _ _) hM60
  rw [e1, and_u64 _ _ hM60 hA2, listed_setL (Nat.lt_of_le_of_lt Nat.and_le_left hM60), Option.bind_some, Option.bind_some, if_pos (Int.natCast_nonneg _), e2, listed_setL hs, Option.bind_some]
  have r1 : setL 64 (fun i => (M &&& (2 ^ A - 1)).testBit i) = setL A fun i => M.testBit i := setL_eq fun i => by
    rw [Nat.testBit_and, Nat.testBit_two_pow_sub_one]
    by_cases hi : i < A
    · simp [hi]; omega
    · simp [hi]
  have r2 : setL 64 (fun i => (M >>> A).testBit i) = setL U fun i => M.testBit (A + i) := setL_eq fun i => by
    rw [Nat.testBit_shiftRight]
    constructor
    · rintro ⟨h1, h2⟩
      refine ⟨?_, h2⟩
      rcases Nat.lt_or_ge i U with h3 | h3
      · exact h3
      · rw [Nat.testBit_lt_two_pow (Nat.lt_of_lt_of_le hM (Nat.pow_le_pow_right (by omega) (by omega)))] at h2
        cases h2
    · rintro ⟨h1, h2⟩; exact ⟨by omega, h2⟩
  rw [r1, r2]



theorem bt_list (s : ByteArray) (i : Nat) (h : i < s.size) : bt s (i : Int) = ((s.data.toList[i]'(by simpa using h)).toNat : Int) := by
  unfold bt
  rw [dif_pos (show (i : Int).toNat < s.size by rw [Int.toNat_natCast]; exact h)]
  simp only [Int.toNat_natCast]
  rfl
theorem ext_list (s : ByteArray) (i j : Nat) (h : j ≤ s.size) : (s.extract i j).data.toList = (s.data.toList.drop i).take (j - i) := by
  rw [ByteArray.data_extract, Array.toList_extract]
theorem drop_split (L : List UInt8) (st i : Nat) (h1 : st ≤ i) (h2 : i < L.length) : L.drop st = (L.drop st).take (i - st) ++ L[i] :: L.drop (i + 1) := by
  have h := (List.take_append_drop (i - st) (L.drop st)).symm
  rw [List.drop_drop, show st + (i - st) = i by omega, List.drop_eq_getElem_cons h2] at h
  exact h
theorem l1Split_l0 (s : ByteArray) (hs : s.size ≤ 1000) : ∀ (d k i st : Nat) (acc : List ByteArray), s.size - i = d → i ≤ s.size → st ≤ i → d < k → acc.length ≤ i → (47 : UInt8) ∉ (s.data.toList.drop st).take (i - st) →
    ∃ R, spec_l1Split.l0 k s 47 acc (st : Int) (i : Int) = some (acc ++ R) ∧ R.map (·.data.toList) = cutL 47 (s.data.toList.drop st) := by
  have hl : s.data.toList.length = s.size := by simp
  intro d
  induction d with
  | zero =>
    intro k i st acc h1 h2 h3 h4 h5 h6
    obtain ⟨k, rfl⟩ : ∃ q, k = q + 1 := ⟨k - 1, by omega⟩
    have hi : i = s.size := by omega
    subst hi
    have c1 : ¬ ((s.size : Nat) : Int) < (s.size : Int) := Int.lt_irrefl _
    have c2 : (0 : Int) ≤ (st : Int) := Int.natCast_nonneg _
    have c3 : (st : Int) ≤ (s.size : Int) := Int.ofNat_le.2 h3
    have c4 : acc.length < 8796093022208 := by omega
    refine ⟨[s.extract st s.size], ?_, ?_⟩
    · rw [spec_l1Split.l0, if_neg c1, if_pos c2, if_pos c3, if_pos c4, Int.toNat_natCast]
    · rw [List.map_cons, List.map_nil, ext_list s st s.size (Nat.le_refl _)]
      have e : (s.data.toList.drop st).take (s.size - st) = s.data.toList.drop st := List.take_of_length_le (by rw [List.length_drop, hl]; exact Nat.le_refl _)
      rw [e] at h6 ⊢
      exact (cutL_none 47 _ h6).symm
  | succ d ih =>
    intro k i st acc h1 h2 h3 h4 h5 h6
    obtain ⟨k, rfl⟩ : ∃ q, k = q + 1 := ⟨k - 1, by omega⟩
    have hi : i < s.size := by omega
    have hiL : i < s.data.toList.length := by rw [hl]; exact hi
    have hsp := drop_split s.data.toList st i h3 hiL
    have e1 : wrap64 ((i : Int) + 1) = ((i + 1 : Nat) : Int) := by clear hsp h6 ih; unfold wrap64; omega
    have c0 : (i : Int) < (s.size : Int) := Int.ofNat_lt.2 hi
    have c1 : (0 : Int) ≤ (i : Int) := Int.natCast_nonneg _
    have c2 : (0 : Int) ≤ (st : Int) := Int.natCast_nonneg _
    have c3 : (st : Int) ≤ (i : Int) := Int.ofNat_le.2 h3
    have c4 : (i : Int) ≤ (s.size : Int) := Int.ofNat_le.2 h2
    have c5 : acc.length < 8796093022208 := by clear hsp e1; omega
    rw [spec_l1Split.l0, if_pos c0, if_pos c1, bt_list s i hi, e1]
    by_cases hb : s.data.toList[i] = 47
    · have hb2 : ((s.data.toList[i].toNat : Nat) : Int) = 47 := by rw [hb]; rfl
      rw [if_pos hb2, if_pos c2, if_pos c3, if_pos c4, if_pos c5, Int.toNat_natCast, Int.toNat_natCast]
      obtain ⟨R, r1, r2⟩ := ih k (i + 1) (i + 1) (acc ++ [s.extract st i]) (by omega) hi (Nat.le_refl _) (by omega) (by rw [List.length_append, List.length_singleton]; omega) (by rw [Nat.sub_self, List.take_zero]; exact List.not_mem_nil)
      refine ⟨s.extract st i :: R, ?_, ?_⟩
      · rw [r1, List.append_assoc]; rfl
      · rw [List.map_cons, r2, ext_list s st i h2, hsp, hb]
        have e2 : ((s.data.toList.drop st).take (i - st) ++ 47 :: s.data.toList.drop (i + 1)).take (i - st) = (s.data.toList.drop st).take (i - st) := by
          rw [← hb, ← hsp]
        rw [e2]
        exact (cutL_app 47 _ _ h6).symm
    · have hb2 : ¬ ((s.data.toList[i].toNat : Nat) : Int) = 47 := fun q => hb (by
        have q2 : s.data.toList[i].toNat = (47 : UInt8).toNat := by exact_mod_cast q
        exact UInt8.toNat_inj.1 q2)
      rw [if_neg hb2]
      refine ih k (i + 1) st acc (by omega) hi (by omega) (by omega) (by omega) ?_
      rw [show i + 1 - st = (i - st) + 1 by omega, List.take_add_one]
      intro q
      rcases List.mem_append.1 q with q | q
      · exact h6 q
      · rw [List.getElem?_drop, show st + (i - st) = i by omega, List.getElem?_eq_getElem hiL] at q
        simp at q
        exact hb q.symm
theorem l1Split_f (s : ByteArray) (hs : s.size ≤ 1000) (k : Nat) (hk : 2000 < k) : ∃ R, spec_l1Split.f k s 47 = some R ∧ R.map (·.data.toList) = cutL 47 s.data.toList := by
  obtain ⟨R, h1, h2⟩ := l1Split_l0 s hs s.size k 0 0 [] (Nat.sub_zero _) (Nat.zero_le _) (Nat.le_refl _) (by omega) (Nat.le_refl _) (by simp)
  exact ⟨R, by unfold spec_l1Split.f; rw [List.nil_append] at h1; exact h1, h2⟩
theorem rows_inj {R1 R2 : List ByteArray} (h : R1.map (fun x : ByteArray => x.data.toList) = R2.map (fun x : ByteArray => x.data.toList)) : R1 = R2 := by
  induction R1 generalizing R2 with
  | nil => cases R2 with
    | nil => rfl
    | cons a r => simp at h
  | cons a r ih => cases R2 with
    | nil => simp at h
    | cons b t =>
      rw [List.map_cons, List.map_cons] at h
      injection h with h1 h2
      rw [ih h2, ByteArray.ext (Array.toList_inj.1 h1)]


theorem joinL_join : ∀ (l : List (List UInt8)), joinL 47 l = Lib.join l [47]
  | [] => rfl
  | [p] => (Lib.join_one p [47]).symm
  | p :: q :: r => by
    have ih := joinL_join (q :: r)
    rw [Lib.join_cons] at ih ⊢
    show p ++ 47 :: joinL 47 (q :: r) = _
    rw [ih]
    unfold Lib.joinTail
    rw [List.map_cons, List.flatten_cons]
    simp
theorem join_inj {sep : List UInt8} : ∀ {A B : List (List UInt8)}, A.map List.length = B.map List.length → Lib.join A sep = Lib.join B sep → A = B := by
  have tail : ∀ {A B : List (List UInt8)}, A.map List.length = B.map List.length → Lib.joinTail sep A = Lib.joinTail sep B → A = B := by
    intro A
    induction A with
    | nil =>
      intro B h _
      cases B with
      | nil => rfl
      | cons b t => simp at h
    | cons a r ih =>
      intro B h hj
      cases B with
      | nil => simp at h
      | cons b t =>
        rw [List.map_cons, List.map_cons] at h
        injection h with h1 h2
        unfold Lib.joinTail at hj
        rw [List.map_cons, List.map_cons, List.flatten_cons, List.flatten_cons] at hj
        obtain ⟨e1, e2⟩ := List.append_inj hj (by rw [List.length_append, List.length_append, h1])
        rw [List.append_cancel_left e1, ih h2 e2]
  intro A B h hj
  cases A with
  | nil =>
    cases B with
    | nil => rfl
    | cons b t => simp at h
  | cons a r =>
    cases B with
    | nil => simp at h
    | cons b t =>
      rw [List.map_cons, List.map_cons] at h
      injection h with h1 h2
      rw [Lib.join_cons, Lib.join_cons] at hj
      obtain ⟨e1, e2⟩ := List.append_inj hj h1
      rw [e1, tail h2 e2]
def chC (C : List (List UInt8)) (k x : Nat) : UInt8 := (C.getD k []).getD x 46
def ndC (C : List (List UInt8)) (k x : Nat) : Bool := !(chC C k x == 46)
def edK (w h k x : Nat) : Nat := if k % 2 = 0 then k / 2 * w + x else w * (h + 1) + (k / 2 * (w + 1) + x)
def sgK (k : Nat) : UInt8 := if k % 2 = 0 then 45 else 124
def rowM (C : List (List UInt8)) (w h k : Nat) : Nat → Nat → Nat
  | 0, m => m
  | n + 1, m => if ndC C k n = true then rowM C w h k n m ||| 2 ^ edK w h k n else rowM C w h k n m
def allM (C : List (List UInt8)) (w h : Nat) : Nat → Nat
  | 0 => 0
  | k + 1 => rowM C w h k (w + k % 2) (allM C w h k)
theorem rowM_test (C : List (List UInt8)) (w h k e m : Nat) : ∀ n, (rowM C w h k n m).testBit e = true ↔ (m.testBit e = true ∨ ∃ x, x < n ∧ ndC C k x = true ∧ edK w h k x = e)
  | 0 => by
    unfold rowM
    constructor
    · intro q; exact .inl q
    · rintro (q | ⟨x, hx, -⟩)
      · exact q
      · omega
  | n + 1 => by
    have ih := rowM_test C w h k e m n
    unfold rowM
    by_cases hn : ndC C k n = true
    · rw [if_pos hn, Nat.testBit_or, Bool.or_eq_true, ih, Nat.testBit_two_pow, decide_eq_true_eq]
      constructor
      · rintro ((q | ⟨x, h1, h2⟩) | q)
        · exact .inl q
        · exact .inr ⟨x, by omega, h2⟩
        · exact .inr ⟨n, by omega, hn, q⟩
      · rintro (q | ⟨x, h1, h2, h3⟩)
        · exact .inl (.inl q)
        · rcases Nat.lt_or_ge x n with h4 | h4
          · exact .inl (.inr ⟨x, h4, h2, h3⟩)
          · have : x = n := by omega
            subst this
            exact .inr h3
    · rw [if_neg hn, ih]
      constructor
      · rintro (q | ⟨x, h1, h2⟩)
        · exact .inl q
        · exact .inr ⟨x, by omega, h2⟩
      · rintro (q | ⟨x, h1, h2, h3⟩)
        · exact .inl q
        · rcases Nat.lt_or_ge x n with h4 | h4
          · exact .inr ⟨x, h4, h2, h3⟩
          · have : x = n := by omega
            subst this
            exact absurd h2 hn
theorem allM_test (C : List (List UInt8)) (w h e : Nat) : ∀ K, (allM C w h K).testBit e = true ↔ ∃ k x, k < K ∧ x < w + k % 2 ∧ ndC C k x = true ∧ edK w h k x = e
  | 0 => by
    unfold allM
    rw [Nat.zero_testBit]
    constructor
    · intro q; cases q
    · rintro ⟨k, x, hk, -⟩; omega
  | K + 1 => by
    have ih := allM_test C w h e K
    unfold allM
    rw [rowM_test, ih]
    constructor
    · rintro (⟨k, x, h1, h2⟩ | ⟨x, h1, h2⟩)
      · exact ⟨k, x, by omega, h2⟩
      · exact ⟨K, x, by omega, h1, h2⟩
    · rintro ⟨k, x, h1, h2⟩
      rcases Nat.lt_or_ge k K with h4 | h4
      · exact .inl ⟨k, x, h4, h2⟩
      · have : k = K := by omega
        subst this
        exact .inr ⟨x, h2⟩
theorem edK_lt {w h k x : Nat} (hw : w ≤ 4) (hh : h ≤ 4) (hk : k < 2 * h + 1) (hx : x < w + k % 2) : edK w h k x < w * (h + 1) + h * (w + 1) := by
  have cw : w = 0 ∨ w = 1 ∨ w = 2 ∨ w = 3 ∨ w = 4 := by omega
  have ch : h = 0 ∨ h = 1 ∨ h = 2 ∨ h = 3 ∨ h = 4 := by omega
  unfold edK
  split <;> rcases cw with rfl | rfl | rfl | rfl | rfl <;> rcases ch with rfl | rfl | rfl | rfl | rfl <;> omega
theorem edK_inj {w h k x k' x' : Nat} (hw : w ≤ 4) (hh : h ≤ 4) (hk : k < 2 * h + 1) (hx : x < w + k % 2) (hk' : k' < 2 * h + 1) (hx' : x' < w + k' % 2) (he : edK w h k x = edK w h k' x') : k = k' ∧ x = x' := by
  have cw : w = 0 ∨ w = 1 ∨ w = 2 ∨ w = 3 ∨ w = 4 := by omega
  have ch : h = 0 ∨ h = 1 ∨ h = 2 ∨ h = 3 ∨ h = 4 := by omega
  unfold edK at he
  split at he <;> split at he <;> rcases cw with rfl | rfl | rfl | rfl | rfl <;> rcases ch with rfl | rfl | rfl | rfl | rfl <;> omega
theorem allM_at {C : List (List UInt8)} {w h k x : Nat} (hw : w ≤ 4) (hh : h ≤ 4) (hk : k < 2 * h + 1) (hx : x < w + k % 2) : (allM C w h (2 * h + 1)).testBit (edK w h k x) = ndC C k x := by
  rw [Bool.eq_iff_iff, allM_test]
  constructor
  · rintro ⟨k', x', h1, h2, h3, h4⟩
    obtain ⟨rfl, rfl⟩ := edK_inj hw hh h1 h2 hk hx h4
    exact h3
  · intro q; exact ⟨k, x, hk, hx, q, rfl⟩

end Go.Proofs.YtehjfaddhmdicaaDoor.P
namespace Go.Proofs.YtehjfaddhmdicaaDoor.P
open Go.RowKit Go.Proofs.YtehjfaddhmdicaaDoorW.PrintWords Go.Proofs.YtehjfaddhmdicaaDoorW.PrintLast Go.Proofs.YtehjfaddhmdicaaDoorW.PrintMore
attribute [local go_sem] max2_int min2_int max_two min_two max_three min_three max_four min_four   -- for this text's walks alone
set_option linter.unusedVariables false
set_option linter.unusedSimpArgs false

def aN (w k x : Nat) : Nat := if k % 2 = 0 then k / 2 * w + x else (k / 2 + 1) * w
def uN (w k x : Nat) : Nat := if k % 2 = 0 then k / 2 * (w + 1) else k / 2 * (w + 1) + x
def chs (R : List ByteArray) : List (List UInt8) := R.map fun s : ByteArray => s.data.toList
theorem ch_row {R : List ByteArray} {k : Nat} (hk : k < R.length) {x : Nat} (hx : x < R[k].size) : bt R[k] (x : Int) = ((chC (chs R) k x).toNat : Int) := by
 rw [bt_list _ _ hx]
 congr 2
 have e : (chs R).getD k [] = R[k].data.toList := by
  unfold chs
  rw [List.getD_eq_getElem?_getD, List.getElem?_map, List.getElem?_eq_getElem hk]
  rfl
 unfold chC
 rw [e, List.getD_eq_getElem?_getD, List.getElem?_eq_getElem (show x < R[k].data.toList.length by simpa using hx)]
 rfl
theorem row_get {R : List ByteArray} {k : Nat} (hk : k < R.length) : rdOf ByteArray.empty R (k : Int) = R[k] := by
 unfold rdOf
 rw [Int.toNat_natCast, List.getD_eq_getElem?_getD, List.getElem?_eq_getElem hk]
 rfl
theorem row_len {R : List ByteArray} {k : Nat} (hk : k < R.length) : ((chs R).getD k []).length = R[k].size := by
 unfold chs
 rw [List.getD_eq_getElem?_getD, List.getElem?_map, List.getElem?_eq_getElem hk]
 show R[k].data.toList.length = _
 simp
theorem toNat_eq (c d : UInt8) : ((c.toNat : Int) = (d.toNat : Int)) ↔ c = d := by
 constructor
 ·intro q; exact UInt8.toNat_inj.1 (by exact_mod_cast q)
 ·intro q; rw [q]
section
variable {R : List ByteArray} {w h : Nat}
def lA (R : List ByteArray) (w h k x : Nat) : List Int := setL (aN w k x) fun i => (allM (chs R) w h (2 * h + 1)).testBit i
def lU (R : List ByteArray) (w h k x : Nat) : List Int := setL (uN w k x) fun i => (allM (chs R) w h (2 * h + 1)).testBit (w * (h + 1) + i)
theorem small_k {k : Nat} (hk : k < 9) : Int.tmod (k : Int) 2 = ((k % 2 : Nat) : Int) ∧ wrap64 (Int.tdiv (k : Int) 2) = ((k / 2 : Nat) : Int) := by
 have c : k = 0 ∨ k = 1 ∨ k = 2 ∨ k = 3 ∨ k = 4 ∨ k = 5 ∨ k = 6 ∨ k = 7 ∨ k = 8 := by omega
 rcases c with rfl | rfl | rfl | rfl | rfl | rfl | rfl | rfl | rfl <;> exact ⟨by decide +kernel, by decide +kernel⟩
theorem bits_small {w h k x : Nat} (hw : w ≤ 4) (hk : k < 9) (hx : x < w + k % 2) : wrap64 (wrap64 (((k / 2 : Nat) : Int) * (w : Int)) + (x : Int)) = ((k / 2 * w + x : Nat) : Int) ∧ wrap64 (wrap64 (((k / 2 : Nat) : Int) * wrap64 ((w : Int) + 1)) + (x : Int)) = ((k / 2 * (w + 1) + x : Nat) : Int) := by
 have cw : w = 0 ∨ w = 1 ∨ w = 2 ∨ w = 3 ∨ w = 4 := by omega
 have hy : k / 2 ≤ 4 := by omega
 have hx2 : x < 5 := by omega
 generalize k / 2 = y at hy ⊢
 clear hx hk
 unfold wrap64
 rcases cw with rfl | rfl | rfl | rfl | rfl <;> constructor <;> omega
theorem sp_l1_ok (hw : w ≤ 4) (hh : h ≤ 4) {k : Nat} (hk : k < 2 * h + 1) (hkR : k < R.length) (hlen : R[k].size = w + k % 2) : ∀ (d kk x : Nat), w + k % 2 - x = d → x ≤ w + k % 2 → 2 * d + 1 ≤ kk → (∀ y, x ≤ y → y < w + k % 2 → chC (chs R) k y = 46 ∨ chC (chs R) k y = sgK k) →
  ∃ k', kk ≤ k' + (2 * d + 1) ∧ spec_fiParse.l1 kk (k : Int) R[k] (x : Int) R (R.length : Int) (k : Int) (w : Int) (h : Int) (lA R w h k x) (lU R w h k x) = spec_fiParse.l0 k' R (R.length : Int) ((k + 1 : Nat) : Int) (w : Int) (h : Int) (lA R w h k (w + k % 2)) (lU R w h k (w + k % 2)) := by
 intro d
 induction d with
 | zero =>
  intro kk x h1 h2 h3 h4
  obtain ⟨kk, rfl⟩ : ∃ q, kk = q + 1 := ⟨kk - 1, by omega⟩
  obtain rfl : x = w + k % 2 := by omega
  have e1 : wrap64 ((k : Int) + 1) = ((k + 1 : Nat) : Int) := by clear h4 hlen; unfold wrap64; omega
  refine ⟨kk, by omega, ?_⟩
  rw [spec_fiParse.l1, if_neg (by rw [hlen]; exact Int.lt_irrefl _), e1]
 | succ d ih =>
  intro kk x h1 h2 h3 h4
  obtain ⟨kk, rfl⟩ : ∃ q, kk = q + 2 := ⟨kk - 2, by omega⟩
  have hx : x < w + k % 2 := by omega
  have hk9 : k < 9 := by omega
  have step : ∀ q, 2 * d + 1 ≤ q → q ≤ kk + 1 → kk ≤ q → ∃ k', kk + 2 ≤ k' + (2 * (d + 1) + 1) ∧ spec_fiParse.l1 q (k : Int) R[k] ((x + 1 : Nat) : Int) R (R.length : Int) (k : Int) (w : Int) (h : Int) (lA R w h k (x + 1)) (lU R w h k (x + 1)) = spec_fiParse.l0 k' R (R.length : Int) ((k + 1 : Nat) : Int) (w : Int) (h : Int) (lA R w h k (w + k % 2)) (lU R w h k (w + k % 2)) := by
   intro q q1 q2 q3
   obtain ⟨k', p1, p2⟩ := ih q (x + 1) (by omega) (by omega) q1 (fun y hy1 hy2 => h4 y (by omega) hy2)
   exact ⟨k', by omega, p2⟩
  have f1 : 2 * d + 1 ≤ kk + 1 := by omega
  have f2 : 2 * d + 1 ≤ kk := by omega
  have hp := h4 x (Nat.le_refl _) hx
  have ha100 : aN w k x ≤ 100 := by
   unfold aN
   have cw : w = 0 ∨ w = 1 ∨ w = 2 ∨ w = 3 ∨ w = 4 := by omega
   clear step ih h4 hp
   split <;> rcases cw with rfl | rfl | rfl | rfl | rfl <;> omega
  have hu100 : uN w k x ≤ 100 := by
   unfold uN
   have cw : w = 0 ∨ w = 1 ∨ w = 2 ∨ w = 3 ∨ w = 4 := by omega
   clear step ih h4 hp
   split <;> rcases cw with rfl | rfl | rfl | rfl | rfl <;> omega
  clear ih h4
  have hxs : x < R[k].size := by rw [hlen]; exact hx
  have c0 : (x : Int) < (R[k].size : Int) := Int.ofNat_lt.2 hxs
  have c1 : (0 : Int) ≤ (x : Int) := Int.natCast_nonneg _
  have e1 : wrap64 ((x : Int) + 1) = ((x + 1 : Nat) : Int) := by clear step c0 hxs hlen hp; unfold wrap64; omega
  obtain ⟨t1, t2⟩ := small_k hk9
  obtain ⟨b1, b2⟩ := bits_small (h := h) hw hk9 hx
  have hbt := ch_row hkR hxs
  have hM := allM_at (C := chs R) hw hh hk hx
  have la : (lA R w h k x).length < 17592186044416 := Nat.lt_of_le_of_lt (Nat.le_trans (setL_len _ _) ha100) (by decide)
  have lu : (lU R w h k x).length < 17592186044416 := Nat.lt_of_le_of_lt (Nat.le_trans (setL_len _ _) hu100) (by decide)
  by_cases hd : chC (chs R) k x = 46
  ·have hn : ndC (chs R) k x = false := by unfold ndC; rw [hd]; rfl
   have hd2 : bt R[k] (x : Int) = 46 := by rw [hbt, hd]; rfl
   obtain ⟨k', p1, p2⟩ := step (kk + 1) f1 (Nat.le_refl _) (Nat.le_succ _)
   refine ⟨k', p1, ?_⟩
   rw [spec_fiParse.l1, if_pos c0, if_pos c1, if_pos hd2, e1]
   have ea : lA R w h k (x + 1) = lA R w h k x := by
    unfold lA aN
    by_cases hk2 : k % 2 = 0
    ·unfold edK at hM
     rw [if_pos hk2] at hM
     rw [if_pos hk2, if_pos hk2, ← Nat.add_assoc, setL_succ, hM, hn, if_neg (by decide), List.append_nil]
    ·rw [if_neg hk2, if_neg hk2]
   have eu : lU R w h k (x + 1) = lU R w h k x := by
    unfold lU uN
    by_cases hk2 : k % 2 = 0
    ·rw [if_pos hk2, if_pos hk2]
    ·unfold edK at hM
     rw [if_neg hk2] at hM
     rw [if_neg hk2, if_neg hk2, ← Nat.add_assoc, setL_succ, hM, hn, if_neg (by decide), List.append_nil]
   rw [ea, eu] at p2
   exact p2
  ·have hs : chC (chs R) k x = sgK k := hp.resolve_left hd
   have hn : ndC (chs R) k x = true := by unfold ndC; simpa using hd
   have hd2 : ¬ bt R[k] (x : Int) = 46 := by
    rw [hbt]
    intro q
    exact hd ((toNat_eq _ 46).1 q)
   obtain ⟨k', p1, p2⟩ := step kk f2 (Nat.le_succ _) (Nat.le_refl _)
   refine ⟨k', p1, ?_⟩
   by_cases hk2 : k % 2 = 0
   ·have hb : (bt R[k] (x : Int) == 45) = true := by rw [hbt, hs]; unfold sgK; rw [if_pos hk2]; rfl
    have ht : Int.tmod (k : Int) 2 = 0 := by rw [t1, hk2]; rfl
    rw [spec_fiParse.l1, if_pos c0, if_pos c1, if_neg hd2, if_pos ht, hb, spec_fiParse.j3, if_pos rfl, if_pos la, t2, b1, e1]
    have ea : lA R w h k (x + 1) = lA R w h k x ++ [((k / 2 * w + x : Nat) : Int)] := by
     unfold lA aN
     unfold edK at hM
     rw [if_pos hk2] at hM
     rw [if_pos hk2, if_pos hk2, ← Nat.add_assoc, setL_succ, hM, hn, if_pos rfl]
    have eu : lU R w h k (x + 1) = lU R w h k x := by
     unfold lU uN
     rw [if_pos hk2, if_pos hk2]
    rw [ea, eu] at p2
    exact p2
   ·have hb : bt R[k] (x : Int) = 124 := by rw [hbt, hs]; unfold sgK; rw [if_neg hk2]; rfl
    have ht : ¬ Int.tmod (k : Int) 2 = 0 := by rw [t1]; omega
    have ht1 : Int.tmod (k : Int) 2 = 1 := by rw [t1]; omega
    rw [spec_fiParse.l1, if_pos c0, if_pos c1, if_neg hd2, if_neg ht, spec_fiParse.j3, if_neg (by decide), if_pos ht1, if_pos c1, if_pos c0, if_pos hb, if_pos lu, t2, b2, e1]
    have ea : lA R w h k (x + 1) = lA R w h k x := by
     unfold lA aN
     rw [if_neg hk2, if_neg hk2]
    have eu : lU R w h k (x + 1) = lU R w h k x ++ [((k / 2 * (w + 1) + x : Nat) : Int)] := by
     unfold lU uN
     unfold edK at hM
     rw [if_neg hk2] at hM
     rw [if_neg hk2, if_neg hk2, ← Nat.add_assoc, setL_succ, hM, hn, if_pos rfl]
    rw [ea, eu] at p2
    exact p2
end

end Go.Proofs.YtehjfaddhmdicaaDoor.P
namespace Go.Proofs.YtehjfaddhmdicaaDoor.P
open Go.RowKit Go.Proofs.YtehjfaddhmdicaaDoorW.PrintWords Go.Proofs.YtehjfaddhmdicaaDoorW.PrintLast Go.Proofs.YtehjfaddhmdicaaDoorW.PrintMore
attribute [local go_sem] max2_int min2_int max_two min_two max_three min_three max_four min_four   -- for this text's walks alone
set_option linter.unusedVariables false
set_option linter.unusedSimpArgs false

def spec_fiThose.l0 : Nat → List Int → Bool → List Int → List Int → Int → Int → Option (List Int)
  | 0, _, _, _, _, _, _ => none
  | k + 1, x1, x2, x7, x10, x11, x12 => if x12 < x11 then (if 0 ≤ x12 then (if x12 < (x10.length : Int) then ((spec_l1Has.f k x1 (rd x10 x12)).bind fun t605 => (if (t605 == x2) = true then (if x7.length < 17592186044416 then (spec_fiThose.l0 k x1 x2 (x7 ++ [rd x10 x12]) x10 x11 (wrap64 (x12 + 1))) else (none)) else (spec_fiThose.l0 k x1 x2 x7 x10 x11 (wrap64 (x12 + 1))))) else (none)) else (none)) else (some x7)
def spec_fiThose.f (k : Nat) (l0 : List Int) (l1 : List Int) (a2 : Bool) : Option (List Int) := spec_fiThose.l0 k l1 a2 ([] : List Int) l0 (l0.length : Int) 0
theorem spec_fiThose.mono_l : ∀ k, (∀ y0 y1 y2 y3 y4 y5, LeO (spec_fiThose.l0 k y0 y1 y2 y3 y4 y5) (spec_fiThose.l0 (k + 1) y0 y1 y2 y3 y4 y5))
  | 0 => fun _ _ _ _ _ _ r h => by simp [spec_fiThose.l0] at h
  | k + 1 => by
    have ih0 := spec_fiThose.mono_l k
    · intro y0 y1 y2 y3 y4 y5
      unfold spec_fiThose.l0
      repeat' first
      | (with_reducible exact ih0 _ _ _ _ _ _)
      | (with_reducible exact spec_l1Has.mono _ _ _)
      | (with_reducible exact LeO.refl _)
      | (with_reducible exact LeO.none _)
      | (with_reducible refine LeO.ite ?_ ?_)
      | (with_reducible refine LeO.bind ?_ (fun _ => ?_))
      | exact ih0 _ _ _ _ _ _
      | exact spec_l1Has.mono _ _ _
      | exact LeO.none _
      | refine LeO.ite ?_ ?_
      | refine LeO.bind ?_ (fun _ => ?_)
theorem spec_fiThose.mono : ∀ a0 a1 a2 k, LeO (spec_fiThose.f k a0 a1 a2) (spec_fiThose.f (k + 1) a0 a1 a2) := by
  intro a0 a1 a2 k
  have ih0 := spec_fiThose.mono_l k
  unfold spec_fiThose.f
  repeat' first
      | (with_reducible exact ih0 _ _ _ _ _ _)
      | (with_reducible exact spec_l1Has.mono _ _ _)
      | (with_reducible exact LeO.refl _)
      | (with_reducible exact LeO.none _)
      | (with_reducible refine LeO.ite ?_ ?_)
      | (with_reducible refine LeO.bind ?_ (fun _ => ?_))
      | exact ih0 _ _ _ _ _ _
      | exact spec_l1Has.mono _ _ _
      | exact LeO.none _
      | refine LeO.ite ?_ ?_
      | refine LeO.bind ?_ (fun _ => ?_)

def spec_fiLess.f (k : Nat) (a0_0 : Int) (a0_1 : Int) (l0_2 : List Int) (l0_3 : List Int) (a1_0 : Int) (a1_1 : Int) (l1_2 : List Int) (l1_3 : List Int) : Option (Int × Int × List Int × List Int) := (spec_fiThose.f k l0_2 l1_2 false).bind fun t612 => ((spec_fiThose.f k l0_3 l1_3 false).bind fun t615 => (some (a0_0, a0_1, t612, t615)))
theorem spec_fiLess.mono : ∀ a0 a1 a2 a3 a4 a5 a6 a7 k, LeO (spec_fiLess.f k a0 a1 a2 a3 a4 a5 a6 a7) (spec_fiLess.f (k + 1) a0 a1 a2 a3 a4 a5 a6 a7) := by
  intro a0 a1 a2 a3 a4 a5 a6 a7 k
  unfold spec_fiLess.f
  repeat' first
      | (with_reducible exact spec_fiThose.mono _ _ _ _)
      | (with_reducible exact LeO.refl _)
      | (with_reducible exact LeO.none _)
      | (with_reducible refine LeO.ite ?_ ?_)
      | (with_reducible refine LeO.bind ?_ (fun _ => ?_))
      | exact spec_fiThose.mono _ _ _ _
      | exact LeO.none _
      | refine LeO.ite ?_ ?_
      | refine LeO.bind ?_ (fun _ => ?_)
def spec_fiLess.T1 : Bool × List (List Nat × List Nat) := (true, [([], []), ([0], [0]), ([], []), ([2], [2]), ([], []), ([4], [4]), ([], []), ([6], [6]), ([5, 7], [5, 7]), ([], []), ([9], [9]), ([], []), ([11], [11]), ([10, 12, 8], [10, 12]), ([1, 3, 8, 13], [1, 3, 8, 13]), ([14, 13, 0, 1, 2, 3, 4, 5, 6, 7, 8, 9, 10, 11, 12, 13, 14], [14])])
def spec_fiLess.B1 : List Nat := [0, 1, 0, 4, 0, 16, 0, 64, 240, 0, 512, 0, 2048, 8176, 16383, 32767]
theorem spec_fiLess.tab1 : rtab .any (opsOf Tryd.f115 1) = spec_fiLess.T1 := by kernel_rfl
theorem spec_fiLess.bits1 : waitsOk spec_fiLess.T1.2 spec_fiLess.B1 = true := by kernel_rfl

def spec_l1Own.f (l0 : List Int) : Option (List Int) := (some (([] : List Int) : List Int)).bind fun y636 => (if y636.length + l0.length < 17592186044416 then (some (y636 ++ l0)) else (none))

def spec_fiOwn.f (a0_0 : Int) (a0_1 : Int) (l0_2 : List Int) (l0_3 : List Int) : Option (Int × Int × List Int × List Int) := (spec_l1Own.f l0_2).bind fun t644 => ((spec_l1Own.f l0_3).bind fun t647 => (some (a0_0, a0_1, t644, t647)))

def spec_l1Put.l0 : Nat → List Int → Int → Int → Option (List Int)
  | 0, _, _, _ => none
  | k + 1, x0, x1, x5 => if x5 < (x0.length : Int) then (if 0 ≤ x5 then (if (rd x0 x5) < x1 then (spec_l1Put.l0 k x0 x1 (wrap64 (x5 + 1))) else (if (rd x0 x5) = x1 then (some x0) else ((some (([] : List Int) : List Int)).bind fun y652 => (if x5 ≤ (x0.length : Int) then ((some (x0.take (x5 : Int).toNat : List Int)).bind fun y655 => (if y652.length + y655.length < 17592186044416 then ((some (y652 ++ y655 : List Int)).bind fun y659 => (if y659.length < 17592186044416 then ((some (y659 ++ [x1] : List Int)).bind fun y662 => ((some (x0.drop (x5 : Int).toNat : List Int)).bind fun y665 => (if y662.length + y665.length < 17592186044416 then (some (y662 ++ y665)) else (none)))) else (none))) else (none))) else (none))))) else (none)) else ((some (([] : List Int) : List Int)).bind fun y672 => (if 0 ≤ x5 then (if x5 ≤ (x0.length : Int) then ((some (x0.take (x5 : Int).toNat : List Int)).bind fun y675 => (if y672.length + y675.length < 17592186044416 then ((some (y672 ++ y675 : List Int)).bind fun y679 => (if y679.length < 17592186044416 then ((some (y679 ++ [x1] : List Int)).bind fun y682 => ((some (x0.drop (x5 : Int).toNat : List Int)).bind fun y685 => (if y682.length + y685.length < 17592186044416 then (some (y682 ++ y685)) else (none)))) else (none))) else (none))) else (none)) else (none)))
def spec_l1Put.f (k : Nat) (l0 : List Int) (a1 : Int) : Option (List Int) := spec_l1Put.l0 k l0 a1 0
theorem spec_l1Put.mono_l : ∀ k, (∀ y0 y1 y2, LeO (spec_l1Put.l0 k y0 y1 y2) (spec_l1Put.l0 (k + 1) y0 y1 y2))
  | 0 => fun _ _ _ r h => by simp [spec_l1Put.l0] at h
  | k + 1 => by
    have ih0 := spec_l1Put.mono_l k
    · intro y0 y1 y2
      unfold spec_l1Put.l0
      repeat' first
      | (with_reducible exact ih0 _ _ _)
      | (with_reducible exact LeO.refl _)
      | (with_reducible exact LeO.none _)
      | (with_reducible refine LeO.ite ?_ ?_)
      | (with_reducible refine LeO.bind ?_ (fun _ => ?_))
      | exact ih0 _ _ _
      | exact LeO.none _
      | refine LeO.ite ?_ ?_
      | refine LeO.bind ?_ (fun _ => ?_)
theorem spec_l1Put.mono : ∀ a0 a1 k, LeO (spec_l1Put.f k a0 a1) (spec_l1Put.f (k + 1) a0 a1) := by
  intro a0 a1 k
  have ih0 := spec_l1Put.mono_l k
  unfold spec_l1Put.f
  repeat' first
      | (with_reducible exact ih0 _ _ _)
      | (with_reducible exact LeO.refl _)
      | (with_reducible exact LeO.none _)
      | (with_reducible refine LeO.ite ?_ ?_)
      | (with_reducible refine LeO.bind ?_ (fun _ => ?_))
      | exact ih0 _ _ _
      | exact LeO.none _
      | refine LeO.ite ?_ ?_
      | refine LeO.bind ?_ (fun _ => ?_)

def spec_fiPut.f (k : Nat) (a0_0 : Int) (a0_1 : Int) (l0_2 : List Int) (l0_3 : List Int) (a1 : Bool) (a2 : Int) (a3 : Int) : Option (Int × Int × List Int × List Int) := (spec_fiOwn.f a0_0 a0_1 l0_2 l0_3).bind fun bt694 => ((spec_fiEdge.f a0_0 a0_1 l0_2 l0_3 a1 a2 a3).bind fun bt703 => ((spec_fiHas.f k a0_0 a0_1 l0_2 l0_3 a1 a2 a3).bind fun t705 => (if t705 = true then (some (bt694.1, bt694.2.1, bt694.2.2.1, bt694.2.2.2)) else (if a1 = true then ((spec_l1Put.f k bt694.2.2.2 bt703.1).bind fun t706 => (some (bt694.1, bt694.2.1, bt694.2.2.1, t706))) else ((spec_l1Put.f k bt694.2.2.1 bt703.1).bind fun t709 => (some (bt694.1, bt694.2.1, t709, bt694.2.2.2)))))))
theorem spec_fiPut.mono : ∀ a0 a1 a2 a3 a4 a5 a6 k, LeO (spec_fiPut.f k a0 a1 a2 a3 a4 a5 a6) (spec_fiPut.f (k + 1) a0 a1 a2 a3 a4 a5 a6) := by
  intro a0 a1 a2 a3 a4 a5 a6 k
  unfold spec_fiPut.f
  repeat' first
      | (with_reducible exact spec_fiHas.mono _ _ _ _ _ _ _ _)
      | (with_reducible exact spec_l1Put.mono _ _ _)
      | (with_reducible exact LeO.refl _)
      | (with_reducible exact LeO.none _)
      | (with_reducible refine LeO.ite ?_ ?_)
      | (with_reducible refine LeO.bind ?_ (fun _ => ?_))
      | exact spec_fiHas.mono _ _ _ _ _ _ _ _
      | exact spec_l1Put.mono _ _ _
      | exact LeO.none _
      | refine LeO.ite ?_ ?_
      | refine LeO.bind ?_ (fun _ => ?_)

theorem figB_rows {w h : Int} (g : GridOK w h) (M : Nat) : figB w h (rowA w h M) (rowU w h M) = true := by
  obtain ⟨c1, c2, c3, c4⟩ := area_bounds g.w1 g.w4 g.h1 g.h4
  have w1 := g.w1
  have w4 := g.w4
  have h1 := g.h1
  have h4 := g.h4
  unfold figB
  simp only [Bool.and_eq_true, decide_eq_true_eq]
  refine ⟨⟨⟨⟨w1, w4⟩, h1⟩, h4⟩, pw_rising (setL_pw _ _), pw_rising (setL_pw _ _), ?_, ?_⟩
  · unfold inB
    rw [List.all_eq_true]
    intro x hx
    have := rowA_b x hx
    simp only [Bool.and_eq_true, decide_eq_true_eq]
    omega
  · unfold inB
    rw [List.all_eq_true]
    intro x hx
    have := rowU_b x hx
    simp only [Bool.and_eq_true, decide_eq_true_eq]
    omega
theorem figMask_rows {w h : Int} (g : GridOK w h) {M : Nat} (hM : M < 2 ^ figN w h) : figMask w h (rowA w h M) (rowU w h M) = M := by
  have hf := figB_rows g M
  obtain ⟨c1, c2, c3, c4⟩ := area_bounds g.w1 g.w4 g.h1 g.h4
  have hm := figMask_figN hf
  apply Nat.eq_of_testBit_eq
  intro i
  rcases Nat.lt_or_ge i (w * (h + 1)).toNat with hi | hi
  · rw [figMask_level hf i (by omega)]
    rw [Bool.eq_iff_iff, decide_eq_true_iff]
    exact rowA_in hi
  · rcases Nat.lt_or_ge i (figN w h) with hi2 | hi2
    · obtain ⟨j, rfl⟩ : ∃ j, i = (w * (h + 1)).toNat + j := ⟨i - (w * (h + 1)).toNat, by omega⟩
      rw [figMask_upright hf j]
      rw [Bool.eq_iff_iff, decide_eq_true_iff]
      exact rowU_in (by unfold figN at hi2; omega)
    · rw [Nat.testBit_lt_two_pow (Nat.lt_of_lt_of_le hm (Nat.pow_le_pow_right (by omega) hi2)), Nat.testBit_lt_two_pow (Nat.lt_of_lt_of_le hM (Nat.pow_le_pow_right (by omega) hi2))]

def lenOK (C : List (List UInt8)) (w h : Nat) : Prop := C.length = 2 * h + 1 ∧ ∀ k, k < 2 * h + 1 → (C.getD k []).length = w + k % 2
def propK (C : List (List UInt8)) (w h : Nat) : Prop := ∀ k x, k < 2 * h + 1 → x < w + k % 2 → chC C k x = 46 ∨ chC C k x = sgK k
def tellR (C : List (List UInt8)) (w k : Nat) : List UInt8 := (List.range (w + k % 2)).map fun x => if ndC C k x = true then sgK k else 46
theorem rows_tell {C : List (List UInt8)} {w h : Nat} (hw : w ≤ 4) (hh : h ≤ 4) : ∀ y, y ≤ h → textRows w h (allM C w h (2 * h + 1)) y = (List.range (2 * y)).map (tellR C w) := by
  intro y
  induction y with
  | zero => intro _; rfl
  | succ y ih =>
    intro hy
    have e0 : (2 * y) % 2 = 0 := by omega
    have e1 : (2 * y + 1) % 2 = 1 := by omega
    have a0 : rowL 45 (levP w (allM C w h (2 * h + 1)) y) w = tellR C w (2 * y) := by
      unfold rowL tellR
      rw [e0, Nat.add_zero]
      refine List.map_congr_left (fun x hx => ?_)
      have hx := List.mem_range.1 hx
      have h := allM_at (C := C) hw hh (show 2 * y < 2 * h + 1 by omega) (show x < w + (2 * y) % 2 by omega)
      have hs : sgK (2 * y) = 45 := by unfold sgK; rw [if_pos e0]
      unfold edK at h
      rw [if_pos e0, show 2 * y / 2 = y by omega] at h
      unfold levP
      rw [h, hs]
    have a1 : rowL 124 (uprP w h (allM C w h (2 * h + 1)) y) (w + 1) = tellR C w (2 * y + 1) := by
      unfold rowL tellR
      rw [e1]
      refine List.map_congr_left (fun x hx => ?_)
      have hx := List.mem_range.1 hx
      have h := allM_at (C := C) hw hh (show 2 * y + 1 < 2 * h + 1 by omega) (show x < w + (2 * y + 1) % 2 by omega)
      have hs : sgK (2 * y + 1) = 124 := by unfold sgK; rw [if_neg (by omega)]
      unfold edK at h
      rw [if_neg (by omega), show (2 * y + 1) / 2 = y by omega] at h
      unfold uprP
      rw [h, hs]
    rw [textRows, if_pos (by omega), ih (by omega), a0, a1, show 2 * (y + 1) = 2 * y + 1 + 1 by omega, List.range_succ, List.range_succ, List.map_append, List.map_append]
    rfl
theorem rows_all {C : List (List UInt8)} {w h : Nat} (hw : w ≤ 4) (hh : h ≤ 4) : textRows w h (allM C w h (2 * h + 1)) (h + 1) = (List.range (2 * h + 1)).map (tellR C w) := by
  have e0 : (2 * h) % 2 = 0 := by omega
  have a0 : rowL 45 (levP w (allM C w h (2 * h + 1)) h) w = tellR C w (2 * h) := by
    unfold rowL tellR
    rw [e0, Nat.add_zero]
    refine List.map_congr_left (fun x hx => ?_)
    have hx := List.mem_range.1 hx
    have h' := allM_at (C := C) hw hh (show 2 * h < 2 * h + 1 by omega) (show x < w + (2 * h) % 2 by omega)
    have hs : sgK (2 * h) = 45 := by unfold sgK; rw [if_pos e0]
    unfold edK at h'
    rw [if_pos e0, show 2 * h / 2 = h by omega] at h'
    unfold levP
    rw [h', hs]
  rw [textRows, if_neg (Nat.lt_irrefl _), rows_tell hw hh h (Nat.le_refl _), a0, List.range_succ, List.map_append]
  rfl
theorem rows_self {C : List (List UInt8)} {w h : Nat} (hl : lenOK C w h) : C = (List.range (2 * h + 1)).map fun k => (List.range (w + k % 2)).map fun x => chC C k x := by
  refine List.ext_getElem (by rw [List.length_map, List.length_range]; exact hl.1) (fun k h1 h2 => ?_)
  rw [List.getElem_map, List.getElem_range]
  have hk : k < 2 * h + 1 := by rw [← hl.1]; exact h1
  have e : C.getD k [] = C[k] := by rw [List.getD_eq_getElem?_getD, List.getElem?_eq_getElem h1]; rfl
  have hlen := hl.2 k hk
  rw [e] at hlen
  refine List.ext_getElem (by rw [List.length_map, List.length_range]; exact hlen) (fun x h3 h4 => ?_)
  rw [List.getElem_map, List.getElem_range]
  unfold chC
  rw [e, List.getD_eq_getElem?_getD, List.getElem?_eq_getElem h3]
  rfl
theorem tell_iff {C : List (List UInt8)} {w h : Nat} (hl : lenOK C w h) : (List.range (2 * h + 1)).map (tellR C w) = C ↔ propK C w h := by
  constructor
  · intro q k x hk hx
    have q2 := q.trans (rows_self hl)
    have q3 := (List.map_inj_left.1 q2) k (List.mem_range.2 hk)
    unfold tellR at q3
    have q4 := (List.map_inj_left.1 q3) x (List.mem_range.2 hx)
    by_cases hn : ndC C k x = true
    · rw [if_pos hn] at q4
      exact .inr q4.symm
    · rw [if_neg hn] at q4
      exact .inl q4.symm
  · intro hp
    refine Eq.trans ?_ (rows_self hl).symm
    refine List.map_congr_left (fun k hk => ?_)
    unfold tellR
    refine List.map_congr_left (fun x hx => ?_)
    have hk := List.mem_range.1 hk
    have hx := List.mem_range.1 hx
    rcases hp k x hk hx with e | e
    · have hn : ndC C k x = false := by unfold ndC; rw [e]; rfl
      rw [if_neg (by rw [hn]; decide), e]
    · have hne : ¬ sgK k = 46 := by unfold sgK; split <;> decide
      have hn : ndC C k x = true := by unfold ndC; rw [e]; simpa using hne
      rw [if_pos hn, e]
theorem text_iff {C : List (List UInt8)} {w h : Nat} (hw : w ≤ 4) (hh : h ≤ 4) (hl : lenOK C w h) (s : ByteArray) (hs : s.data.toList = joinL 47 C) : (figText w h (allM C w h (2 * h + 1))).data.toList = s.data.toList ↔ propK C w h := by
  have e : (figText w h (allM C w h (2 * h + 1))).data.toList = Lib.join ((List.range (2 * h + 1)).map (tellR C w)) [47] := by
    unfold figText BA
    rw [rows_all hw hh]
  rw [e, hs, joinL_join, ← tell_iff hl]
  constructor
  · intro q
    refine join_inj ?_ q
    rw [List.map_map]
    conv => rhs; rw [rows_self hl]
    rw [List.map_map]
    refine List.map_congr_left (fun k _ => ?_)
    simp only [Function.comp_apply]
    unfold tellR
    rw [List.length_map, List.length_map]
  · intro q; rw [q]

end Go.Proofs.YtehjfaddhmdicaaDoor.P
namespace Go.Proofs.YtehjfaddhmdicaaDoor.P
open Go.RowKit Go.Proofs.YtehjfaddhmdicaaDoorW.PrintWords Go.Proofs.YtehjfaddhmdicaaDoorW.PrintLast Go.Proofs.YtehjfaddhmdicaaDoorW.PrintMore
attribute [local go_sem] max2_int min2_int max_two min_two max_three min_three max_four min_four   -- for this text's walks alone
set_option linter.unusedVariables false
set_option linter.unusedSimpArgs false

section
variable {R : List ByteArray} {w h : Nat}
def letOK (R : List ByteArray) (k x : Nat) : Prop := chC (chs R) k x = 46 ∨ chC (chs R) k x = sgK k
def failP : Option (Int × Int × List Int × List Int × Bool) := some (0, 0, ([] : List Int), ([] : List Int), false)
theorem wrapB1 {x : Nat} (h : x < 100) : wrap64 ((x : Int) + 1) = ((x + 1 : Nat) : Int) := by unfold wrap64; omega
theorem len_ok {a : List Int} {d : Nat} (h : a.length + d ≤ 1000) : a.length < 17592186044416 := by omega
theorem half_of {n : Nat} (h : n ≤ 1000001) : wrap64 ((n : Int) / 2) = ((n / 2 : Nat) : Int) := by unfold wrap64; omega
theorem odd_of {n h : Nat} (e : n = 2 * h + 1) : ¬ ((n : Int) % 2) = 0 := by omega
theorem wrap_odd {h : Nat} (b : h ≤ 1000001) : wrap64 ((wrap64 (2 * (h : Int))) + 1) = ((2 * h + 1 : Nat) : Int) := by unfold wrap64; omega
theorem sp_l1_bad {k : Nat} (hk9 : k < 9) (hkR : k < R.length) (W H : Int) (y : Nat) (hy : y < R[k].size) (hy9 : y < 100) (hbad : ¬ letOK R k y) : ∀ (d kk x : Nat) (a u : List Int), y - x = d → x ≤ y → 2 * d + 2 ≤ kk → a.length + d ≤ 1000 → u.length + d ≤ 1000 →
  spec_fiParse.l1 kk (k : Int) R[k] (x : Int) R (R.length : Int) (k : Int) W H a u = failP := by
 intro d
 induction d with
 | zero =>
  intro kk x a u h1 h2 h3 h4 h5
  obtain ⟨kk, rfl⟩ : ∃ q, kk = q + 2 := ⟨kk - 2, by omega⟩
  obtain rfl : x = y := by omega
  have c0 : (x : Int) < (R[k].size : Int) := Int.ofNat_lt.2 hy
  have c1 : (0 : Int) ≤ (x : Int) := Int.natCast_nonneg _
  have t1 := (small_k hk9).1
  have hbt := ch_row hkR hy
  have n1 : ¬ bt R[k] (x : Int) = 46 := by
   rw [hbt]; intro q; exact hbad (.inl ((toNat_eq _ 46).1 q))
  rw [spec_fiParse.l1, if_pos c0, if_pos c1, if_neg n1]
  by_cases hk2 : k % 2 = 0
  ·have ht : Int.tmod (k : Int) 2 = 0 := by rw [t1, hk2]; rfl
   have hb : (bt R[k] (x : Int) == 45) = false := by
    rw [beq_eq_false_iff_ne, hbt]
    intro q
    exact hbad (.inr (by unfold sgK; rw [if_pos hk2]; exact (toNat_eq _ 45).1 q))
   have ht1 : ¬ Int.tmod (k : Int) 2 = 1 := by rw [ht]; decide
   rw [if_pos ht, hb, spec_fiParse.j3, if_neg (by decide), if_neg ht1]
   rfl
  ·have ht : ¬ Int.tmod (k : Int) 2 = 0 := by rw [t1]; omega
   have ht1 : Int.tmod (k : Int) 2 = 1 := by rw [t1]; omega
   have hb : ¬ bt R[k] (x : Int) = 124 := by
    rw [hbt]
    intro q
    exact hbad (.inr (by unfold sgK; rw [if_neg hk2]; exact (toNat_eq _ 124).1 q))
   rw [if_neg ht, spec_fiParse.j3, if_neg (by decide), if_pos ht1, if_pos c1, if_pos c0, if_neg hb]
   rfl
 | succ d ih =>
  intro kk x a u h1 h2 h3 h4 h5
  obtain ⟨kk, rfl⟩ : ∃ q, kk = q + 2 := ⟨kk - 2, by omega⟩
  have hx : x < R[k].size := by omega
  have d1 : y - (x + 1) = d := by omega
  have d2 : x + 1 ≤ y := by omega
  have f1 : 2 * d + 2 ≤ kk + 1 := by omega
  have f2 : 2 * d + 2 ≤ kk := by omega
  have g4 : a.length + d ≤ 1000 := by omega
  have g5 : u.length + d ≤ 1000 := by omega
  have g6 : ∀ z : Int, (a ++ [z]).length + d ≤ 1000 := fun z => by rw [List.length_append, List.length_singleton]; omega
  have g7 : ∀ z : Int, (u ++ [z]).length + d ≤ 1000 := fun z => by rw [List.length_append, List.length_singleton]; omega
  have x100 : x < 100 := by omega
  have c0 : (x : Int) < (R[k].size : Int) := Int.ofNat_lt.2 hx
  have c1 : (0 : Int) ≤ (x : Int) := Int.natCast_nonneg _
  have e1 : wrap64 ((x : Int) + 1) = ((x + 1 : Nat) : Int) := wrapB1 x100
  have t1 := (small_k hk9).1
  have hbt := ch_row hkR hx
  have la : a.length < 17592186044416 := len_ok g4
  have lu : u.length < 17592186044416 := len_ok g5
  have st : ∀ q a' u', 2 * d + 2 ≤ q → a'.length + d ≤ 1000 → u'.length + d ≤ 1000 → spec_fiParse.l1 q (k : Int) R[k] ((x + 1 : Nat) : Int) R (R.length : Int) (k : Int) W H a' u' = failP := fun q a' u' q1 q2 q3 => ih q (x + 1) a' u' d1 d2 q1 q2 q3
  rw [spec_fiParse.l1, if_pos c0, if_pos c1, e1]
  by_cases hp : bt R[k] (x : Int) = 46
  ·rw [if_pos hp]
   exact st _ _ _ f1 g4 g5
  ·rw [if_neg hp]
   by_cases hk2 : Int.tmod (k : Int) 2 = 0
   ·have ht1 : ¬ Int.tmod (k : Int) 2 = 1 := by rw [hk2]; decide
    rw [if_pos hk2, spec_fiParse.j3]
    by_cases hb : (bt R[k] (x : Int) == 45) = true
    ·rw [if_pos hb, if_pos la, e1]
     exact st _ _ _ f2 (g6 _) g5
    ·rw [if_neg hb, if_neg ht1]
     rfl
   ·have ht1 : Int.tmod (k : Int) 2 = 1 := by
     rw [t1] at hk2 ⊢; omega
    rw [if_neg hk2, spec_fiParse.j3, if_neg (by decide), if_pos ht1, if_pos c1, if_pos c0]
    by_cases hb : bt R[k] (x : Int) = 124
    ·rw [if_pos hb, if_pos lu, e1]
     exact st _ _ _ f2 g4 (g7 _)
    ·rw [if_neg hb]
     rfl
def rowOK (R : List ByteArray) (w k : Nat) : Prop := ((chs R).getD k []).length = w + k % 2 ∧ ∀ x, x < w + k % 2 → letOK R k x
theorem lA_next (k : Nat) : lA R w h k (w + k % 2) = lA R w h (k + 1) 0 := by
 unfold lA
 congr 1
 unfold aN
 by_cases hk : k % 2 = 0
 ·rw [if_pos hk, if_neg (by omega), hk, show (k + 1) / 2 = k / 2 by omega, Nat.add_zero, Nat.add_mul, Nat.one_mul]
 ·rw [if_neg hk, if_pos (by omega), show (k + 1) / 2 = k / 2 + 1 by omega]
  rfl
theorem lU_next (k : Nat) : lU R w h k (w + k % 2) = lU R w h (k + 1) 0 := by
 unfold lU
 congr 1
 unfold uN
 by_cases hk : k % 2 = 0
 ·rw [if_pos hk, if_neg (by omega), show (k + 1) / 2 = k / 2 by omega]
  rfl
 ·rw [if_neg hk, if_pos (by omega), show (k + 1) / 2 = k / 2 + 1 by omega, show k % 2 = 1 by omega, Nat.add_mul, Nat.one_mul]
theorem row_bound {w h k x : Nat} (hw : w ≤ 4) (hh : h ≤ 4) (hk : k < 2 * h + 1) (hx : x ≤ w + k % 2) : aN w k x ≤ 100 ∧ uN w k x ≤ 100 := by
 have cw : w = 0 ∨ w = 1 ∨ w = 2 ∨ w = 3 ∨ w = 4 := by omega
 unfold aN uN
 constructor <;> split <;> rcases cw with rfl | rfl | rfl | rfl | rfl <;> omega
theorem tmod_w {w k : Nat} (hw : w ≤ 4) (hk : k < 9) : wrap64 ((w : Int) + Int.tmod (k : Int) 2) = ((w + k % 2 : Nat) : Int) := by
 rw [(small_k hk).1]
 unfold wrap64
 omega
theorem sp_l0 (hw : w ≤ 4) (hh : h ≤ 4) (hR : R.length = 2 * h + 1) : ∀ (d kk k : Nat), 2 * h + 1 - k = d → k ≤ 2 * h + 1 → 20 * d + 1 ≤ kk →
  ((∀ q, k ≤ q → q < 2 * h + 1 → rowOK R w q) → spec_fiParse.l0 kk R (R.length : Int) (k : Int) (w : Int) (h : Int) (lA R w h k 0) (lU R w h k 0) = some ((w : Int), (h : Int), lA R w h (2 * h + 1) 0, lU R w h (2 * h + 1) 0, true)) ∧
  ((∃ q, k ≤ q ∧ q < 2 * h + 1 ∧ ¬ rowOK R w q) → spec_fiParse.l0 kk R (R.length : Int) (k : Int) (w : Int) (h : Int) (lA R w h k 0) (lU R w h k 0) = failP) := by
 intro d
 induction d with
 | zero =>
  intro kk k h1 h2 h3
  obtain ⟨kk, rfl⟩ : ∃ q, kk = q + 1 := ⟨kk - 1, by omega⟩
  obtain rfl : k = 2 * h + 1 := by omega
  refine ⟨fun _ => ?_, fun ⟨q, q1, q2, _⟩ => absurd q2 (by omega)⟩
  rw [spec_fiParse.l0, if_neg (by rw [hR]; exact Int.lt_irrefl _)]
 | succ d ih =>
  intro kk k h1 h2 h3
  obtain ⟨kk, rfl⟩ : ∃ q, kk = q + 1 := ⟨kk - 1, by omega⟩
  have hk : k < 2 * h + 1 := by omega
  have hk9 : k < 9 := by omega
  have hkR : k < R.length := by omega
  have c0 : (k : Int) < (R.length : Int) := Int.ofNat_lt.2 hkR
  have c1 : (0 : Int) ≤ (k : Int) := Int.natCast_nonneg _
  have hrow := row_get hkR
  have hlen := row_len hkR
  have hb := row_bound (w := w) (h := h) (x := 0) hw hh hk (Nat.zero_le _)
  rw [spec_fiParse.l0, if_pos c0, if_pos c1, if_pos c0, hrow, tmod_w hw hk9]
  by_cases hsz : R[k].size = w + k % 2
  ·rw [if_pos (by rw [hsz])]
   have l1 : (lA R w h k 0).length ≤ 100 := Nat.le_trans (setL_len _ _) hb.1
   have l2 : (lU R w h k 0).length ≤ 100 := Nat.le_trans (setL_len _ _) hb.2
   by_cases hlet : ∀ x, x < w + k % 2 → letOK R k x
   ·obtain ⟨k', p1, p2⟩ := sp_l1_ok hw hh hk hkR hsz (w + k % 2) kk 0 (Nat.sub_zero _) (Nat.zero_le _) (by omega) (fun y _ hy => hlet y hy)
    obtain ⟨i1, i2⟩ := ih k' (k + 1) (by omega) (by omega) (by omega)
    rw [← lA_next, ← lU_next] at i1 i2
    have p2 : spec_fiParse.l1 kk (k : Int) R[k] 0 R (R.length : Int) (k : Int) (w : Int) (h : Int) (lA R w h k 0) (lU R w h k 0) = _ := p2
    rw [p2]
    refine ⟨fun hall => i1 (fun q q1 q2 => hall q (by omega) q2), fun ⟨q, q1, q2, q3⟩ => i2 ⟨q, ?_, q2, q3⟩⟩
    rcases Nat.lt_or_ge k q with h5 | h5
    ·exact h5
    ·obtain rfl : q = k := by omega
     exact absurd ⟨by rw [hlen]; exact hsz, hlet⟩ q3
   ·have hbadrow : ¬ rowOK R w k := fun q => hlet q.2
    refine ⟨fun hall => absurd (hall k (Nat.le_refl _) hk) hbadrow, fun _ => ?_⟩
    obtain ⟨y, hy⟩ := Classical.not_forall.1 hlet
    obtain ⟨hy1, hy2⟩ := Classical.not_imp.1 hy
    exact sp_l1_bad hk9 hkR (w : Int) (h : Int) y (by omega) (by omega) hy2 y kk 0 _ _ (Nat.sub_zero _) (Nat.zero_le _) (by omega) (by omega) (by omega)
  ·have hbadrow : ¬ rowOK R w k := fun q => hsz (by rw [← hlen]; exact q.1)
   refine ⟨fun hall => absurd (hall k (Nat.le_refl _) hk) hbadrow, fun _ => ?_⟩
   rw [if_neg (fun q => hsz (by exact_mod_cast q))]
   rfl
theorem rowM_lt {C : List (List UInt8)} (hw : w ≤ 4) (hh : h ≤ 4) {k : Nat} (hk : k < 2 * h + 1) {m : Nat} (hm : m < 2 ^ (w * (h + 1) + h * (w + 1))) : ∀ n, n ≤ w + k % 2 → rowM C w h k n m < 2 ^ (w * (h + 1) + h * (w + 1))
 | 0, _ => hm
 | n + 1, hn => by
  have ih := rowM_lt (C := C) hw hh hk hm n (by omega)
  unfold rowM
  split
  ·exact Nat.or_lt_two_pow ih (Nat.pow_lt_pow_right (by omega) (edK_lt hw hh hk (by omega)))
  ·exact ih
theorem allM_lt {C : List (List UInt8)} (hw : w ≤ 4) (hh : h ≤ 4) : ∀ k, k ≤ 2 * h + 1 → allM C w h k < 2 ^ (w * (h + 1) + h * (w + 1))
 | 0, _ => Nat.two_pow_pos _
 | k + 1, hk => rowM_lt hw hh (by omega) (allM_lt hw hh k (by omega)) _ (Nat.le_refl _)
theorem edge60 (hw : w ≤ 4) (hh : h ≤ 4) : w * (h + 1) + h * (w + 1) ≤ 40 := by
 have a1 : w * (h + 1) ≤ 4 * 5 := Nat.mul_le_mul hw (by omega)
 have a2 : h * (w + 1) ≤ 4 * 5 := Nat.mul_le_mul hh (by omega)
 omega
theorem im_l1 (g : GridOK (w : Int) (h : Int)) (hw : w ≤ 4) (hh : h ≤ 4) (s : ByteArray) {k : Nat} (hk : k < 2 * h + 1) (hkR : k < R.length) (hlen : R[k].size = w + k % 2) : ∀ (d kk x : Nat), w + k % 2 - x = d → x ≤ w + k % 2 → d + 1 ≤ kk →
  impl_ParseFigure.l1 kk s ((rowM (chs R) w h k x (allM (chs R) w h k) : Nat) : Int) (k : Int) R[k] R (R.length : Int) (k : Int) ((w + k % 2 : Nat) : Int) (x : Int) (w : Int) (h : Int) = impl_ParseFigure.l0 (kk - (d + 1)) s ((allM (chs R) w h (k + 1) : Nat) : Int) R (R.length : Int) ((k + 1 : Nat) : Int) (w : Int) (h : Int) := by
 intro d
 induction d with
 | zero =>
  intro kk x h1 h2 h3
  obtain ⟨kk, rfl⟩ : ∃ q, kk = q + 1 := ⟨kk - 1, by omega⟩
  obtain rfl : x = w + k % 2 := by omega
  have e1 : wrap64 ((k : Int) + 1) = ((k + 1 : Nat) : Int) := by clear hlen; unfold wrap64; omega
  rw [impl_ParseFigure.l1, if_neg (Int.lt_irrefl _), e1]
  rfl
 | succ d ih =>
  intro kk x h1 h2 h3
  obtain ⟨kk, rfl⟩ : ∃ q, kk = q + 1 := ⟨kk - 1, by omega⟩
  have ih := ih kk (x + 1) (by omega) (by omega) (by omega)
  rw [show kk + 1 - (d + 1 + 1) = kk - (d + 1) by omega, ← ih]
  clear ih
  have hx : x < w + k % 2 := by omega
  have hk9 : k < 9 := by omega
  have hxs : x < R[k].size := by omega
  have c0 : (x : Int) < ((w + k % 2 : Nat) : Int) := Int.ofNat_lt.2 hx
  have c2 : (x : Int) < (R[k].size : Int) := Int.ofNat_lt.2 hxs
  have c1 : (0 : Int) ≤ (x : Int) := Int.natCast_nonneg _
  have e1 : wrap64 ((x : Int) + 1) = ((x + 1 : Nat) : Int) := by clear c0 c2 hlen hxs; unfold wrap64; omega
  obtain ⟨t1, t2⟩ := small_k hk9
  have hbt := ch_row hkR hxs
  have hx4 : (x : Int) ≤ 4 := by clear hbt t1 t2 c0 c2 e1; omega
  have hy4 : ((k / 2 : Nat) : Int) ≤ 4 := by clear hbt t1 t2 c0 c2 e1; omega
  have h40 := edge60 hw hh
  have h60 : w * (h + 1) + h * (w + 1) ≤ 60 := Nat.le_trans h40 (by decide)
  have hM : rowM (chs R) w h k x (allM (chs R) w h k) < 2 ^ 60 := Nat.lt_of_lt_of_le (rowM_lt hw hh hk (allM_lt hw hh k (Nat.le_of_lt hk)) x (Nat.le_of_lt hx)) (Nat.pow_le_pow_right (by decide) h60)
  have hE : (2 : Nat) ^ edK w h k x < 2 ^ 60 := Nat.pow_lt_pow_right (by decide) (Nat.lt_of_lt_of_le (edK_lt hw hh hk hx) h60)
  have hor := or_u64 _ _ hM hE
  rw [impl_ParseFigure.l1, if_pos c0, if_pos c1, if_pos c2, e1, t2]
  by_cases hd : chC (chs R) k x = 46
  ·have hn : ndC (chs R) k x = false := by unfold ndC; rw [hd]; rfl
   have hd2 : bt R[k] (x : Int) = 46 := by rw [hbt, hd]; rfl
   rw [if_pos hd2]
   conv => rhs; unfold rowM
   rw [if_neg (by rw [hn]; decide)]
  ·have hn : ndC (chs R) k x = true := by unfold ndC; simpa using hd
   have hd2 : ¬ bt R[k] (x : Int) = 46 := by
    rw [hbt]; intro q; exact hd ((toNat_eq _ 46).1 q)
   rw [if_neg hd2]
   have eM : rowM (chs R) w h k (x + 1) (allM (chs R) w h k) = rowM (chs R) w h k x (allM (chs R) w h k) ||| 2 ^ edK w h k x := by
    conv => lhs; unfold rowM
    rw [if_pos hn]
   rw [eM, ← hor]
   by_cases hk2 : k % 2 = 0
   ·have ht : Int.tmod (k : Int) 2 = 0 := by rw [t1, hk2]; rfl
    have el : ((k / 2 : Nat) : Int) * (w : Int) + (x : Int) = ((edK w h k x : Nat) : Int) := by
     unfold edK; rw [if_pos hk2]; push_cast; rfl
    rw [if_pos ht, level_f g c1 hx4 (Int.natCast_nonneg _) hy4, Option.bind_some, el, Int.toNat_natCast]
   ·have ht : ¬ Int.tmod (k : Int) 2 = 0 := by rw [t1]; clear hor hM hE eM h60 h40 hbt t1 t2; omega
    have el : ((w : Int) * ((h : Int) + 1)).toNat + (((k / 2 : Nat) : Int) * ((w : Int) + 1) + (x : Int)).toNat = edK w h k x := by
     have q1 : (w : Int) * ((h : Int) + 1) = ((w * (h + 1) : Nat) : Int) := by push_cast; rfl
     have q2 : ((k / 2 : Nat) : Int) * ((w : Int) + 1) + (x : Int) = ((k / 2 * (w + 1) + x : Nat) : Int) := by push_cast; rfl
     unfold edK
     rw [if_neg hk2, q1, q2, Int.toNat_natCast, Int.toNat_natCast]
    rw [if_neg ht, upright_f g c1 hx4 (Int.natCast_nonneg _) hy4, Option.bind_some, el]
def lenRow (R : List ByteArray) (w k : Nat) : Prop := ((chs R).getD k []).length = w + k % 2
theorem bytes_list {a b : ByteArray} : a.toList = b.toList ↔ a.data.toList = b.data.toList := by
 rw [Lib.toList_data, Lib.toList_data]
theorem im_l0 (g : GridOK (w : Int) (h : Int)) (hw : w ≤ 4) (hh : h ≤ 4) (hR : R.length = 2 * h + 1) (s : ByteArray) : ∀ (d kk k : Nat), 2 * h + 1 - k = d → k ≤ 2 * h + 1 → 8 * d + 2000100 ≤ kk →
  ((∀ q, k ≤ q → q < 2 * h + 1 → lenRow R w q) → impl_ParseFigure.l0 kk s ((allM (chs R) w h k : Nat) : Int) R (R.length : Int) (k : Int) (w : Int) (h : Int) = if (figText w h (allM (chs R) w h (2 * h + 1))).data.toList = s.data.toList then some ((w : Int), (h : Int), rowA (w : Int) (h : Int) (allM (chs R) w h (2 * h + 1)), rowU (w : Int) (h : Int) (allM (chs R) w h (2 * h + 1)), true) else failP) ∧
  ((∃ q, k ≤ q ∧ q < 2 * h + 1 ∧ ¬ lenRow R w q) → impl_ParseFigure.l0 kk s ((allM (chs R) w h k : Nat) : Int) R (R.length : Int) (k : Int) (w : Int) (h : Int) = failP) := by
 intro d
 induction d with
 | zero =>
  intro kk k h1 h2 h3
  obtain ⟨kk, rfl⟩ : ∃ q, kk = q + 1 := ⟨kk - 1, by omega⟩
  obtain rfl : k = 2 * h + 1 := by omega
  refine ⟨fun _ => ?_, fun ⟨q, q1, q2, _⟩ => absurd q2 (by omega)⟩
  have hF : allM (chs R) w h (2 * h + 1) < 2 ^ figN (w : Int) (h : Int) := by
   have := allM_lt (C := chs R) hw hh (2 * h + 1) (Nat.le_refl _)
   have e : figN (w : Int) (h : Int) = w * (h + 1) + h * (w + 1) := by
    unfold figN
    have q1 : (w : Int) * ((h : Int) + 1) = ((w * (h + 1) : Nat) : Int) := by push_cast; rfl
    have q2 : (h : Int) * ((w : Int) + 1) = ((h * (w + 1) : Nat) : Int) := by push_cast; rfl
    rw [q1, q2, Int.toNat_natCast, Int.toNat_natCast]
   rw [e]
   exact this
  have lA := rowA_len g (allM (chs R) w h (2 * h + 1))
  have lU := rowU_len g (allM (chs R) w h (2 * h + 1))
  have hT := figureText_f (figB_rows g (allM (chs R) w h (2 * h + 1))) (by omega) (by omega) kk (by omega)
  rw [figMask_rows g hF] at hT
  rw [impl_ParseFigure.l0, if_neg (by rw [hR]; exact Int.lt_irrefl _), figure_f g hF, Option.bind_some]
  dsimp only
  rw [hT, Option.bind_some]
  by_cases hq : (figText w h (allM (chs R) w h (2 * h + 1))).data.toList = s.data.toList
  ·rw [if_pos hq, if_pos (bytes_list.2 hq)]
  ·rw [if_neg hq, if_neg (fun z => hq (bytes_list.1 z))]
   rfl
 | succ d ih =>
  intro kk k h1 h2 h3
  obtain ⟨kk, rfl⟩ : ∃ q, kk = q + 1 := ⟨kk - 1, by omega⟩
  have hk : k < 2 * h + 1 := by omega
  have hk9 : k < 9 := by omega
  have hkR : k < R.length := by omega
  have c0 : (k : Int) < (R.length : Int) := Int.ofNat_lt.2 hkR
  have c1 : (0 : Int) ≤ (k : Int) := Int.natCast_nonneg _
  have hrow := row_get hkR
  have hlen := row_len hkR
  rw [impl_ParseFigure.l0, if_pos c0, if_pos c1, if_pos c0, hrow, tmod_w hw hk9]
  by_cases hsz : R[k].size = w + k % 2
  ·rw [if_pos (by rw [hsz]), hsz]
   have p2 := im_l1 g hw hh s hk hkR hsz (w + k % 2) kk 0 (Nat.sub_zero _) (Nat.zero_le _) (by omega)
   have p2 : impl_ParseFigure.l1 kk s ((allM (chs R) w h k : Nat) : Int) (k : Int) R[k] R (R.length : Int) (k : Int) ((w + k % 2 : Nat) : Int) 0 (w : Int) (h : Int) = _ := p2
   obtain ⟨i1, i2⟩ := ih (kk - (w + k % 2 + 1)) (k + 1) (by omega) (by omega) (by omega)
   rw [p2]
   refine ⟨fun hall => i1 (fun q q1 q2 => hall q (by omega) q2), fun ⟨q, q1, q2, q3⟩ => i2 ⟨q, ?_, q2, q3⟩⟩
   rcases Nat.lt_or_ge k q with h5 | h5
   ·exact h5
   ·obtain rfl : q = k := by omega
    exact absurd (by unfold lenRow; rw [hlen]; exact hsz) q3
  ·have hbadrow : ¬ lenRow R w k := fun q => hsz (by rw [← hlen]; exact q)
   refine ⟨fun hall => absurd (hall k (Nat.le_refl _) hk) hbadrow, fun _ => ?_⟩
   rw [if_neg (fun q => hsz (by exact_mod_cast q))]
   rfl
end
theorem joinL_short {c : UInt8} : ∀ {l : List (List UInt8)}, (∀ p ∈ l, p.length ≤ 5) → (joinL c l).length ≤ 6 * l.length
 | [], _ => Nat.zero_le _
 | [p], h => by
  have := h p List.mem_cons_self
  show p.length ≤ 6 * 1
  omega
 | p :: q :: r, h => by
  have h1 := h p List.mem_cons_self
  have ih := joinL_short (c := c) (l := q :: r) (fun x hx => h x (List.mem_cons_of_mem _ hx))
  show (p ++ c :: joinL c (q :: r)).length ≤ _
  rw [List.length_append, List.length_cons]
  simp only [List.length_cons] at ih ⊢
  omega
theorem lA_all (R : List ByteArray) {w h : Nat} : lA R w h (2 * h + 1) 0 = rowA (w : Int) (h : Int) (allM (chs R) w h (2 * h + 1)) ∧ lU R w h (2 * h + 1) 0 = rowU (w : Int) (h : Int) (allM (chs R) w h (2 * h + 1)) := by
 have q1 : (w : Int) * ((h : Int) + 1) = ((w * (h + 1) : Nat) : Int) := by push_cast; rfl
 have q2 : (h : Int) * ((w : Int) + 1) = ((h * (w + 1) : Nat) : Int) := by push_cast; rfl
 have a1 : aN w (2 * h + 1) 0 = w * (h + 1) := by
  unfold aN; rw [if_neg (by omega), show (2 * h + 1) / 2 = h by omega, Nat.mul_comm]
 have a2 : uN w (2 * h + 1) 0 = h * (w + 1) := by
  unfold uN; rw [if_neg (by omega), show (2 * h + 1) / 2 = h by omega, Nat.add_zero]
 unfold lA lU rowA rowU
 rw [a1, a2, q1, q2, Int.toNat_natCast, Int.toNat_natCast]
 exact ⟨rfl, rfl⟩
theorem ParseFigure_pure (s : ByteArray) (hs : s.size ≤ 1000000) (K' : Nat) (hK : 3000000 ≤ K') : ∃ o : Int × Int × List Int × List Int × Bool, spec_ParseFigure.f (K' + 1) s = some o ∧ (∀ k, 3000000 ≤ k → impl_ParseFigure.f k s = some o) ∧ o.2.2.1.length ≤ 64 ∧ o.2.2.2.1.length ≤ 64 := by
 obtain ⟨R, hRdef⟩ : ∃ R, R = Lib.splitB ⟨#[47]⟩ 0 (Lib.countB s ⟨#[47]⟩) s := ⟨_, rfl⟩
 have hcut : chs R = cutL 47 s.data.toList := by rw [hRdef]; exact split_cut 47 s
 have hI : ∀ k, impl_ParseFigure.f k s = (if 0 < (R.length : Int) then ((impl_isGrid.f ((rdOf ByteArray.empty R 0).size : Int) (wrap64 ((R.length : Int) / 2))).bind fun t165 => (if t165 = true then (impl_ParseFigure.j0 k s R ((R.length : Int) != (wrap64 ((wrap64 (2 * (wrap64 ((R.length : Int) / 2)))) + 1))) ((rdOf ByteArray.empty R 0).size : Int) (wrap64 ((R.length : Int) / 2))) else (impl_ParseFigure.j0 k s R true ((rdOf ByteArray.empty R 0).size : Int) (wrap64 ((R.length : Int) / 2))))) else (none)) := fun k => by
  unfold impl_ParseFigure.f strings_Split.f
  rw [if_pos ⟨by omega, by decide⟩, Option.bind_some, ← hRdef]
 have hS : s.size ≤ 60 → spec_ParseFigure.f (K' + 1) s = ((if 0 < (R.length : Int) then (if ((R.length : Int) % 2) = 0 then (spec_fiParse.j0 (K' + 1) R true ((rdOf ByteArray.empty R 0).size : Int) (wrap64 ((R.length : Int) / 2))) else ((spec_fiGrid.f ((rdOf ByteArray.empty R 0).size : Int) (wrap64 ((R.length : Int) / 2))).bind fun t115 => (spec_fiParse.j0 (K' + 1) R (!t115) ((rdOf ByteArray.empty R 0).size : Int) (wrap64 ((R.length : Int) / 2))))) else (none))) := fun hs60 => by
  obtain ⟨R', r1, r2⟩ := l1Split_f s (by omega) (K' + 1) (by omega)
  have hRR : R' = R := rows_inj (by rw [r2]; exact hcut.symm)
  unfold spec_ParseFigure.f spec_fiParse.f
  rw [if_neg (by omega), r1, Option.bind_some, hRR]
  generalize (if 0 < (R.length : Int) then (if ((R.length : Int) % 2) = 0 then (spec_fiParse.j0 (K' + 1) R true ((rdOf ByteArray.empty R 0).size : Int) (wrap64 ((R.length : Int) / 2))) else ((spec_fiGrid.f ((rdOf ByteArray.empty R 0).size : Int) (wrap64 ((R.length : Int) / 2))).bind fun t115 => (spec_fiParse.j0 (K' + 1) R (!t115) ((rdOf ByteArray.empty R 0).size : Int) (wrap64 ((R.length : Int) / 2))))) else (none)) = z
  cases z <;> rfl
 have hS2 : ¬ s.size ≤ 60 → spec_ParseFigure.f (K' + 1) s = failP := fun h => by
  unfold spec_ParseFigure.f spec_fiParse.f
  rw [if_pos (by omega)]
  rfl
 have hne := cutL_ne 47 s.data.toList
 have hlen : (chs R).length = R.length := by unfold chs; rw [List.length_map]
 have hcl : (cutL 47 s.data.toList).length ≤ s.size + 1 := by
  have : ∀ l : List UInt8, (cutL 47 l).length ≤ l.length + 1 := by
   intro l
   induction l with
   | nil => exact Nat.le_refl _
   | cons b t ih =>
    unfold cutL
    split
    ·simp only [List.length_cons]; omega
    ·cases hc : cutL 47 t with
     | nil => exact absurd hc (cutL_ne 47 t)
     | cons p r => rw [hc] at ih; simp only [List.length_cons] at ih ⊢; omega
  have h2 := this s.data.toList
  have h3 : s.data.toList.length = s.size := by simp
  rw [h3] at h2
  exact h2
 have hR0 : 0 < R.length := by
  rw [← hlen, hcut]
  exact List.length_pos_iff.2 hne
 have hRb : R.length ≤ 1000001 := by rw [← hlen, hcut]; omega
 obtain ⟨w, hwd⟩ : ∃ w, w = R[0].size := ⟨_, rfl⟩
 obtain ⟨h, hhd⟩ : ∃ h, h = R.length / 2 := ⟨_, rfl⟩
 have hrow : rdOf ByteArray.empty R 0 = R[0] := row_get hR0
 have hw2 : wrap64 ((R.length : Int) / 2) = (h : Int) := by
  rw [hhd]
  exact half_of hRb
 have hh2 : h ≤ 1000001 := by rw [hhd]; exact Nat.le_trans (Nat.div_le_self _ _) hRb
 have c0 : (0 : Int) < (R.length : Int) := Int.ofNat_lt.2 hR0
 simp only [if_pos c0, hrow, hw2, ← hwd] at hI hS
 have f1 : ∀ k x, impl_ParseFigure.j0 (k + 1) s R true x (h : Int) = failP := fun k x => by rw [impl_ParseFigure.j0, if_pos rfl]; rfl
 have f2 : ∀ k x, spec_fiParse.j0 (k + 1) R true x (h : Int) = failP := fun k x => by rw [spec_fiParse.j0, if_pos rfl]; rfl
 have hg := isGrid_f (w : Int) (h : Int)
 have hg2 := fiGrid_f (w : Int) (h : Int)
 by_cases hgr : (1 ≤ w ∧ w ≤ 4 ∧ 1 ≤ h ∧ h ≤ 4) ∧ R.length = 2 * h + 1
 ·obtain ⟨⟨w1, w4, h1, h4⟩, hR⟩ := hgr
  have g : GridOK (w : Int) (h : Int) := ⟨by omega, by omega, by omega, by omega⟩
  have hdec : (decide (1 ≤ (w : Int)) && decide ((w : Int) ≤ 4) && decide (1 ≤ (h : Int)) && decide ((h : Int) ≤ 4)) = true := by
   simp only [Bool.and_eq_true, decide_eq_true_eq]; omega
  rw [hdec] at hg hg2
  have hne2 : ((R.length : Int) != (wrap64 ((wrap64 (2 * (h : Int))) + 1))) = false := by
   rw [bne_eq_false_iff_eq, hR, wrap_odd hh2]
  have hodd : ¬ ((R.length : Int) % 2) = 0 := odd_of hR
  simp only [hg, Option.bind_some, if_true, hne2] at hI
  simp only [hg2, Option.bind_some, if_neg hodd, Bool.not_true] at hS
  have hI2 : ∀ k, 3000000 ≤ k → impl_ParseFigure.f k s = impl_ParseFigure.l0 (k - 1) s ((allM (chs R) w h 0 : Nat) : Int) R (R.length : Int) ((0 : Nat) : Int) (w : Int) (h : Int) := fun k hk => by
   obtain ⟨k, rfl⟩ : ∃ q, k = q + 1 := ⟨k - 1, by omega⟩
   rw [hI, impl_ParseFigure.j0, if_neg (by decide)]
   rfl
  have hS3 : s.size ≤ 60 → spec_ParseFigure.f (K' + 1) s = spec_fiParse.l0 K' R (R.length : Int) ((0 : Nat) : Int) (w : Int) (h : Int) (lA R w h 0 0) (lU R w h 0 0) := fun hs60 => by
   rw [hS hs60, spec_fiParse.j0, if_neg (by decide)]
   have e1 : lA R w h 0 0 = [] := by
    unfold lA aN
    rw [if_pos rfl, Nat.zero_div, Nat.zero_mul]
    rfl
   have e2 : lU R w h 0 0 = [] := by
    unfold lU uN
    rw [if_pos rfl, Nat.zero_div, Nat.zero_mul]
    rfl
   rw [e1, e2]
   rfl
  have iL := fun k (hk : 3000000 ≤ k) => im_l0 (R := R) g w4 h4 hR s (2 * h + 1) (k - 1) 0 (Nat.sub_zero _) (Nat.zero_le _) (by omega)
  have sL := sp_l0 (R := R) (w := w) w4 h4 hR (2 * h + 1) K' 0 (Nat.sub_zero _) (Nat.zero_le _) (by omega)
  by_cases hall : ∀ q, 0 ≤ q → q < 2 * h + 1 → lenRow R w q
  ·have hlo : lenOK (chs R) w h := ⟨by rw [hlen, hR], fun k hk => hall k (Nat.zero_le _) hk⟩
   have hjoin : s.data.toList = joinL 47 (chs R) := by rw [hcut, join_cut]
   have h60 : s.size ≤ 60 := by
    have h5 := joinL_short (c := 47) (l := chs R) (fun p hp => by
     obtain ⟨i, hi, rfl⟩ := List.getElem_of_mem hp
     have h6 := hlo.2 i (by rw [← hlo.1]; exact hi)
     rw [List.getD_eq_getElem?_getD, List.getElem?_eq_getElem hi] at h6
     have h7 : (chs R)[i].length = w + i % 2 := h6
     omega)
    have h8 : s.data.toList.length = s.size := by simp
    rw [← hjoin, h8, hlo.1] at h5
    omega
   have hti := text_iff w4 h4 hlo s hjoin
   have lA2 := rowA_len g (allM (chs R) w h (2 * h + 1))
   have lU2 := rowU_len g (allM (chs R) w h (2 * h + 1))
   obtain ⟨a1, a2⟩ := lA_all R (w := w) (h := h)
   by_cases hp : propK (chs R) w h
   ·refine ⟨((w : Int), (h : Int), rowA (w : Int) (h : Int) (allM (chs R) w h (2 * h + 1)), rowU (w : Int) (h : Int) (allM (chs R) w h (2 * h + 1)), true), ?_, fun k hk => ?_, by dsimp only; omega, by dsimp only; omega⟩
    ·rw [hS3 h60, sL.1 (fun q _ hq => ⟨hall q (Nat.zero_le _) hq, fun x hx => hp q x hq hx⟩), a1, a2]
    ·rw [hI2 k hk, (iL k hk).1 hall, if_pos (hti.2 hp)]
   ·refine ⟨(0, 0, ([] : List Int), ([] : List Int), false), ?_, fun k hk => ?_, Nat.zero_le _, Nat.zero_le _⟩
    ·rw [hS3 h60, sL.2 ?_]
     ·rfl
     ·refine Classical.byContradiction fun hno => hp fun k x hk hx => ?_
      refine Classical.byContradiction fun hb => hno ⟨k, Nat.zero_le _, hk, fun hr => hb (hr.2 x hx)⟩
    ·rw [hI2 k hk, (iL k hk).1 hall, if_neg (fun z => hp (hti.1 z))]
     rfl
  ·obtain ⟨q, hq⟩ := Classical.not_forall.1 hall
   obtain ⟨_, hq⟩ := Classical.not_imp.1 hq
   obtain ⟨hq1, hq2⟩ := Classical.not_imp.1 hq
   refine ⟨(0, 0, ([] : List Int), ([] : List Int), false), ?_, fun k hk => ?_, Nat.zero_le _, Nat.zero_le _⟩
   ·by_cases h60 : s.size ≤ 60
    ·rw [hS3 h60, sL.2 ⟨q, Nat.zero_le _, hq1, fun z => hq2 z.1⟩]
     rfl
    ·rw [hS2 h60]
     rfl
   ·rw [hI2 k hk, (iL k hk).2 ⟨q, Nat.zero_le _, hq1, hq2⟩]
    rfl
 ·refine ⟨(0, 0, ([] : List Int), ([] : List Int), false), ?_, fun k hk => ?_, Nat.zero_le _, Nat.zero_le _⟩
  ·by_cases h60 : s.size ≤ 60
   ·rw [hS h60]
    by_cases hodd : ((R.length : Int) % 2) = 0
    ·rw [if_pos hodd, f2]
     rfl
    ·rw [if_neg hodd, hg2, Option.bind_some]
     have hdec : (decide (1 ≤ (w : Int)) && decide ((w : Int) ≤ 4) && decide (1 ≤ (h : Int)) && decide ((h : Int) ≤ 4)) = false := by
      rw [Bool.eq_false_iff]
      intro q
      simp only [Bool.and_eq_true, decide_eq_true_eq] at q
      exact hgr ⟨by omega, by omega⟩
     rw [hdec, Bool.not_false, f2]
     rfl
   ·rw [hS2 h60]
    rfl
  ·obtain ⟨k, rfl⟩ : ∃ q, k = q + 1 := ⟨k - 1, by omega⟩
   rw [hI, hg, Option.bind_some]
   by_cases hdec : (decide (1 ≤ (w : Int)) && decide ((w : Int) ≤ 4) && decide (1 ≤ (h : Int)) && decide ((h : Int) ≤ 4)) = true
   ·have hne2 : ((R.length : Int) != (wrap64 ((wrap64 (2 * (h : Int))) + 1))) = true := by
     rw [bne_iff_ne]
     intro q
     simp only [Bool.and_eq_true, decide_eq_true_eq] at hdec
     refine hgr ⟨by omega, ?_⟩
     rw [wrap_odd hh2] at q
     exact Int.ofNat_inj.1 q
    rw [if_pos hdec, hne2, f1]
    rfl
   ·rw [if_neg hdec, f1]
    rfl

end Go.Proofs.YtehjfaddhmdicaaDoor.P
namespace Go.Proofs.YtehjfaddhmdicaaDoor.P
open Go.RowKit Go.Proofs.YtehjfaddhmdicaaDoorW.PrintWords Go.Proofs.YtehjfaddhmdicaaDoorW.PrintLast Go.Proofs.YtehjfaddhmdicaaDoorW.PrintMore
attribute [local go_sem] max2_int min2_int max_two min_two max_three min_three max_four min_four   -- for this text's walks alone
set_option linter.unusedVariables false
set_option linter.unusedSimpArgs false

def laws_roomBehind.f (a0 : Int) : Option (Int) := if (Int.tmod a0 6) = 5 then (some 0) else (if (Int.tmod a0 3) = 0 then (some 1) else (some a0))


def laws_szIntS.f (l0 : List Int) (a1 : Int) : Option (Int) := if (wrap64 (a1 - (l0.length : Int))) < 0 then (some (-1)) else (some (wrap64 (a1 - (l0.length : Int))))

def laws_szFigure.f (a0_0 : Int) (a0_1 : Int) (l0_2 : List Int) (l0_3 : List Int) (a1 : Int) : Option (Int) := (laws_szIntS.f l0_2 a1).bind fun t233 => (if t233 < 0 then (some (-1)) else ((laws_szIntS.f l0_3 t233).bind fun t234 => (if t234 < 0 then (some (-1)) else (some t234))))

mutual
def laws_toIntS.j0 : Nat → List Int → Bool → Option (List Int)
  | 0, _, _ => none
  | k + 1, x0, x13 => if x13 = true then (some ([] : List Int)) else ((laws_roomBehind.f (x0.length : Int)).bind fun t235 => (if 0 ≤ (wrap64 ((x0.length : Int) + t235)) then (if (wrap64 ((x0.length : Int) + t235) : Int).toNat ≤ 35184372088832 then (laws_toIntS.l0 k x0 (List.replicate (wrap64 ((x0.length : Int) + t235) : Int).toNat 0) 0) else (none)) else (none)))
def laws_toIntS.l0 : Nat → List Int → List Int → Int → Option (List Int)
  | 0, _, _, _ => none
  | k + 1, x0, x5, x6 => if x6 < (x0.length : Int) then (if 0 ≤ x6 then (if x6 < (x5.length : Int) then (laws_toIntS.l0 k x0 (x5.set (x6 : Int).toNat (rd x0 x6)) (wrap64 (x6 + 1))) else (none)) else (none)) else (laws_toIntS.l1 k x0 x5 (x0.length : Int))
def laws_toIntS.l1 : Nat → List Int → List Int → Int → Option (List Int)
  | 0, _, _, _ => none
  | k + 1, x0, x5, x7 => if x7 < (x5.length : Int) then (if 0 ≤ x7 then (laws_toIntS.l1 k x0 (x5.set (x7 : Int).toNat (-7000000000000000101)) (wrap64 (x7 + 1))) else (none)) else (if 0 ≤ (x0.length : Int) then (if (x0.length : Int) ≤ (x5.length : Int) then (some (x5.take ((x0.length : Int) : Int).toNat)) else (none)) else (none))
end
def laws_toIntS.f (k : Nat) (l0 : List Int) (a1 : Bool) : Option (List Int) := if a1 = true then (laws_toIntS.j0 k l0 ((l0.length : Int) == 0)) else (laws_toIntS.j0 k l0 false)
theorem laws_toIntS.mono_l : ∀ k, (∀ y0 y1, LeO (laws_toIntS.j0 k y0 y1) (laws_toIntS.j0 (k + 1) y0 y1)) ∧ (∀ y0 y1 y2, LeO (laws_toIntS.l0 k y0 y1 y2) (laws_toIntS.l0 (k + 1) y0 y1 y2)) ∧ (∀ y0 y1 y2, LeO (laws_toIntS.l1 k y0 y1 y2) (laws_toIntS.l1 (k + 1) y0 y1 y2))
  | 0 => ⟨fun _ _ r h => by simp [laws_toIntS.j0] at h, fun _ _ _ r h => by simp [laws_toIntS.l0] at h, fun _ _ _ r h => by simp [laws_toIntS.l1] at h⟩
  | k + 1 => by
    obtain ⟨ih0, ih1, ih2⟩ := laws_toIntS.mono_l k
    refine ⟨?_, ?_, ?_⟩
    · intro y0 y1
      unfold laws_toIntS.j0
      repeat' first
      | (with_reducible exact ih0 _ _)
      | (with_reducible exact ih1 _ _ _)
      | (with_reducible exact ih2 _ _ _)
      | (with_reducible exact LeO.refl _)
      | (with_reducible exact LeO.none _)
      | (with_reducible refine LeO.ite ?_ ?_)
      | (with_reducible refine LeO.bind ?_ (fun _ => ?_))
      | exact ih0 _ _
      | exact ih1 _ _ _
      | exact ih2 _ _ _
      | exact LeO.none _
      | refine LeO.ite ?_ ?_
      | refine LeO.bind ?_ (fun _ => ?_)
    · intro y0 y1 y2
      unfold laws_toIntS.l0
      repeat' first
      | (with_reducible exact ih0 _ _)
      | (with_reducible exact ih1 _ _ _)
      | (with_reducible exact ih2 _ _ _)
      | (with_reducible exact LeO.refl _)
      | (with_reducible exact LeO.none _)
      | (with_reducible refine LeO.ite ?_ ?_)
      | (with_reducible refine LeO.bind ?_ (fun _ => ?_))
      | exact ih0 _ _
      | exact ih1 _ _ _
      | exact ih2 _ _ _
      | exact LeO.none _
      | refine LeO.ite ?_ ?_
      | refine LeO.bind ?_ (fun _ => ?_)
    · intro y0 y1 y2
      unfold laws_toIntS.l1
      repeat' first
      | (with_reducible exact ih0 _ _)
      | (with_reducible exact ih1 _ _ _)
      | (with_reducible exact ih2 _ _ _)
      | (with_reducible exact LeO.refl _)
      | (with_reducible exact LeO.none _)
      | (with_reducible refine LeO.ite ?_ ?_)
      | (with_reducible refine LeO.bind ?_ (fun _ => ?_))
      | exact ih0 _ _
      | exact ih1 _ _ _
      | exact ih2 _ _ _
      | exact LeO.none _
      | refine LeO.ite ?_ ?_
      | refine LeO.bind ?_ (fun _ => ?_)
theorem laws_toIntS.mono : ∀ a0 a1 k, LeO (laws_toIntS.f k a0 a1) (laws_toIntS.f (k + 1) a0 a1) := by
  intro a0 a1 k
  obtain ⟨ih0, ih1, ih2⟩ := laws_toIntS.mono_l k
  unfold laws_toIntS.f
  repeat' first
      | (with_reducible exact ih0 _ _)
      | (with_reducible exact ih1 _ _ _)
      | (with_reducible exact ih2 _ _ _)
      | (with_reducible exact LeO.refl _)
      | (with_reducible exact LeO.none _)
      | (with_reducible refine LeO.ite ?_ ?_)
      | (with_reducible refine LeO.bind ?_ (fun _ => ?_))
      | exact ih0 _ _
      | exact ih1 _ _ _
      | exact ih2 _ _ _
      | exact LeO.none _
      | refine LeO.ite ?_ ?_
      | refine LeO.bind ?_ (fun _ => ?_)

def laws_toFigure.f (k : Nat) (a0_0 : Int) (a0_1 : Int) (l0_2 : List Int) (l0_3 : List Int) (a1 : Bool) : Option (Int × Int × List Int × List Int) := (laws_toIntS.f k l0_2 a1).bind fun t248 => ((laws_toIntS.f k l0_3 a1).bind fun t251 => (some (a0_0, a0_1, t248, t251)))
theorem laws_toFigure.mono : ∀ a0 a1 a2 a3 a4 k, LeO (laws_toFigure.f k a0 a1 a2 a3 a4) (laws_toFigure.f (k + 1) a0 a1 a2 a3 a4) := by
  intro a0 a1 a2 a3 a4 k
  unfold laws_toFigure.f
  repeat' first
      | (with_reducible exact laws_toIntS.mono _ _ _)
      | (with_reducible exact LeO.refl _)
      | (with_reducible exact LeO.none _)
      | (with_reducible refine LeO.ite ?_ ?_)
      | (with_reducible refine LeO.bind ?_ (fun _ => ?_))
      | exact laws_toIntS.mono _ _ _
      | exact LeO.none _
      | refine LeO.ite ?_ ?_
      | refine LeO.bind ?_ (fun _ => ?_)

def marks (n : Nat) (a : Int) : List Int := (List.range n).map fun (i : Nat) => a + (i : Int)
theorem markIntS_l0 (l : List Int) (a : Int) (ha : 0 ≤ a) (hb : (l.length : Int) + a ≤ 100000000) : ∀ (d k kk : Nat), l.length - kk = d → kk ≤ l.length → d < k →
    laws_markIntS.l0 k (marks kk a ++ l.drop kk) (a + kk) (kk : Int) = some (a + l.length, marks l.length a) := by
  intro d
  induction d with
  | zero =>
    intro k kk h1 h2 h3
    obtain ⟨k, rfl⟩ : ∃ m, k = m + 1 := ⟨k - 1, by omega⟩
    obtain rfl : kk = l.length := by omega
    have hl : (marks l.length a ++ l.drop l.length).length = l.length := by simp [marks]
    simp only [laws_markIntS.l0]
    rw [hl, if_neg (by omega), List.drop_length, List.append_nil]
  | succ d ih =>
    intro k kk h1 h2 h3
    obtain ⟨k, rfl⟩ : ∃ m, k = m + 1 := ⟨k - 1, by omega⟩
    have hl : (marks kk a ++ l.drop kk).length = l.length := by simp [marks]; omega
    have hmk : (marks kk a).length = kk := by simp [marks]
    have e1 : wrap64 (a + (kk : Int) + 1) = a + ((kk + 1 : Nat) : Int) := by unfold wrap64; omega
    have e2 : wrap64 ((kk : Int) + 1) = ((kk + 1 : Nat) : Int) := by unfold wrap64; omega
    have e3 : (marks kk a ++ l.drop kk).set kk (a + (kk : Int)) = marks (kk + 1) a ++ l.drop (kk + 1) := by
      rw [List.drop_eq_getElem_cons (show kk < l.length by omega), List.set_append, if_neg (by omega), hmk, Nat.sub_self, List.set_cons_zero]
      simp [marks, List.range_succ]
    simp only [laws_markIntS.l0]
    rw [hl, if_pos (by omega), if_pos (by omega), Int.toNat_natCast, e3, e1, e2]
    exact ih k (kk + 1) (by omega) (by omega) (by omega)
theorem markIntS_f (l : List Int) (a : Int) (ha : 0 ≤ a) (hb : (l.length : Int) + a ≤ 100000000) (k : Nat) (hk : l.length < k) : laws_markIntS.f k l a = some (a + l.length, marks l.length a) := by
  unfold laws_markIntS.f
  have := markIntS_l0 l a ha hb l.length k 0 (by omega) (by omega) hk
  simpa [marks] using this
theorem markFigure_f (x y : Int) (l m : List Int) (hb : l.length + m.length ≤ 1000000) (k : Nat) (hk : 3000010 < k) : laws_markFigure.f k x y l m 101 = some (101 + (l.length : Int) + (m.length : Int), marks l.length 101, marks m.length (101 + (l.length : Int))) := by
  unfold laws_markFigure.f
  rw [markIntS_f l 101 (by omega) (by omega) k (by omega)]
  simp only [Option.bind_some]
  rw [markIntS_f m _ (by omega) (by omega) k (by omega)]
  rfl


theorem eqIntS_l0 (L : List Int) (hL : L.length ≤ 4000000) : ∀ (d : Nat) (k : Nat) (i : Nat), L.length - i = d → i ≤ L.length → d < k → laws_eqIntS.l0 k L L (i : Int) = some true := by
  intro d
  induction d with
  | zero =>
    intro k i h1 h2 h3
    obtain ⟨k, rfl⟩ : ∃ m, k = m + 1 := ⟨k - 1, by omega⟩
    simp only [laws_eqIntS.l0]
    rw [if_neg (by omega)]
  | succ d ih =>
    intro k i h1 h2 h3
    obtain ⟨k, rfl⟩ : ∃ m, k = m + 1 := ⟨k - 1, by omega⟩
    simp only [laws_eqIntS.l0]
    rw [if_pos (by omega), if_pos (by omega), if_pos (by omega), if_pos trivial, show wrap64 ((i : Int) + 1) = ((i + 1 : Nat) : Int) by unfold wrap64; omega]
    exact ih k (i + 1) (by omega) (by omega) (by omega)
theorem eqIntS_refl (L : List Int) (hL : L.length ≤ 4000000) (k : Nat) (hk : L.length < k) : laws_eqIntS.f k L L = some true := by
  unfold laws_eqIntS.f
  rw [if_pos rfl]
  exact eqIntS_l0 L hL L.length k 0 (by omega) (by omega) hk
theorem marks_len (n : Nat) (a : Int) : (marks n a).length = n := by simp [marks]
theorem rd_marks (n : Nat) (a : Int) (i : Nat) (h : i < n) : rd (marks n a) (i : Int) = a + (i : Int) := by
  rw [rd_nat _ _ (by rw [marks_len]; exact h)]
  simp [marks]
theorem heldIntS_l0 (n : Nat) (a : Int) (ha : 0 ≤ a) (hb : (n : Int) + a ≤ 100000000) : ∀ (d k kk : Nat), n - kk = d → kk ≤ n → d < k → laws_heldIntS.l0 k (marks n a) (a + kk) (kk : Int) = some (a + n) := by
  intro d
  induction d with
  | zero =>
    intro k kk h1 h2 h3
    obtain ⟨k, rfl⟩ : ∃ m, k = m + 1 := ⟨k - 1, by omega⟩
    obtain rfl : kk = n := by omega
    simp only [laws_heldIntS.l0]
    rw [marks_len, if_neg (by omega)]
  | succ d ih =>
    intro k kk h1 h2 h3
    obtain ⟨k, rfl⟩ : ∃ m, k = m + 1 := ⟨k - 1, by omega⟩
    have e1 : wrap64 (a + (kk : Int) + 1) = a + ((kk + 1 : Nat) : Int) := by unfold wrap64; omega
    have e2 : wrap64 ((kk : Int) + 1) = ((kk + 1 : Nat) : Int) := by unfold wrap64; omega
    simp only [laws_heldIntS.l0]
    rw [marks_len, if_pos (by omega), if_pos (by omega), rd_marks n a kk (by omega), e1, e2]
    first
      | (rw [if_pos rfl]; exact ih k (kk + 1) (by omega) (by omega) (by omega))
      | (rw [if_neg (by simp)]; exact ih k (kk + 1) (by omega) (by omega) (by omega))
theorem heldIntS_f (n : Nat) (a : Int) (ha : 0 ≤ a) (hb : (n : Int) + a ≤ 100000000) (k : Nat) (hk : n < k) : laws_heldIntS.f k (marks n a) a = some (a + (n : Int)) := by
  unfold laws_heldIntS.f
  have := heldIntS_l0 n a ha hb n k 0 (by omega) (by omega) hk
  simpa using this

theorem eqFigure_refl (x y : Int) (l m : List Int) (hl : l.length ≤ 4000000) (hm : m.length ≤ 4000000) (k : Nat) (hk : 4000000 < k) : laws_eqFigure.f k x y l m x y l m = some true := by
  unfold laws_eqFigure.f
  rw [if_pos rfl, if_pos rfl, eqIntS_refl l hl k (by omega), Option.bind_some, if_pos rfl, eqIntS_refl m hm k (by omega), Option.bind_some, if_pos rfl]
theorem heldFigure_f (x y : Int) (n2 n3 : Nat) (hb : n2 + n3 ≤ 1000000) (k : Nat) (hk : 4000000 < k) : laws_heldFigure.f k x y (marks n2 101) (marks n3 (101 + (n2 : Int))) 101 = some (101 + (n2 : Int) + (n3 : Int)) := by
  unfold laws_heldFigure.f
  rw [heldIntS_f n2 101 (by omega) (by omega) k (by omega), Option.bind_some, if_neg (by omega), heldIntS_f n3 _ (by omega) (by omega) k (by omega), Option.bind_some, if_neg (by omega)]
end Go.Proofs.YtehjfaddhmdicaaDoor.P
/- The law FnExactParseFigure, as a statement of numbers and lists: both sides tell the same figure of every text; no condition. -/
namespace Go.Proofs.YtehjfaddhmdicaaDoor.Pure
open Go.RowKit Go.Proofs.YtehjfaddhmdicaaDoor.P Go.Proofs.YtehjfaddhmdicaaDoorW.PrintWords Go.Proofs.YtehjfaddhmdicaaDoorW.PrintLast
theorem FnExactParseFigure : laws_FnExactParseFigure.Pure := by
  intro a0 _
  refine ⟨5000000, ?_⟩
  unfold laws_FnExactParseFigure.f
  by_cases h : (a0.size : Int) > 1000000
  · rw [if_pos h]
  · rw [if_neg h]
    have hs : a0.size ≤ 1000000 := by omega
    obtain ⟨o, h1, h2, h3, h4⟩ := ParseFigure_pure a0 hs 4999999 (by decide)
    have h1 : spec_ParseFigure.f 5000000 a0 = some o := h1
    rw [h1, Option.bind_some, h2 5000000 (by decide), Option.bind_some]
    clear h1
    obtain ⟨x, y, L, M, b⟩ := o
    have hL : L.length ≤ 64 := h3
    have hM : M.length ≤ 64 := h4
    clear h3 h4
    dsimp only
    have hbb : (b != b) = false := by cases b <;> rfl
    rw [eqFigure_refl x y L M (by omega) (by omega) 5000000 (by decide), Option.bind_some, if_pos rfl, hbb, show (5000000 : Nat) = 4999998 + 1 + 1 from rfl, laws_FnExactParseFigure.j0, if_neg (by decide), markFigure_f x y L M (by omega) _ (by decide), Option.bind_some]
    dsimp only
    rw [heldFigure_f x y L.length M.length (by omega) _ (by decide), Option.bind_some, if_neg (by omega), if_pos rfl, h2 _ (by decide), Option.bind_some]
    dsimp only
    rw [eqFigure_refl x y L M (by omega) (by omega) _ (by decide), Option.bind_some, if_pos rfl, hbb, laws_FnExactParseFigure.j1, if_neg (by decide), heldFigure_f x y L.length M.length (by omega) _ (by decide), Option.bind_some, if_neg (by omega), if_pos rfl]
end Go.Proofs.YtehjfaddhmdicaaDoor.Pure
/- What the row's listed variable, math/bits' table, gives a walk; a world in which it is laid. -/
namespace Go.Proofs.YtehjfaddhmdicaaDoor.LaidP
open Go.RowKit
theorem mapM_at {α β : Type} {f : α → Option β} : ∀ {l : List α} {xs : List β}, l.mapM f = some xs → ∀ (j : Nat) (x : α), l[j]? = some x → ∃ y, xs[j]? = some y ∧ f x = some y
  | [], xs, _, j, x, hj => by simp at hj
  | a :: l, xs, h, j, x, hj => by
    rw [List.mapM_cons] at h
    obtain ⟨y, hy, h⟩ := Option.bind_eq_some_iff.1 h
    obtain ⟨ys, hys, h⟩ := Option.bind_eq_some_iff.1 h
    obtain rfl := Option.some.inj h
    cases j with
    | zero => simp at hj; subst hj; exact ⟨y, rfl, hy⟩
    | succ j => exact mapM_at hys j x (by simpa using hj)
theorem int_of_trod {H : Type} {enc : TypeId × Value → H} {P : Program} {w : World} {base : Nat} {sp : Nat → Bool} {held : Bool} {fuel : Nat} {t : TypeId} {k : IntKind} {c : Value} {y : DataW H × List MemPlace}
    (ht : P.underlying t = some (.int k)) (h : DataW.trod enc P w base sp held fuel t [c] = some y) : ∃ n, c = .int k n ∧ y = (.lit (.int k n), []) := by
  cases fuel with
  | zero => simp [DataW.trod] at h
  | succ fuel =>
    cases c <;> simp [DataW.trod, ht] at h
    rename_i k' n
    obtain ⟨⟨rfl, _⟩, rfl⟩ := h
    exact ⟨n, rfl, rfl⟩
theorem bytes_of_trod {H : Type} {enc : TypeId × Value → H} {P : Program} {w : World} {base : Nat} {sp : Nat → Bool} {held : Bool} {fuel n : Nat} {t e : TypeId} {l : List Value} {tab : List Nat} {ps : List MemPlace} (ht : P.underlying t = some (.array n e)) (he : P.underlying e = some (.int .u8)) (h1 : P.cellsOf t = n) (h2 : P.cellsOf e = 1)
    (h : DataW.trod enc P w base sp held fuel t l = some (.agg (tab.map fun k : Nat => .lit (.int .u8 (k : Int))), ps)) (j : Nat) (hj : j < n) : l[j]? = some (.int .u8 ((tab.getD j 0 : Nat) : Int)) := by
  cases fuel with
  | zero => simp [DataW.trod] at h
  | succ fuel =>
    simp only [DataW.trod, ht, h1, h2] at h
    split at h
    · rename_i hl
      obtain ⟨xs, hxs, hy⟩ := Option.map_eq_some_iff.1 h
      obtain ⟨y, hyj, hf⟩ := mapM_at hxs j j (by rw [List.getElem?_range hj])
      obtain ⟨c, hc⟩ : ∃ c, l[j]? = some c := ⟨l[j]'(by omega), List.getElem?_eq_getElem _⟩
      rw [Nat.mul_one, show (l.drop j).take 1 = [c] from by rw [List.drop_eq_getElem_cons (by omega)]; rw [List.getElem?_eq_getElem (by omega)] at hc; injection hc with hc; rw [hc]; rfl] at hf
      obtain ⟨m, rfl, rfl⟩ := int_of_trod he hf
      have h3 := (Prod.mk.inj hy).1
      injection h3 with h3
      have h4 := congrArg (fun q => q[j]?) h3
      simp only [List.getElem?_map, hyj, Option.map_some] at h4
      rw [hc, List.getD_eq_getElem?_getD]
      cases ht2 : tab[j]? with
      | none => rw [ht2] at h4; cases h4
      | some q =>
        rw [ht2] at h4
        simp at h4
        rw [h4]; rfl
    · cases h
theorem gnum : Tryd.prog.globalNamed "math/bits.deBruijn64tab" = some 0 := by kernel_rfl
theorem gtype : (Tryd.prog.globals[0]?).map (·.type) = some 172 := by kernel_rfl
theorem cellsT : Tryd.prog.cellsOf 172 = 64 := by kernel_rfl
theorem cellsE : Tryd.prog.cellsOf 5 = 1 := by kernel_rfl
theorem tabIs : (Rows.laid_math_bits_deBruijn64tab : DataW Unit) = .agg (Lib.deBruijn64tab.map fun k => .lit (.int .u8 ((k : Nat) : Int))) := by rfl
abbrev LAID : List (String × DataW Unit) := [("math/bits.deBruijn64tab", Rows.laid_math_bits_deBruijn64tab), ("unicode/utf8.acceptRanges", Rows.laid_unicode_utf8_acceptRanges), ("unicode/utf8.first", Rows.laid_unicode_utf8_first)]
theorem plain (w : World) : laidMetH Tryd.prog LAID w → laidMet Tryd.prog LAID w := fun h => h
theorem tb {W : World} (h : laidMetH Tryd.prog LAID W) (hs : W.ShapedOpen Tryd.prog) : P.TB W := by
  obtain ⟨ps, ⟨g, t, cs, fuel, p, q, hg, ht, hvar, hd, _, _⟩, _⟩ := plain W h
  obtain rfl := Option.some.inj (gnum.symm.trans hg)
  obtain rfl := Option.some.inj (gtype.symm.trans ht)
  refine ⟨fun j hj => ?_, ?_⟩
  · rw [World.var?_cell hg hvar j]
    rw [tabIs] at hd
    have := bytes_of_trod Tryd.underlying172 Tryd.underlying5 cellsT cellsE hd j hj
    rw [← Array.getElem?_toList]
    exact this
  · exact Go.Proofs.cell_of_shapedOpen_int (zero := #[.int .i64 0]) (t := 3) hs (of_decide_eq_true (by kernel_rfl)) (by kernel_rfl) rfl (by kernel_rfl) (by kernel_rfl) Tryd.underlying3
def cells64 : Array Value := (Lib.deBruijn64tab.map fun k => Value.int .u8 ((k : Nat) : Int)).toArray
def cellsA : Array Value := ([128, 191, 160, 191, 128, 159, 144, 191, 128, 143, 0, 0, 0, 0, 0, 0, 0, 0, 0, 0, 0, 0, 0, 0, 0, 0, 0, 0, 0, 0, 0, 0].map fun k : Nat => Value.int .u8 (k : Int)).toArray
def cellsF : Array Value := (Go.Pinned.utf8FirstZ.map fun k : Nat => Value.int .u8 (k : Int)).toArray
def putCells (c : Array Value) : Obj → Obj
  | .cells _ t frozen => .cells c t frozen
  | o => o
noncomputable def laidWorld (os : Os) : World :=
  { World.holding Tryd.prog os ⟨#[], #[], []⟩ with heap := (((World.holding Tryd.prog os ⟨#[], #[], []⟩).heap.modify 3 (putCells cellsA)).modify 2 (putCells cellsF)).modify 0 (putCells cells64) }
set_option maxRecDepth 100000 in
theorem laidWorld_met (os : Os) (args : Array Value) : laidMetH Tryd.prog LAID ((laidWorld os).forCall (fun _ _ => 0) ⟨#[], args, []⟩).memory :=
  laidMetH_of_parts (laidMet_of_run' 8 (by kernel_rfl) (by kernel_rfl)) (by kernel_rfl)
end Go.Proofs.YtehjfaddhmdicaaDoor.LaidP
namespace Go.Proofs.YtehjfaddhmdicaaDoor.fnExactParseFigure
open Go.ChangeMaps (open_string shut_string)
open Go.ChangeShapes Go.WideShapes Go.ChangeAt Go.RowKit Go.Proofs.YtehjfaddhmdicaaDoorW.PrintWords Go.Joins
set_option linter.unusedVariables false
theorem own : ownKnob Tryd.prog.godebug = none := Closed.own
theorem laidOut : laidOutB Tryd.prog = true := Closed.laidOut
theorem joined_mk (P : Program) (f : FuncId) (fn : Func) (s : ChangeSpec) (c : OpenClaim) (k0 : (c.wf (OpenSpec.ofChange s)) = true) (k1 : (laidOutB P) = true) (k2 : (mapsRowed P) = true) (k3 : (fn.params.all (P.readableRec ·)) = true) (k4 : (namedTie P c.named s.vars) = true) (k5 : ((c.stops == [])) = true) (k6 : ((P.stops == [])) = true) (k7 : ((c.knobs == [])) = true) (k8 : ((P.stopKnobs == [])) = true) (k9 : ((c.inPlace == P.inPlace f)) = true) (k10 : ((c.unfollowed == P.unfollowed f)) = true) (k11 : ((c.recurses == P.recurses f)) = true) (k12 : ((c.named == P.varsNamed f)) = true) (k13 : ((c.maps == (fn.params.toList ++ s.plain.varTypes P).any (P.mapsRec ·))) = true) (k14 : ((c.ifaces == (fn.params.toList ++ s.plain.varTypes P).any (P.ifacesRec ·))) = true) (k15 : ((c.mapsOut == P.mapsAmong fn.resultTypes.toList)) = true) (k16 : ((c.loops == (fn.params.toList ++ s.plain.varTypes P).any (P.loopsFrom ·))) = true) (k17 : ((c.wideKeys == (fn.params.toList ++ s.plain.varTypes P ++ fn.resultTypes.toList).any (P.wideKeysFrom ·))) = true) (k18 : (s.vars.all (P.varReadable ·)) = true) (k19 : (fn.resultTypes.all (fun t => P.readableRec t && decide (t < P.types.size))) = true) (k20 : ((c.ifacesOut == fn.resultTypes.toList.any (P.ifacesRec ·))) = true) (k21 : ((c.loopsOut == fn.resultTypes.toList.any (P.loopsFrom ·))) = true) (k22 : ((c.plainKeys == P.plainKeys)) = true) (k23 : (c.shortTexts.isNone) = true) (k24 : (P.stopsHeard) = true) (k25 : (P.mayEnter) = true) (k26 : ((c.lifted == P.liftsFinal)) = true) (k27 : ((P.make == some c.make)) = true) (hd : c.domain.isEmpty = true) (k28 : (c.kinds == []) = true) (k29 : ((c.pinned == c.pinnedBy)) = true) (k30 : ((c.veiled == (fn.params.toList ++ s.plain.varTypes P ++ fn.resultTypes.toList).any (P.veiledRec ·))) = true) (k31 : (c.veiledFits P fn.params.toList (fn.params.toList ++ s.plain.varTypes P ++ fn.resultTypes.toList)) = true) : joinedFacts P f fn s c = true := by
 unfold joinedFacts
 simp only [hd, if_true, k0, k1, k2, k3, k4, k5, k6, k7, k8, k9, k10, k11, k12, k13, k14, k15, k16, k17, k18, k19, k20, k21, k22, k23, k24, k25, k26, k27, k28, k29, k30, k31, Bool.and_self]
theorem handed_shaped {H : Type} {enc : TypeId × Value → H} {a : Assume} {C : Checked} {os : Os} {f : FuncId} {fn : Func} {s : ChangeSpec} {conds : List PathCond} {apart fresh handsOn again : Bool} {X : World → Array Value → Prop}
  (hX : ∀ (w w' : World) (args : Array Value), w.heap = w'.heap → X w args → X w' args)
  (own : ownKnob C.prog.godebug = none) (started : os.Started) (noInit : C.prog.inits.idxOf? f = none) (hfn : C.prog.funcs[f]? = some fn)
  (witness : ∃ (w : World) (tape : Tape) (i : Input), w.os = os ∧ (w.forCall tape i).Shaped C.prog ∧ i.vars = [] ∧ Input.okWide C.prog (w.forCall tape i) .any w.heap.size f i ∧
   ((s.pre enc C.prog fn conds apart (w.forCall tape i).memory i.args ∧ X (w.forCall tape i).memory i.args) ∧ sizedMet enc C.prog fn (OpenSpec.ofChange s) apart (w.forCall tape i).memory i.args) ∧ a.holds C.prog (lone (Frame.enter C.prog f i.args .normal) [] (w.forCall tape i)))
  (contract : ∀ (W : World) (base : Nat) (args : Array Value) (ds gs : List (DataW H)) (before : List MemPlace),
   (∀ (j : Nat) t v, fn.params[j]? = some t → args[j]? = some v → Value.okWide C.prog W .any base t v) →
   DataW.Whole enc C.prog fn.params.toList s.vars apart W args.toList ds gs before →
   conds.all (PathCond.test C.prog ⟨fn.params.toList, ds, s.plain.varTypes C.prog, gs⟩) = true →
   (DataW.weightsEach C.prog (fn.params.toList ++ s.plain.varTypes C.prog) (ds ++ gs)).all (· ≤ reachBytes) = true → X W args → W.ShapedOpen C.prog →
   a.holds C.prog (lone (Frame.enter C.prog f args .normal) [] W) →
   Calls C.prog f args W fun e W' => ∃ v, e = .returned v ∧ s.post enc C.prog fn apart fresh handsOn again W args v W') :
  ReturnsInHanded a C os f .any (fun w args => (s.pre enc C.prog fn conds apart w args ∧ X w args) ∧ sizedMet enc C.prog fn (OpenSpec.ofChange s) apart w args) (s.post enc C.prog fn apart fresh handsOn again) := by
 refine returnsInHanded_of_calls own started noInit witness ?_
 intro w tape i _ hsh _ hok hpre hholds
 obtain ⟨_, _, _, fn', hfn', _, _, _, _, hval⟩ := hok
 have e : fn' = fn := Option.some.inj (hfn'.symm.trans hfn)
 subst e
 obtain ⟨⟨⟨ds, gs, before, hw, hc⟩, hx⟩, hz⟩ := hpre
 have hw' := DataW.Whole.of_heap (w' := w.forCall tape i) (by rfl) hw
 refine (contract (w.forCall tape i) w.heap.size i.args ds gs before hval hw' hc (hz.weights hw) (hX _ _ _ (by rfl) hx) hsh hholds).mono fun e W' ⟨v, he, hp⟩ => ?_
 subst he
 exact ChangeSpec.post_blind hp
abbrev LAID : List (String × DataW Unit) := LaidP.LAID
set_option maxRecDepth 100000 in
theorem lifted (os : Os) (started : os.Started) (H : Type) (enc : TypeId × Value → H) :
  ReturnsInHanded {} Tryd.checked os 6 .any (fun w args => (Rows.fnExactParseFigureSpec.pre enc Tryd.prog Tryd.f6 [] false w args ∧ laidMetH Tryd.prog LAID w) ∧ sizedMet enc Tryd.prog Tryd.f6 (OpenSpec.ofChange Rows.fnExactParseFigureSpec) false w args) (Rows.fnExactParseFigureSpec.post enc Tryd.prog Tryd.f6 false true false false) := by
 refine handed_shaped (C := Tryd.checked) (X := fun w _ => laidMetH Tryd.prog LAID w) (fun _ _ _ hh h => h.of_heap hh) own started (by kernel_rfl) Tryd.func6 (ChangeSpec.witness_at (enc := enc) (C := Tryd.checked) (os := os) (X := fun w _ => laidMetH Tryd.prog LAID w) false (LaidP.laidWorld os) #[.string ByteArray.empty] 8 rfl (by kernel_rfl) (by kernel_rfl) (by kernel_rfl) (by kernel_rfl) (by kernel_rfl) (LaidP.laidWorld_met os _)) ?_
 intro W base args ds gs before hval0 hW hcnd hsz0 hL hsh _
 have hT : P.TB W := LaidP.tb hL hsh
 have hsz : (DataW.weightsEach Tryd.prog (Tryd.f6.params.toList ++ Rows.fnExactParseFigureSpec.plain.varTypes Tryd.prog) (ds ++ gs)).all (· ≤ reachBytes) = true := hsz0
 have hval : ∀ (j : Nat) t v, Tryd.f6.params[j]? = some t → args[j]? = some v → Value.okWide Tryd.prog W .any base t v := hval0
 have hW' := hW
 obtain ⟨p, q, hA0, hV, rfl, hfz, hnd⟩ := hW
 have hA : DataW.TrodAll enc Tryd.prog W 0 (fun _ => true) true Tryd.f6.params.toList args.toList ds p := hA0
 rw [Tryd.params6] at hA hval hsz
 obtain ⟨v0, vs0, d0, ds0, p0, q0, hargs, rfl, rfl, h0, r0⟩ := trodAll_cons hA
 obtain ⟨rfl, rfl, rfl⟩ := trodAll_nil r0
 obtain rfl : args = #[v0] := by cases args; simp_all
 obtain ⟨rfl, rfl⟩ := trodVars_none hV
 obtain ⟨a0, rfl, rfl, rfl, y0⟩ := open_string Tryd.underlying9 (hval 0 9 v0 rfl rfl) h0
 have w0 : a0.size ≤ 140737488351232 := by
  have z := sized_string hsz (j := 0) (t := 9) rfl rfl
  rw [Array.length_toList] at z
  exact z
 clear hA0 hval0 hsz0 hsz
 refine (P.laws_FnExactParseFigure.walk Pure.FnExactParseFigure a0 W hT w0).mono fun e W' ⟨he, bel⟩ => ?_
 subst he
 exact ⟨_, rfl, _, _, _, [], _, [], hW', trodAll_mk1 (shut_bool Tryd.underlying4 _), (trodAll_cons_mk (shut_string Tryd.underlying9 y0) trodAll_mk0), rfl, bel.frame _, fun h => by cases h⟩
theorem k0_ : (Rows.fnExactParseFigureRow.wf (OpenSpec.ofChange Rows.fnExactParseFigureSpec)) = true := by kernel_rfl
theorem k1_ : (laidOutB Tryd.prog) = true := Closed.laidOut
theorem k2_ : (mapsRowed Tryd.prog) = true := Closed.mapsRowedP
theorem k3_ : (Tryd.f6.params.all (Tryd.prog.readableRec ·)) = true := by kernel_rfl
theorem k4_ : (namedTie Tryd.prog Rows.fnExactParseFigureRow.named Rows.fnExactParseFigureSpec.vars) = true := by kernel_rfl
theorem k5_ : ((Rows.fnExactParseFigureRow.stops == [])) = true := by kernel_rfl
theorem k6_ : ((Tryd.prog.stops == [])) = true := Closed.noStops
theorem k7_ : ((Rows.fnExactParseFigureRow.knobs == [])) = true := by kernel_rfl
theorem k8_ : ((Tryd.prog.stopKnobs == [])) = true := Closed.noKnobs
theorem k9_ : ((Rows.fnExactParseFigureRow.inPlace == Tryd.prog.inPlace 6)) = true := by kernel_rfl
theorem k10_ : ((Rows.fnExactParseFigureRow.unfollowed == Tryd.prog.unfollowed 6)) = true := by kernel_rfl
theorem k11_ : ((Rows.fnExactParseFigureRow.recurses == Tryd.prog.recurses 6)) = true := by kernel_rfl
theorem k12_ : ((Rows.fnExactParseFigureRow.named == Tryd.prog.varsNamed 6)) = true := by kernel_rfl
theorem k13_ : ((Rows.fnExactParseFigureRow.maps == (Tryd.f6.params.toList ++ Rows.fnExactParseFigureSpec.plain.varTypes Tryd.prog).any (Tryd.prog.mapsRec ·))) = true := by kernel_rfl
theorem k14_ : ((Rows.fnExactParseFigureRow.ifaces == (Tryd.f6.params.toList ++ Rows.fnExactParseFigureSpec.plain.varTypes Tryd.prog).any (Tryd.prog.ifacesRec ·))) = true := by kernel_rfl
theorem k15_ : ((Rows.fnExactParseFigureRow.mapsOut == Tryd.prog.mapsAmong Tryd.f6.resultTypes.toList)) = true := by kernel_rfl
theorem k16_ : ((Rows.fnExactParseFigureRow.loops == (Tryd.f6.params.toList ++ Rows.fnExactParseFigureSpec.plain.varTypes Tryd.prog).any (Tryd.prog.loopsFrom ·))) = true := by kernel_rfl
theorem k17_ : ((Rows.fnExactParseFigureRow.wideKeys == (Tryd.f6.params.toList ++ Rows.fnExactParseFigureSpec.plain.varTypes Tryd.prog ++ Tryd.f6.resultTypes.toList).any (Tryd.prog.wideKeysFrom ·))) = true := by kernel_rfl
theorem k18_ : (Rows.fnExactParseFigureSpec.vars.all (Tryd.prog.varReadable ·)) = true := by kernel_rfl
theorem k19_ : (Tryd.f6.resultTypes.all (fun t => Tryd.prog.readableRec t && decide (t < Tryd.prog.types.size))) = true := by kernel_rfl
theorem k20_ : ((Rows.fnExactParseFigureRow.ifacesOut == Tryd.f6.resultTypes.toList.any (Tryd.prog.ifacesRec ·))) = true := by kernel_rfl
theorem k21_ : ((Rows.fnExactParseFigureRow.loopsOut == Tryd.f6.resultTypes.toList.any (Tryd.prog.loopsFrom ·))) = true := by kernel_rfl
theorem k22_ : ((Rows.fnExactParseFigureRow.plainKeys == Tryd.prog.plainKeys)) = true := by kernel_rfl
theorem k23_ : (Rows.fnExactParseFigureRow.shortTexts.isNone) = true := by kernel_rfl
theorem k24_ : (Tryd.prog.stopsHeard) = true := Closed.stopsHeard
theorem k25_ : (Tryd.prog.mayEnter) = true := Closed.mayEnter
theorem k26_ : ((Rows.fnExactParseFigureRow.lifted == Tryd.prog.liftsFinal)) = true := by rw [Closed.liftsFinal]; kernel_rfl
theorem k27_ : ((Tryd.prog.make == some Rows.fnExactParseFigureRow.make)) = true := by rw [Closed.make]; kernel_rfl
theorem k28_ : ((Rows.fnExactParseFigureRow.kinds == [])) = true := by kernel_rfl
theorem k29_ : ((Rows.fnExactParseFigureRow.pinned == Rows.fnExactParseFigureRow.pinnedBy)) = true := by kernel_rfl
theorem k30_ : ((Rows.fnExactParseFigureRow.veiled == (Tryd.f6.params.toList ++ Rows.fnExactParseFigureSpec.plain.varTypes Tryd.prog ++ Tryd.f6.resultTypes.toList).any (Tryd.prog.veiledRec ·))) = true := by kernel_rfl
theorem k31_ : (Rows.fnExactParseFigureRow.veiledFits Tryd.prog Tryd.f6.params.toList (Tryd.f6.params.toList ++ Rows.fnExactParseFigureSpec.plain.varTypes Tryd.prog ++ Tryd.f6.resultTypes.toList)) = true := by kernel_rfl
theorem k99_ : (Rows.fnExactParseFigureRow.domain.isEmpty) = true := by kernel_rfl
theorem closed : joinedFacts Tryd.prog 6 Tryd.f6 Rows.fnExactParseFigureSpec Rows.fnExactParseFigureRow = true :=
 joined_mk _ _ _ _ _ k0_ k1_ k2_ k3_ k4_ k5_ k6_ k7_ k8_ k9_ k10_ k11_ k12_ k13_ k14_ k15_ k16_ k17_ k18_ k19_ k20_ k21_ k22_ k23_ k24_ k25_ k26_ k27_ k99_ k28_ k29_ k30_ k31_
theorem over : Rows.fnExactParseFigureRow.holds Tryd.pinned (OpenSpec.ofChange Rows.fnExactParseFigureSpec) :=
 OpenClaim.holds_of_wide 6 Tryd.f6 rfl rfl rfl rfl rfl rfl rfl ⟨rfl, rfl, rfl, rfl, rfl⟩ rfl rfl rfl rfl rfl (by kernel_rfl) Tryd.func6 closed
  (of_decide_eq_true (by kernel_rfl)) (by unfold Func.isWrapper; first | (rw [if_pos (by decide +kernel)]; kernel_rfl) | (rw [if_neg (by decide +kernel)]; exact ⟨rfl, rfl⟩))
  (fun os started H enc _ => lifted os started H enc)
theorem card : Rows.FnExactParseFigureCardSaid :=
 Claim7.holds_tied_plain_at .later [] [.data, .data, .pinned] true (true, "51a81812d70b6a8fa3f4660c1a3f95587944b71932d92a023d035a6397cb1daa") false
  over (fun _ h => by cases h) (by kernel_rfl) (fun _ h => by cases h) fnExactParseFigure_row_tie rfl ⟨rfl, rfl⟩ (by kernel_rfl) rfl
  (fun f fn hf hfn => by
   obtain rfl : f = 6 := Option.some.inj ((show Tryd.prog.funcNamed "loop.example/g01233/laws.FnExactParseFigure" = some 6 by kernel_rfl).symm.trans hf) |>.symm
   obtain rfl : fn = Tryd.f6 := (Option.some.inj (Tryd.func6.symm.trans hfn)).symm
   exact ⟨by kernel_rfl, fun j t ht => by
    rw [Tryd.params6] at ht
    have h3 : t = 9 := by
     rcases j with _ | j
     ·simpa using ht.symm
     ·simp at ht
    subst h3
    exact (show Tryd.prog.wantsStandIn 9 = false by kernel_rfl)⟩)
  (by kernel_rfl)
end Go.Proofs.YtehjfaddhmdicaaDoor.fnExactParseFigure
namespace Go.Proofs.YtehjfaddhmdicaaDoor
theorem fnExactParseFigure_holds : Rows.FnExactParseFigureCardSaid := fnExactParseFigure.card
end Go.Proofs.YtehjfaddhmdicaaDoor
