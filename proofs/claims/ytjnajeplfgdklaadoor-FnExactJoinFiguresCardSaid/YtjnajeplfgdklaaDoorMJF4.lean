/- For every input the law FnExactJoinFigures answers true: the program tells what the reference tells; no condition. (part 4 of the proof; the words of the kit's print tool and the texts of this seat, merged by a program) -/
import Derived.Below
import Derived.ChangeOld
import Derived.FnData
import Derived.Handed
import Derived.JoinedOf
import Derived.LaidHandle
import Derived.LaidLaws
import Derived.Lib.SmallJoins
import Derived.OpenShut
import Derived.ProofKit
import Derived.SevenTiedAt
import Derived.SizedLaws
import Derived.Test.YtjnajeplfgdklaaDoorCards
import Derived.Test.YtjnajeplfgdklaaDoorClosed
import Derived.Test.YtjnajeplfgdklaaDoorRows
import Derived.Test.YtjnajeplfgdklaaDoorTie
import Derived.WalkKit
import Derived.Test.YtjnajeplfgdklaaDoorMJF3
namespace Go.Proofs.YtjnajeplfgdklaaDoor.P
open Go.RowKit Go.Proofs.YtjnajeplfgdklaaDoorW.PrintWords Go.Proofs.YtjnajeplfgdklaaDoorW.PrintLast Go.Proofs.YtjnajeplfgdklaaDoorW.PrintMore
attribute [local go_sem] max2_int min2_int max_two min_two max_three min_three max_four min_four   -- for this text's walks alone
set_option linter.unusedVariables false
set_option linter.unusedSimpArgs false

def spec_JoinFigures.f (k : Nat) (a0_0 : Int) (a0_1 : Int) (l0_2 : List Int) (l0_3 : List Int) (a1_0 : Int) (a1_1 : Int) (l1_2 : List Int) (l1_3 : List Int) : Option (Int × Int × List Int × List Int × Bool) := (spec_fiTwo.f k a0_0 a0_1 l0_2 l0_3 a1_0 a1_1 l1_2 l1_3).bind fun t165 => (if t165 = true then ((spec_fiMissing.f k a0_0 a0_1 l0_2 l0_3).bind fun bt166 => ((spec_fiLess.f k bt166.1 bt166.2.1 bt166.2.2.1 bt166.2.2.2 a1_0 a1_1 l1_2 l1_3).bind fun bt174 => ((spec_fiMissing.f k bt174.1 bt174.2.1 bt174.2.2.1 bt174.2.2.2).bind fun bt182 => (some (bt182.1, bt182.2.1, bt182.2.2.1, bt182.2.2.2, true))))) else (some (0, 0, ([] : List Int), ([] : List Int), false)))
theorem spec_JoinFigures.mono : ∀ a0 a1 a2 a3 a4 a5 a6 a7 k, LeO (spec_JoinFigures.f k a0 a1 a2 a3 a4 a5 a6 a7) (spec_JoinFigures.f (k + 1) a0 a1 a2 a3 a4 a5 a6 a7) := by
 intro a0 a1 a2 a3 a4 a5 a6 a7 k
 unfold spec_JoinFigures.f
 repeat' first
   | (with_reducible exact spec_fiLess.mono _ _ _ _ _ _ _ _ _)
   | (with_reducible exact spec_fiMissing.mono _ _ _ _ _)
   | (with_reducible exact spec_fiTwo.mono _ _ _ _ _ _ _ _ _)
   | (with_reducible exact LeO.refl _)
   | (with_reducible exact LeO.none _)
   | (with_reducible refine LeO.ite ?_ ?_)
   | (with_reducible refine LeO.bind ?_ (fun _ => ?_))
   | exact spec_fiLess.mono _ _ _ _ _ _ _ _ _
   | exact spec_fiMissing.mono _ _ _ _ _
   | exact spec_fiTwo.mono _ _ _ _ _ _ _ _ _
   | exact LeO.none _
   | refine LeO.ite ?_ ?_
   | refine LeO.bind ?_ (fun _ => ?_)
set_option maxHeartbeats 8000000 in
set_option maxRecDepth 100000 in
theorem spec_JoinFigures.calls (k : Nat) (a0_0 : Int) (a0_1 : Int) (A0_2 : Option Addr) (c0_2 : Nat) (l0_2 : List Int) (A0_3 : Option Addr) (c0_3 : Nat) (l0_3 : List Int) (a1_0 : Int) (a1_1 : Int) (A1_2 : Option Addr) (c1_2 : Nat) (l1_2 : List Int) (A1_3 : Option Addr) (c1_3 : Nat) (l1_3 : List Int) (r1 : Int) (r2 : Int) (r3 : List Int) (r4 : List Int) (r5 : Bool) (w : World) (hr0_2 : Kd.C (Kd.int .i64) w A0_2 l0_2.length l0_2) (hc0_2 : l0_2.length ≤ c0_2) (hr0_3 : Kd.C (Kd.int .i64) w A0_3 l0_3.length l0_3) (hc0_3 : l0_3.length ≤ c0_3) (hr1_2 : Kd.C (Kd.int .i64) w A1_2 l1_2.length l1_2) (hc1_2 : l1_2.length ≤ c1_2) (hr1_3 : Kd.C (Kd.int .i64) w A1_3 l1_3.length l1_3) (hc1_3 : l1_3.length ≤ c1_3) (h : spec_JoinFigures.f k a0_0 a0_1 l0_2 l0_3 a1_0 a1_1 l1_2 l1_3 = some (r1, r2, r3, r4, r5)) :
  Calls Tryd.prog 11 #[.agg #[.int .i64 a0_0, .int .i64 a0_1, .slice A0_2 l0_2.length c0_2, .slice A0_3 l0_3.length c0_3], .agg #[.int .i64 a1_0, .int .i64 a1_1, .slice A1_2 l1_2.length c1_2, .slice A1_3 l1_3.length c1_3]] w fun e w' => ∃ v2_ v3_ : Value, e = .returned (.tuple #[.agg #[.int .i64 r1, .int .i64 r2, v2_, v3_], .bool r5]) ∧ Kd.R (Kd.int .i64) 3 w' w.heap.size (fun k_ => some k_ ≠ (v3_ : Value).ownBlock) v2_ r3 ∧ Kd.R (Kd.int .i64) 3 w' w.heap.size (fun k_ => some k_ ≠ (v2_ : Value).ownBlock) v3_ r4 ∧ Below w.heap.size w w' := by
 have hu26 := Tryd.underlying26
 have HR0_2 := Aside0.mk hr0_2
 have HC0_2 := Aside0.mk hc0_2
 clear hr0_2 hc0_2
 have HR0_3 := Aside0.mk hr0_3
 have HC0_3 := Aside0.mk hc0_3
 clear hr0_3 hc0_3
 have HR1_2 := Aside0.mk hr1_2
 have HC1_2 := Aside0.mk hc1_2
 clear hr1_2 hc1_2
 have HR1_3 := Aside0.mk hr1_3
 have HC1_3 := Aside0.mk hc1_3
 clear hr1_3 hc1_3
 have HB := Aside0.mk (Below.refl w.heap.size w)
 have H : ((spec_fiTwo.f k a0_0 a0_1 l0_2 l0_3 a1_0 a1_1 l1_2 l1_3).bind fun t165 => (if t165 = true then ((spec_fiMissing.f k a0_0 a0_1 l0_2 l0_3).bind fun bt166 => ((spec_fiLess.f k bt166.1 bt166.2.1 bt166.2.2.1 bt166.2.2.2 a1_0 a1_1 l1_2 l1_3).bind fun bt174 => ((spec_fiMissing.f k bt174.1 bt174.2.1 bt174.2.2.1 bt174.2.2.2).bind fun bt182 => (some (bt182.1, bt182.2.1, bt182.2.2.1, bt182.2.2.2, true))))) else (some (0, 0, ([] : List Int), ([] : List Int), false)))) = some (r1, r2, r3, r4, r5) := h
 clear h
 replace H := Option.bind_eq_some_iff.mp H
 obtain ⟨t165, A30, H⟩ := H
 replace H : (if t165 = true then ((spec_fiMissing.f k a0_0 a0_1 l0_2 l0_3).bind fun bt166 => ((spec_fiLess.f k bt166.1 bt166.2.1 bt166.2.2.1 bt166.2.2.2 a1_0 a1_1 l1_2 l1_3).bind fun bt174 => ((spec_fiMissing.f k bt174.1 bt174.2.1 bt174.2.2.1 bt174.2.2.2).bind fun bt182 => (some (bt182.1, bt182.2.1, bt182.2.2.1, bt182.2.2.2, true))))) else (some (0, 0, ([] : List Int), ([] : List Int), false))) = some (r1, r2, r3, r4, r5) := H
 have A3 := Aside0.mk A30
 clear A30
 by_cases c4 : t165 = true
 ·subst c4
  have H1 : ((spec_fiMissing.f k a0_0 a0_1 l0_2 l0_3).bind fun bt166 => ((spec_fiLess.f k bt166.1 bt166.2.1 bt166.2.2.1 bt166.2.2.2 a1_0 a1_1 l1_2 l1_3).bind fun bt174 => ((spec_fiMissing.f k bt174.1 bt174.2.1 bt174.2.2.1 bt174.2.2.2).bind fun bt182 => (some (bt182.1, bt182.2.1, bt182.2.2.1, bt182.2.2.2, true))))) = some (r1, r2, r3, r4, r5) := by rw [if_pos rfl] at H; exact H
  clear H
  have H := H1
  clear H1
  replace H := Option.bind_eq_some_iff.mp H
  obtain ⟨⟨t166, t167, t168, t171⟩, A50, H⟩ := H
  replace H : ((spec_fiLess.f k t166 t167 t168 t171 a1_0 a1_1 l1_2 l1_3).bind fun bt174 => ((spec_fiMissing.f k bt174.1 bt174.2.1 bt174.2.2.1 bt174.2.2.2).bind fun bt182 => (some (bt182.1, bt182.2.1, bt182.2.2.1, bt182.2.2.2, true)))) = some (r1, r2, r3, r4, r5) := H
  have A5 := Aside0.mk A50
  clear A50
  replace H := Option.bind_eq_some_iff.mp H
  obtain ⟨⟨t174, t175, t176, t179⟩, A60, H⟩ := H
  replace H : ((spec_fiMissing.f k t174 t175 t176 t179).bind fun bt182 => (some (bt182.1, bt182.2.1, bt182.2.2.1, bt182.2.2.2, true))) = some (r1, r2, r3, r4, r5) := H
  have A6 := Aside0.mk A60
  clear A60
  replace H := Option.bind_eq_some_iff.mp H
  obtain ⟨⟨t182, t183, t184, t187⟩, A70, H⟩ := H
  replace H : (some (t182, t183, t184, t187, true)) = some (r1, r2, r3, r4, r5) := H
  have A7 := Aside0.mk A70
  clear A70
  simp only [Option.some.injEq, Prod.mk.injEq] at H
  obtain ⟨rfl, rfl, rfl, rfl, rfl⟩ := H
  go_enter Tryd.func11, Tryd.ntmps11
  try go_wp2_with (first | ((with_reducible refine gate_dst (N := 2) rfl ?_); refine boxE_ (N := 2) (cs := #[.int .i64 a0_0, .int .i64 a0_1, .slice A0_2 l0_2.length c0_2, .slice A0_3 l0_3.length c0_3]) (t := 26) ?_; intro gb162 hg w8 hbox hb; have n0_ := Aside0.mk (below_step (bl0_ HB.out) hb); have n1_ := Aside0.mk (hbox); have n2_ := Aside0.mk ((bs0_ hg HB.out : w.heap.size ≤ gb162)); have n3_ := Aside0.mk ((bs0_ hg HB.out : w.heap.size ≤ gb162)); clear HB; have HB := n0_; have BK162 := n1_; have GW162 := n2_; have GE162 := n3_; clear n0_ n1_ n2_ n3_; clear hb hbox hg) | ((with_reducible refine gate_dst (N := 3) rfl ?_); refine boxE_ (N := 3) (cs := #[.int .i64 a1_0, .int .i64 a1_1, .slice A1_2 l1_2.length c1_2, .slice A1_3 l1_3.length c1_3]) (t := 26) ?_; intro gb163 hg w9 hbox hb; have n0_ := Aside0.mk (bb_ BK162.out hb); have n1_ := Aside0.mk (below_step (bl1_ HB.out GE162.out) hb); have n2_ := Aside0.mk (hbox); have n3_ := Aside0.mk ((bs1_ hg HB.out GE162.out : w.heap.size ≤ gb163)); have n4_ := Aside0.mk ((bs1_ hg HB.out GE162.out : w.heap.size ≤ gb163)); have n5_ := Aside0.mk ((nl_ hg BK162.out : gb162 ≠ gb163)); have n6_ := Aside0.mk ((ng_ hg BK162.out : gb163 ≠ gb162)); clear BK162; clear HB; have BK162 := n0_; have HB := n1_; have BK163 := n2_; have GW163 := n3_; have GE163 := n4_; have NB162_163 := n5_; have NB163_162 := n6_; clear n0_ n1_ n2_ n3_ n4_ n5_ n6_; clear hb hbox hg) | ((with_reducible refine gate_dst (N := 4) rfl ?_); refine boxE_ (N := 4) (cs := #[.int .i64 0, .int .i64 0, .slice none 0 0, .slice none 0 0]) (t := 26) ?_; intro gb164 hg w10 hbox hb; have n0_ := Aside0.mk (bb_ BK162.out hb); have n1_ := Aside0.mk (bb_ BK163.out hb); have n2_ := Aside0.mk (below_step (bl2_ HB.out GE162.out GE163.out) hb); have n3_ := Aside0.mk (hbox); have n4_ := Aside0.mk ((bs2_ hg HB.out GE162.out GE163.out : w.heap.size ≤ gb164)); have n5_ := Aside0.mk ((bs2_ hg HB.out GE162.out GE163.out : w.heap.size ≤ gb164)); have n6_ := Aside0.mk ((nl_ hg BK162.out : gb162 ≠ gb164)); have n7_ := Aside0.mk ((ng_ hg BK162.out : gb164 ≠ gb162)); have n8_ := Aside0.mk ((nl_ hg BK163.out : gb163 ≠ gb164)); have n9_ := Aside0.mk ((ng_ hg BK163.out : gb164 ≠ gb163)); clear BK162; clear BK163; clear HB; have BK162 := n0_; have BK163 := n1_; have HB := n2_; have BK164 := n3_; have GW164 := n4_; have GE164 := n5_; have NB162_164 := n6_; have NB164_162 := n7_; have NB163_164 := n8_; have NB164_163 := n9_; clear n0_ n1_ n2_ n3_ n4_ n5_ n6_ n7_ n8_ n9_; clear hb hbox hg; have hnb11 := NB162_163.out; have hnc11 := NB163_162.out; have hnb12 := NB162_164.out; have hnc12 := NB164_162.out; have hcz13_0 : w10.cell? ⟨gb162, 0, none⟩ = some (.int .i64 a0_0) := (blk_cell BK162.out 0).trans rfl; have hcz13_1 : w10.cell? ⟨gb162, 1, none⟩ = some (.int .i64 a0_1) := (blk_cell BK162.out 1).trans rfl; have hcz13_2 : w10.cell? ⟨gb162, 2, none⟩ = some (.slice A0_2 l0_2.length c0_2) := (blk_cell BK162.out 2).trans rfl; have hcz13_3 : w10.cell? ⟨gb162, 3, none⟩ = some (.slice A0_3 l0_3.length c0_3) := (blk_cell BK162.out 3).trans rfl; have hfz13_0 := blk_frozen BK162.out 0; have hfz13_1 := blk_frozen BK162.out 1; have hfz13_2 := blk_frozen BK162.out 2; have hfz13_3 := blk_frozen BK162.out 3; have hnb14 := NB163_164.out; have hnc14 := NB164_163.out; have hcz15_0 : w10.cell? ⟨gb163, 0, none⟩ = some (.int .i64 a1_0) := (blk_cell BK163.out 0).trans rfl; have hcz15_1 : w10.cell? ⟨gb163, 1, none⟩ = some (.int .i64 a1_1) := (blk_cell BK163.out 1).trans rfl; have hcz15_2 : w10.cell? ⟨gb163, 2, none⟩ = some (.slice A1_2 l1_2.length c1_2) := (blk_cell BK163.out 2).trans rfl; have hcz15_3 : w10.cell? ⟨gb163, 3, none⟩ = some (.slice A1_3 l1_3.length c1_3) := (blk_cell BK163.out 3).trans rfl; have hfz15_0 := blk_frozen BK163.out 0; have hfz15_1 := blk_frozen BK163.out 1; have hfz15_2 := blk_frozen BK163.out 2; have hfz15_3 := blk_frozen BK163.out 3) | ((with_reducible refine gate_callee (f := 34) rfl ?_); refine goesL_ (some 8) rfl rfl Tryd.func34 (by kernel_rfl) rfl #[.agg #[.int .i64 a0_0, .int .i64 a0_1, .slice A0_2 l0_2.length c0_2, .slice A0_3 l0_3.length c0_3], .agg #[.int .i64 a1_0, .int .i64 a1_1, .slice A1_2 l1_2.length c1_2, .slice A1_3 l1_3.length c1_3]] rfl ob_ ?_; (with_reducible refine (spec_fiTwo.calls k a0_0 a0_1 _ _ l0_2 _ _ l0_3 a1_0 a1_1 _ _ l1_2 _ _ l1_3 true _ ?side1 ?side2 ?side3 ?side4 ?side5 ?side6 ?side7 ?side8 A3.out).mono ?_); (case side1 => exact kc_ (Kd.C_below HR0_2.out HB.out)); (case side2 => exact HC0_2.out); (case side3 => exact kc_ (Kd.C_below HR0_3.out HB.out)); (case side4 => exact HC0_3.out); (case side5 => exact kc_ (Kd.C_below HR1_2.out HB.out)); (case side6 => exact HC1_2.out); (case side7 => exact kc_ (Kd.C_below HR1_3.out HB.out)); (case side8 => exact HC1_3.out); rintro e w16 ⟨rfl, hb⟩; refine ⟨_, rfl, ?_⟩; have n0_ := Aside0.mk (bb_ BK162.out hb); have n1_ := Aside0.mk (bb_ BK163.out hb); have n2_ := Aside0.mk (bb_ BK164.out hb); have n3_ := Aside0.mk (below_step (bl3_ HB.out GE162.out GE163.out GE164.out) hb); clear BK162; clear BK163; clear BK164; clear HB; have BK162 := n0_; have BK163 := n1_; have BK164 := n2_; have HB := n3_; clear n0_ n1_ n2_ n3_; (try clear hb); (try clear hb2); (try clear hk); (try clear hi)))
  have n0_ := Aside0.mk (blk_drew BK162.out)
  have n1_ := Aside0.mk (blk_drew BK163.out)
  have n2_ := Aside0.mk (blk_drew BK164.out)
  have n3_ := Aside0.mk (below_drew1 HB.out)
  clear BK162
  clear BK163
  clear BK164
  clear HB
  have BK162 := n0_
  have BK163 := n1_
  have BK164 := n2_
  have HB := n3_
  clear n0_ n1_ n2_ n3_
  refine start_ (n := 7) (S := fun w' => w'.cell? ⟨gb162, 0, none⟩ = some (.int .i64 a0_0) ∧ w'.cell? ⟨gb162, 1, none⟩ = some (.int .i64 a0_1) ∧ w'.cell? ⟨gb162, 2, none⟩ = some (.slice A0_2 l0_2.length c0_2) ∧ w'.cell? ⟨gb162, 3, none⟩ = some (.slice A0_3 l0_3.length c0_3) ∧ w'.cell? ⟨gb163, 0, none⟩ = some (.int .i64 a1_0) ∧ w'.cell? ⟨gb163, 1, none⟩ = some (.int .i64 a1_1) ∧ w'.cell? ⟨gb163, 2, none⟩ = some (.slice A1_2 l1_2.length c1_2) ∧ w'.cell? ⟨gb163, 3, none⟩ = some (.slice A1_3 l1_3.length c1_3)) (ds := []) #[false, false, false, false, false, false, false] (by kernel_rfl) rfl rfl ⟨(blk_cell BK162.out 0).trans rfl, (blk_cell BK162.out 1).trans rfl, (blk_cell BK162.out 2).trans rfl, (blk_cell BK162.out 3).trans rfl, (blk_cell BK163.out 0).trans rfl, (blk_cell BK163.out 1).trans rfl, (blk_cell BK163.out 2).trans rfl, (blk_cell BK163.out 3).trans rfl⟩ (fun hHeld => ?_)
  generalize w16.drew = w17 at BK162 BK163 BK164 HB hHeld ⊢
  refine take_ (i := 0) (N := some 11) (v := ?_) (a' := ?_) #[true, false, false, false, false, false, false] rfl rfl (by kernel_rfl) (fun _ _ _ h => h) (Or.inl ⟨by rfl, ?_⟩) hHeld ?_ ?_
  rotate_left
  ·rintro w' ⟨s0, s1, s2, s3, s4, s5, s6, s7⟩
   go_simp
   with_reducible rfl
  rotate_left
  ·simp only [Act.put, List.setIfInBounds_toArray, List.set_cons_zero, List.set_cons_succ, i64_w, i32_w]
   rfl
  refine take_ (i := 2) (N := some 13) (v := ?_) (a' := ?_) #[true, false, true, false, false, false, false] rfl rfl (by kernel_rfl) (fun _ _ _ h => h) (Or.inl ⟨by rfl, ?_⟩) hHeld ?_ ?_
  rotate_left
  ·rintro w' ⟨s0, s1, s2, s3, s4, s5, s6, s7⟩
   go_simp
   with_reducible rfl
  rotate_left
  ·simp only [Act.put, List.setIfInBounds_toArray, List.set_cons_zero, List.set_cons_succ, i64_w, i32_w]
   rfl
  refine one_ (i := 1) (N := some 12) #[true, true, true, false, false, false, false] rfl rfl (by kernel_rfl) (by decide) (fun K hK => ?_)
  refine goes_ Tryd.func35 (by kernel_rfl) rfl #[.agg #[.int .i64 a0_0, .int .i64 a0_1, .slice A0_2 l0_2.length c0_2, .slice A0_3 l0_3.length c0_3]] (by rfl) rfl rfl ob_ ?_
  with_reducible refine (spec_fiMissing.calls k a0_0 a0_1 _ _ l0_2 _ _ l0_3 t166 t167 t168 t171 _ ?side1 ?side2 ?side3 ?side4 A5.out).mono ?_
  (case side1 => exact kc_ (Kd.C_below HR0_2.out HB.out))
  (case side2 => exact HC0_2.out)
  (case side3 => exact kc_ (Kd.C_below HR0_3.out HB.out))
  (case side4 => exact HC0_3.out)
  rintro e w18 ⟨v169, v172, rfl, ho0, ho1, hb⟩
  refine ⟨_, rfl, ?_⟩
  have n0_ := Aside0.mk (Kd.R_lower ho0 (below_size (bl3_ HB.out GE162.out GE163.out GE164.out)))
  have n1_ := Aside0.mk (Kd.R_lower ho1 (below_size (bl3_ HB.out GE162.out GE163.out GE164.out)))
  have n2_ := Aside0.mk (bb_ BK162.out hb)
  have n3_ := Aside0.mk (bb_ BK163.out hb)
  have n4_ := Aside0.mk (bb_ BK164.out hb)
  have n5_ := Aside0.mk (below_step (bl3_ HB.out GE162.out GE163.out GE164.out) hb)
  clear BK162
  clear BK163
  clear BK164
  clear HB
  have HO170 := n0_
  have HO173 := n1_
  have BK162 := n2_
  have BK163 := n3_
  have BK164 := n4_
  have HB := n5_
  clear n0_ n1_ n2_ n3_ n4_ n5_
  (try clear hb)
  (try clear hb2)
  (try clear hk)
  (try clear hi)
  (try clear ho0)
  (try clear ho1)
  obtain ⟨Ao19, co19, eo19⟩ := Kd.R_slice HO170.out
  (first | subst eo19 | (injection eo19 with f1_ f2_ f3_; have f4_ := f1_.symm; have f5_ := f3_.symm; clear f1_ f2_ f3_; subst f4_; subst f5_))
  obtain ⟨Ao20, co20, eo20⟩ := Kd.R_slice HO173.out
  (first | subst eo20 | (injection eo20 with f1_ f2_ f3_; have f4_ := f1_.symm; have f5_ := f3_.symm; clear f1_ f2_ f3_; subst f4_; subst f5_))
  refine hK.out _ _ ⟨(blk_cell BK162.out 0).trans rfl, (blk_cell BK162.out 1).trans rfl, (blk_cell BK162.out 2).trans rfl, (blk_cell BK162.out 3).trans rfl, (blk_cell BK163.out 0).trans rfl, (blk_cell BK163.out 1).trans rfl, (blk_cell BK163.out 2).trans rfl, (blk_cell BK163.out 3).trans rfl⟩ (fun hHeld => ?_)
  clear hK K
  refine norm_ (a' := ?_) ?_ ?_
  rotate_left
  ·show Act.put _ (some 12) _ = _
   simp only [Act.put, List.setIfInBounds_toArray, List.set_cons_zero, List.set_cons_succ, i64_w, i32_w]
   rfl
  refine one_ (i := 3) (N := some 14) #[true, true, true, true, false, false, false] rfl rfl (by kernel_rfl) (by decide) (fun K hK => ?_)
  refine goes_ Tryd.func36 (by kernel_rfl) rfl #[.agg #[.int .i64 t166, .int .i64 t167, .slice Ao19 t168.length co19, .slice Ao20 t171.length co20], .agg #[.int .i64 a1_0, .int .i64 a1_1, .slice A1_2 l1_2.length c1_2, .slice A1_3 l1_3.length c1_3]] (by rfl) rfl rfl ob_ ?_
  with_reducible refine (spec_fiLess.calls k t166 t167 _ _ t168 _ _ t171 a1_0 a1_1 _ _ l1_2 _ _ l1_3 t174 t175 t176 t179 _ ?side1 ?side2 ?side3 ?side4 ?side5 ?side6 ?side7 ?side8 A6.out).mono ?_
  (case side1 => repeat (first | exact (Kd.R_reads' HO170.out).2.2 | (with_reducible refine Kd.C_alloc ?_ _) | (with_reducible refine Kd.C_drewN ?_ _) | (with_reducible refine Kd.C_drew ?_)))
  (case side2 => exact (Kd.R_reads' HO170.out).2.1)
  (case side3 => repeat (first | exact (Kd.R_reads' HO173.out).2.2 | (with_reducible refine Kd.C_alloc ?_ _) | (with_reducible refine Kd.C_drewN ?_ _) | (with_reducible refine Kd.C_drew ?_)))
  (case side4 => exact (Kd.R_reads' HO173.out).2.1)
  (case side5 => exact kc_ (Kd.C_below HR1_2.out HB.out))
  (case side6 => exact HC1_2.out)
  (case side7 => exact kc_ (Kd.C_below HR1_3.out HB.out))
  (case side8 => exact HC1_3.out)
  rintro e w21 ⟨v177, v180, rfl, ho0, ho1, hb⟩
  refine ⟨_, rfl, ?_⟩
  have n0_ := Aside0.mk (Kd.R_mono (Kd.R_told (Kd.R_told (Kd.R_old (kr_ HO170.out) hb) (Kd.R_base ho0)) (Kd.R_base ho1)) (fun _ h_ => h_.1))
  have n1_ := Aside0.mk (Kd.R_mono (Kd.R_told (Kd.R_told (Kd.R_old (kr_ HO173.out) hb) (Kd.R_base ho0)) (Kd.R_base ho1)) (fun _ h_ => h_.1))
  have n2_ := Aside0.mk (Kd.R_lower (Kd.R_new' (Kd.R_new' ho0 (Kd.R_lt (kr_ HO170.out))) (Kd.R_lt (kr_ HO173.out))) (below_size (bl3_ HB.out GE162.out GE163.out GE164.out)))
  have n3_ := Aside0.mk (Kd.R_lower (Kd.R_new' (Kd.R_new' ho1 (Kd.R_lt (kr_ HO170.out))) (Kd.R_lt (kr_ HO173.out))) (below_size (bl3_ HB.out GE162.out GE163.out GE164.out)))
  have n4_ := Aside0.mk (bb_ BK162.out hb)
  have n5_ := Aside0.mk (bb_ BK163.out hb)
  have n6_ := Aside0.mk (bb_ BK164.out hb)
  have n7_ := Aside0.mk (below_step (bl3_ HB.out GE162.out GE163.out GE164.out) hb)
  clear HO170
  clear HO173
  clear BK162
  clear BK163
  clear BK164
  clear HB
  have HO170 := n0_
  have HO173 := n1_
  have HO178 := n2_
  have HO181 := n3_
  have BK162 := n4_
  have BK163 := n5_
  have BK164 := n6_
  have HB := n7_
  clear n0_ n1_ n2_ n3_ n4_ n5_ n6_ n7_
  (try clear hb)
  (try clear hb2)
  (try clear hk)
  (try clear hi)
  (try clear ho0)
  (try clear ho1)
  obtain ⟨Ao22, co22, eo22⟩ := Kd.R_slice HO178.out
  (first | subst eo22 | (injection eo22 with f1_ f2_ f3_; have f4_ := f1_.symm; have f5_ := f3_.symm; clear f1_ f2_ f3_; subst f4_; subst f5_))
  obtain ⟨Ao23, co23, eo23⟩ := Kd.R_slice HO181.out
  (first | subst eo23 | (injection eo23 with f1_ f2_ f3_; have f4_ := f1_.symm; have f5_ := f3_.symm; clear f1_ f2_ f3_; subst f4_; subst f5_))
  refine hK.out _ _ ⟨(blk_cell BK162.out 0).trans rfl, (blk_cell BK162.out 1).trans rfl, (blk_cell BK162.out 2).trans rfl, (blk_cell BK162.out 3).trans rfl, (blk_cell BK163.out 0).trans rfl, (blk_cell BK163.out 1).trans rfl, (blk_cell BK163.out 2).trans rfl, (blk_cell BK163.out 3).trans rfl⟩ (fun hHeld => ?_)
  clear hK K
  refine norm_ (a' := ?_) ?_ ?_
  rotate_left
  ·show Act.put _ (some 14) _ = _
   simp only [Act.put, List.setIfInBounds_toArray, List.set_cons_zero, List.set_cons_succ, i64_w, i32_w]
   rfl
  refine one_ (i := 4) (N := some 15) #[true, true, true, true, true, false, false] rfl rfl (by kernel_rfl) (by decide) (fun K hK => ?_)
  refine goes_ Tryd.func35 (by kernel_rfl) rfl #[.agg #[.int .i64 t174, .int .i64 t175, .slice Ao22 t176.length co22, .slice Ao23 t179.length co23]] (by rfl) rfl rfl ob_ ?_
  with_reducible refine (spec_fiMissing.calls k t174 t175 _ _ t176 _ _ t179 t182 t183 t184 t187 _ ?side1 ?side2 ?side3 ?side4 A7.out).mono ?_
  (case side1 => repeat (first | exact (Kd.R_reads' HO178.out).2.2 | (with_reducible refine Kd.C_alloc ?_ _) | (with_reducible refine Kd.C_drewN ?_ _) | (with_reducible refine Kd.C_drew ?_)))
  (case side2 => exact (Kd.R_reads' HO178.out).2.1)
  (case side3 => repeat (first | exact (Kd.R_reads' HO181.out).2.2 | (with_reducible refine Kd.C_alloc ?_ _) | (with_reducible refine Kd.C_drewN ?_ _) | (with_reducible refine Kd.C_drew ?_)))
  (case side4 => exact (Kd.R_reads' HO181.out).2.1)
  rintro e w24 ⟨v185, v188, rfl, ho0, ho1, hb⟩
  refine ⟨_, rfl, ?_⟩
  have n0_ := Aside0.mk (Kd.R_mono (Kd.R_told (Kd.R_told (Kd.R_old (kr_ HO170.out) hb) (Kd.R_base ho0)) (Kd.R_base ho1)) (fun _ h_ => h_.1))
  have n1_ := Aside0.mk (Kd.R_mono (Kd.R_told (Kd.R_told (Kd.R_old (kr_ HO173.out) hb) (Kd.R_base ho0)) (Kd.R_base ho1)) (fun _ h_ => h_.1))
  have n2_ := Aside0.mk (Kd.R_mono (Kd.R_told (Kd.R_told (Kd.R_old (kr_ HO178.out) hb) (Kd.R_base ho0)) (Kd.R_base ho1)) (fun _ h_ => h_.1))
  have n3_ := Aside0.mk (Kd.R_mono (Kd.R_told (Kd.R_told (Kd.R_old (kr_ HO181.out) hb) (Kd.R_base ho0)) (Kd.R_base ho1)) (fun _ h_ => h_.1))
  have n4_ := Aside0.mk (Kd.R_lower (Kd.R_new' (Kd.R_new' (Kd.R_new' (Kd.R_new' ho0 (Kd.R_lt (kr_ HO170.out))) (Kd.R_lt (kr_ HO173.out))) (Kd.R_lt (kr_ HO178.out))) (Kd.R_lt (kr_ HO181.out))) (below_size (bl3_ HB.out GE162.out GE163.out GE164.out)))
  have n5_ := Aside0.mk (Kd.R_lower (Kd.R_new' (Kd.R_new' (Kd.R_new' (Kd.R_new' ho1 (Kd.R_lt (kr_ HO170.out))) (Kd.R_lt (kr_ HO173.out))) (Kd.R_lt (kr_ HO178.out))) (Kd.R_lt (kr_ HO181.out))) (below_size (bl3_ HB.out GE162.out GE163.out GE164.out)))
  have n6_ := Aside0.mk (bb_ BK162.out hb)
  have n7_ := Aside0.mk (bb_ BK163.out hb)
  have n8_ := Aside0.mk (bb_ BK164.out hb)
  have n9_ := Aside0.mk (below_step (bl3_ HB.out GE162.out GE163.out GE164.out) hb)
  clear HO170
  clear HO173
  clear HO178
  clear HO181
  clear BK162
  clear BK163
  clear BK164
  clear HB
  have HO170 := n0_
  have HO173 := n1_
  have HO178 := n2_
  have HO181 := n3_
  have HO186 := n4_
  have HO189 := n5_
  have BK162 := n6_
  have BK163 := n7_
  have BK164 := n8_
  have HB := n9_
  clear n0_ n1_ n2_ n3_ n4_ n5_ n6_ n7_ n8_ n9_
  (try clear hb)
  (try clear hb2)
  (try clear hk)
  (try clear hi)
  (try clear ho0)
  (try clear ho1)
  obtain ⟨Ao27, co27, eo27⟩ := Kd.R_slice HO186.out
  (first | subst eo27 | (injection eo27 with f1_ f2_ f3_; have f4_ := f1_.symm; have f5_ := f3_.symm; clear f1_ f2_ f3_; subst f4_; subst f5_))
  obtain ⟨Ao29, co29, eo29⟩ := Kd.R_slice HO189.out
  (first | subst eo29 | (injection eo29 with f1_ f2_ f3_; have f4_ := f1_.symm; have f5_ := f3_.symm; clear f1_ f2_ f3_; subst f4_; subst f5_))
  refine hK.out _ _ ⟨(blk_cell BK162.out 0).trans rfl, (blk_cell BK162.out 1).trans rfl, (blk_cell BK162.out 2).trans rfl, (blk_cell BK162.out 3).trans rfl, (blk_cell BK163.out 0).trans rfl, (blk_cell BK163.out 1).trans rfl, (blk_cell BK163.out 2).trans rfl, (blk_cell BK163.out 3).trans rfl⟩ (fun hHeld => ?_)
  clear hK K
  refine norm_ (a' := ?_) ?_ ?_
  rotate_left
  ·show Act.put _ (some 15) _ = _
   simp only [Act.put, List.setIfInBounds_toArray, List.set_cons_zero, List.set_cons_succ, i64_w, i32_w]
   rfl
  refine one_ (i := 5) (N := none) #[true, true, true, true, true, true, false] rfl rfl (by kernel_rfl) (by decide) (fun K hK => ?_)
  have hs25 : w24.cell? ⟨gb164, 0, none⟩ = some (.int .i64 0) := (blk_cell BK164.out 0).trans rfl
  have hfs25 := blk_frozen BK164.out 0
  have hns25_0 := NB162_164.out
  have hns25_1 := NB163_164.out
  have hms25_0 := NB164_162.out
  have hms25_1 := NB164_163.out
  have hs26 : w24.cell? ⟨gb164, 1, none⟩ = some (.int .i64 0) := (blk_cell BK164.out 1).trans rfl
  have hfs26 := blk_frozen BK164.out 1
  have hns26_0 := NB162_164.out
  have hns26_1 := NB163_164.out
  have hms26_0 := NB164_162.out
  have hms26_1 := NB164_163.out
  have hs28 : w24.cell? ⟨gb164, 2, none⟩ = some (.slice none 0 0) := (blk_cell BK164.out 2).trans rfl
  have hfs28 := blk_frozen BK164.out 2
  have hns28_0 := NB162_164.out
  have hns28_1 := NB163_164.out
  have hms28_0 := NB164_162.out
  have hms28_1 := NB164_163.out
  have hs30 : w24.cell? ⟨gb164, 3, none⟩ = some (.slice none 0 0) := (blk_cell BK164.out 3).trans rfl
  have hfs30 := blk_frozen BK164.out 3
  have hns30_0 := NB162_164.out
  have hns30_1 := NB163_164.out
  have hms30_0 := NB164_162.out
  have hms30_1 := NB164_163.out
  refine skip_ (w1 := ?_) (by rfl) rfl ?_ ?_
  rotate_left
  ·go_simp
   rfl
  refine hK.out _ _ ⟨((cell_far (p := ⟨gb164, _, none⟩) NB162_164.out _).trans (((cell_far (p := ⟨gb164, _, none⟩) NB162_164.out _).trans (((cell_far (p := ⟨gb164, _, none⟩) NB162_164.out _).trans (((cell_far (p := ⟨gb164, _, none⟩) NB162_164.out _).trans (hHeld.1)))))))), ((cell_far (p := ⟨gb164, _, none⟩) NB162_164.out _).trans (((cell_far (p := ⟨gb164, _, none⟩) NB162_164.out _).trans (((cell_far (p := ⟨gb164, _, none⟩) NB162_164.out _).trans (((cell_far (p := ⟨gb164, _, none⟩) NB162_164.out _).trans (hHeld.2.1)))))))), ((cell_far (p := ⟨gb164, _, none⟩) NB162_164.out _).trans (((cell_far (p := ⟨gb164, _, none⟩) NB162_164.out _).trans (((cell_far (p := ⟨gb164, _, none⟩) NB162_164.out _).trans (((cell_far (p := ⟨gb164, _, none⟩) NB162_164.out _).trans (hHeld.2.2.1)))))))), ((cell_far (p := ⟨gb164, _, none⟩) NB162_164.out _).trans (((cell_far (p := ⟨gb164, _, none⟩) NB162_164.out _).trans (((cell_far (p := ⟨gb164, _, none⟩) NB162_164.out _).trans (((cell_far (p := ⟨gb164, _, none⟩) NB162_164.out _).trans (hHeld.2.2.2.1)))))))), ((cell_far (p := ⟨gb164, _, none⟩) NB163_164.out _).trans (((cell_far (p := ⟨gb164, _, none⟩) NB163_164.out _).trans (((cell_far (p := ⟨gb164, _, none⟩) NB163_164.out _).trans (((cell_far (p := ⟨gb164, _, none⟩) NB163_164.out _).trans (hHeld.2.2.2.2.1)))))))), ((cell_far (p := ⟨gb164, _, none⟩) NB163_164.out _).trans (((cell_far (p := ⟨gb164, _, none⟩) NB163_164.out _).trans (((cell_far (p := ⟨gb164, _, none⟩) NB163_164.out _).trans (((cell_far (p := ⟨gb164, _, none⟩) NB163_164.out _).trans (hHeld.2.2.2.2.2.1)))))))), ((cell_far (p := ⟨gb164, _, none⟩) NB163_164.out _).trans (((cell_far (p := ⟨gb164, _, none⟩) NB163_164.out _).trans (((cell_far (p := ⟨gb164, _, none⟩) NB163_164.out _).trans (((cell_far (p := ⟨gb164, _, none⟩) NB163_164.out _).trans (hHeld.2.2.2.2.2.2.1)))))))), ((cell_far (p := ⟨gb164, _, none⟩) NB163_164.out _).trans (((cell_far (p := ⟨gb164, _, none⟩) NB163_164.out _).trans (((cell_far (p := ⟨gb164, _, none⟩) NB163_164.out _).trans (((cell_far (p := ⟨gb164, _, none⟩) NB163_164.out _).trans (hHeld.2.2.2.2.2.2.2))))))))⟩ (fun hHeld => ?_)
  clear hK K
  refine pure_ (i := 6) (N := some 5) (v := ?_) (a' := ?_) #[true, true, true, true, true, true, true] rfl rfl (by kernel_rfl) (fun _ _ _ h => h) (Or.inl ⟨by rfl, ?_⟩) ?_ ?_
  rotate_left
  ·intro w'
   go_simp
   with_reducible rfl
  rotate_left
  ·simp only [Act.put, List.setIfInBounds_toArray, List.set_cons_zero, List.set_cons_succ, i64_w, i32_w]
   rfl
  refine done_ (by kernel_rfl) ?_
  try go_wp2
  refine bodyPost_ret (results_ct rfl _ _ gb164 26 #[.int .i64 t182, .int .i64 t183, .slice Ao27 t184.length co27, .slice Ao29 t187.length co29] (0, 0) _ rfl (by (with_reducible repeat (first | refine blk_drewN ?_ _ | refine blk_drew ?_ | refine blk_alloc ?_ _)); refine blk_put (cs := #[.int .i64 t182, .int .i64 t183, .slice Ao27 t184.length co27, .slice none 0 0]) ?_ 3 _ rfl; (with_reducible repeat (first | refine blk_drewN ?_ _ | refine blk_drew ?_ | refine blk_alloc ?_ _)); refine blk_put (cs := #[.int .i64 t182, .int .i64 t183, .slice none 0 0, .slice none 0 0]) ?_ 2 _ rfl; (with_reducible repeat (first | refine blk_drewN ?_ _ | refine blk_drew ?_ | refine blk_alloc ?_ _)); refine blk_put (cs := #[.int .i64 t182, .int .i64 0, .slice none 0 0, .slice none 0 0]) ?_ 1 _ rfl; (with_reducible repeat (first | refine blk_drewN ?_ _ | refine blk_drew ?_ | refine blk_alloc ?_ _)); refine blk_put (cs := #[.int .i64 0, .int .i64 0, .slice none 0 0, .slice none 0 0]) ?_ 0 _ rfl; (with_reducible repeat (first | refine blk_drewN ?_ _ | refine blk_drew ?_ | refine blk_alloc ?_ _)); exact BK164.out) Tryd.underlying26 rfl (by kernel_rfl)) rfl ?_
  exact ⟨_, _, er_, by (with_reducible repeat (first | apply Kd.R_alloc | apply Kd.R_drewN | apply Kd.R_drew)); exact Kd.R_mono (Kd.R_far (p := ⟨gb164, 3, none⟩) (Kd.R_far (p := ⟨gb164, 2, none⟩) (Kd.R_far (p := ⟨gb164, 1, none⟩) (Kd.R_far (p := ⟨gb164, 0, none⟩) (Kd.R_types HO186.out BK164.out (by decide)) (fun _ hk => hk.2) (.int .i64 t182)) (fun _ hk => hk.2) (.int .i64 t183)) (fun _ hk => hk.2) (.slice Ao27 t184.length co27)) (fun _ hk => hk.2) (.slice Ao29 t187.length co29)) (fun _ hk => hk.1.1.1.1.1), by (with_reducible repeat (first | apply Kd.R_alloc | apply Kd.R_drewN | apply Kd.R_drew)); exact Kd.R_mono (Kd.R_far (p := ⟨gb164, 3, none⟩) (Kd.R_far (p := ⟨gb164, 2, none⟩) (Kd.R_far (p := ⟨gb164, 1, none⟩) (Kd.R_far (p := ⟨gb164, 0, none⟩) (Kd.R_types HO189.out BK164.out (by decide)) (fun _ hk => hk.2) (.int .i64 t182)) (fun _ hk => hk.2) (.int .i64 t183)) (fun _ hk => hk.2) (.slice Ao27 t184.length co27)) (fun _ hk => hk.2) (.slice Ao29 t187.length co29)) (fun _ hk => hk.1.1.1.1.1), bl3_ HB.out GE162.out GE163.out GE164.out⟩
 ·replace c4 := Bool.eq_false_iff.mpr c4
  subst c4
  have H1 : (some (0, 0, ([] : List Int), ([] : List Int), false)) = some (r1, r2, r3, r4, r5) := by rw [if_neg (show ¬ (false = true) by decide)] at H; exact H
  clear H
  have H := H1
  clear H1
  simp only [Option.some.injEq, Prod.mk.injEq] at H
  obtain ⟨rfl, rfl, rfl, rfl, rfl⟩ := H
  go_enter Tryd.func11, Tryd.ntmps11
  go_wp2_with (first | ((with_reducible refine gate_dst (N := 2) rfl ?_); refine boxE_ (N := 2) (cs := #[.int .i64 a0_0, .int .i64 a0_1, .slice A0_2 l0_2.length c0_2, .slice A0_3 l0_3.length c0_3]) (t := 26) ?_; intro gb162 hg w31 hbox hb; have n0_ := Aside0.mk (below_step (bl0_ HB.out) hb); have n1_ := Aside0.mk (hbox); have n2_ := Aside0.mk ((bs0_ hg HB.out : w.heap.size ≤ gb162)); have n3_ := Aside0.mk ((bs0_ hg HB.out : w.heap.size ≤ gb162)); clear HB; have HB := n0_; have BK162 := n1_; have GW162 := n2_; have GE162 := n3_; clear n0_ n1_ n2_ n3_; clear hb hbox hg) | ((with_reducible refine gate_dst (N := 3) rfl ?_); refine boxE_ (N := 3) (cs := #[.int .i64 a1_0, .int .i64 a1_1, .slice A1_2 l1_2.length c1_2, .slice A1_3 l1_3.length c1_3]) (t := 26) ?_; intro gb163 hg w32 hbox hb; have n0_ := Aside0.mk (bb_ BK162.out hb); have n1_ := Aside0.mk (below_step (bl1_ HB.out GE162.out) hb); have n2_ := Aside0.mk (hbox); have n3_ := Aside0.mk ((bs1_ hg HB.out GE162.out : w.heap.size ≤ gb163)); have n4_ := Aside0.mk ((bs1_ hg HB.out GE162.out : w.heap.size ≤ gb163)); have n5_ := Aside0.mk ((nl_ hg BK162.out : gb162 ≠ gb163)); have n6_ := Aside0.mk ((ng_ hg BK162.out : gb163 ≠ gb162)); clear BK162; clear HB; have BK162 := n0_; have HB := n1_; have BK163 := n2_; have GW163 := n3_; have GE163 := n4_; have NB162_163 := n5_; have NB163_162 := n6_; clear n0_ n1_ n2_ n3_ n4_ n5_ n6_; clear hb hbox hg) | ((with_reducible refine gate_dst (N := 4) rfl ?_); refine boxE_ (N := 4) (cs := #[.int .i64 0, .int .i64 0, .slice none 0 0, .slice none 0 0]) (t := 26) ?_; intro gb164 hg w33 hbox hb; have n0_ := Aside0.mk (bb_ BK162.out hb); have n1_ := Aside0.mk (bb_ BK163.out hb); have n2_ := Aside0.mk (below_step (bl2_ HB.out GE162.out GE163.out) hb); have n3_ := Aside0.mk (hbox); have n4_ := Aside0.mk ((bs2_ hg HB.out GE162.out GE163.out : w.heap.size ≤ gb164)); have n5_ := Aside0.mk ((bs2_ hg HB.out GE162.out GE163.out : w.heap.size ≤ gb164)); have n6_ := Aside0.mk ((nl_ hg BK162.out : gb162 ≠ gb164)); have n7_ := Aside0.mk ((ng_ hg BK162.out : gb164 ≠ gb162)); have n8_ := Aside0.mk ((nl_ hg BK163.out : gb163 ≠ gb164)); have n9_ := Aside0.mk ((ng_ hg BK163.out : gb164 ≠ gb163)); clear BK162; clear BK163; clear HB; have BK162 := n0_; have BK163 := n1_; have HB := n2_; have BK164 := n3_; have GW164 := n4_; have GE164 := n5_; have NB162_164 := n6_; have NB164_162 := n7_; have NB163_164 := n8_; have NB164_163 := n9_; clear n0_ n1_ n2_ n3_ n4_ n5_ n6_ n7_ n8_ n9_; clear hb hbox hg; have hnb34 := NB162_163.out; have hnc34 := NB163_162.out; have hnb35 := NB162_164.out; have hnc35 := NB164_162.out; have hcz36_0 : w33.cell? ⟨gb162, 0, none⟩ = some (.int .i64 a0_0) := (blk_cell BK162.out 0).trans rfl; have hcz36_1 : w33.cell? ⟨gb162, 1, none⟩ = some (.int .i64 a0_1) := (blk_cell BK162.out 1).trans rfl; have hcz36_2 : w33.cell? ⟨gb162, 2, none⟩ = some (.slice A0_2 l0_2.length c0_2) := (blk_cell BK162.out 2).trans rfl; have hcz36_3 : w33.cell? ⟨gb162, 3, none⟩ = some (.slice A0_3 l0_3.length c0_3) := (blk_cell BK162.out 3).trans rfl; have hfz36_0 := blk_frozen BK162.out 0; have hfz36_1 := blk_frozen BK162.out 1; have hfz36_2 := blk_frozen BK162.out 2; have hfz36_3 := blk_frozen BK162.out 3; have hnb37 := NB163_164.out; have hnc37 := NB164_163.out; have hcz38_0 : w33.cell? ⟨gb163, 0, none⟩ = some (.int .i64 a1_0) := (blk_cell BK163.out 0).trans rfl; have hcz38_1 : w33.cell? ⟨gb163, 1, none⟩ = some (.int .i64 a1_1) := (blk_cell BK163.out 1).trans rfl; have hcz38_2 : w33.cell? ⟨gb163, 2, none⟩ = some (.slice A1_2 l1_2.length c1_2) := (blk_cell BK163.out 2).trans rfl; have hcz38_3 : w33.cell? ⟨gb163, 3, none⟩ = some (.slice A1_3 l1_3.length c1_3) := (blk_cell BK163.out 3).trans rfl; have hfz38_0 := blk_frozen BK163.out 0; have hfz38_1 := blk_frozen BK163.out 1; have hfz38_2 := blk_frozen BK163.out 2; have hfz38_3 := blk_frozen BK163.out 3) | ((with_reducible refine gate_callee (f := 34) rfl ?_); refine goesL_ (some 8) rfl rfl Tryd.func34 (by kernel_rfl) rfl #[.agg #[.int .i64 a0_0, .int .i64 a0_1, .slice A0_2 l0_2.length c0_2, .slice A0_3 l0_3.length c0_3], .agg #[.int .i64 a1_0, .int .i64 a1_1, .slice A1_2 l1_2.length c1_2, .slice A1_3 l1_3.length c1_3]] rfl ob_ ?_; (with_reducible refine (spec_fiTwo.calls k a0_0 a0_1 _ _ l0_2 _ _ l0_3 a1_0 a1_1 _ _ l1_2 _ _ l1_3 false _ ?side1 ?side2 ?side3 ?side4 ?side5 ?side6 ?side7 ?side8 A3.out).mono ?_); (case side1 => exact kc_ (Kd.C_below HR0_2.out HB.out)); (case side2 => exact HC0_2.out); (case side3 => exact kc_ (Kd.C_below HR0_3.out HB.out)); (case side4 => exact HC0_3.out); (case side5 => exact kc_ (Kd.C_below HR1_2.out HB.out)); (case side6 => exact HC1_2.out); (case side7 => exact kc_ (Kd.C_below HR1_3.out HB.out)); (case side8 => exact HC1_3.out); rintro e w39 ⟨rfl, hb⟩; refine ⟨_, rfl, ?_⟩; have n0_ := Aside0.mk (bb_ BK162.out hb); have n1_ := Aside0.mk (bb_ BK163.out hb); have n2_ := Aside0.mk (bb_ BK164.out hb); have n3_ := Aside0.mk (below_step (bl3_ HB.out GE162.out GE163.out GE164.out) hb); clear BK162; clear BK163; clear BK164; clear HB; have BK162 := n0_; have BK163 := n1_; have BK164 := n2_; have HB := n3_; clear n0_ n1_ n2_ n3_; (try clear hb); (try clear hb2); (try clear hk); (try clear hi); have hcz40_0 : w39.cell? ⟨gb164, 0, none⟩ = some (.int .i64 0) := (blk_cell BK164.out 0).trans rfl; have hcz40_1 : w39.cell? ⟨gb164, 1, none⟩ = some (.int .i64 0) := (blk_cell BK164.out 1).trans rfl; have hcz40_2 : w39.cell? ⟨gb164, 2, none⟩ = some (.slice none 0 0) := (blk_cell BK164.out 2).trans rfl; have hcz40_3 : w39.cell? ⟨gb164, 3, none⟩ = some (.slice none 0 0) := (blk_cell BK164.out 3).trans rfl; have hfz40_0 := blk_frozen BK164.out 0; have hfz40_1 := blk_frozen BK164.out 1; have hfz40_2 := blk_frozen BK164.out 2; have hfz40_3 := blk_frozen BK164.out 3))
  refine bodyPost_ret (results_ct rfl _ _ gb164 26 #[.int .i64 0, .int .i64 0, .slice none 0 0, .slice none 0 0] (0, 0) _ rfl (by (with_reducible repeat (first | refine blk_drewN ?_ _ | refine blk_drew ?_ | refine blk_alloc ?_ _)); refine blk_put (cs := #[.int .i64 0, .int .i64 0, .slice none 0 0, .slice none 0 0]) ?_ 3 _ rfl; (with_reducible repeat (first | refine blk_drewN ?_ _ | refine blk_drew ?_ | refine blk_alloc ?_ _)); refine blk_put (cs := #[.int .i64 0, .int .i64 0, .slice none 0 0, .slice none 0 0]) ?_ 2 _ rfl; (with_reducible repeat (first | refine blk_drewN ?_ _ | refine blk_drew ?_ | refine blk_alloc ?_ _)); refine blk_put (cs := #[.int .i64 0, .int .i64 0, .slice none 0 0, .slice none 0 0]) ?_ 1 _ rfl; (with_reducible repeat (first | refine blk_drewN ?_ _ | refine blk_drew ?_ | refine blk_alloc ?_ _)); refine blk_put (cs := #[.int .i64 0, .int .i64 0, .slice none 0 0, .slice none 0 0]) ?_ 0 _ rfl; (with_reducible repeat (first | refine blk_drewN ?_ _ | refine blk_drew ?_ | refine blk_alloc ?_ _)); exact BK164.out) Tryd.underlying26 rfl (by kernel_rfl)) rfl ?_
  exact ⟨_, _, er_, by first | exact Kd.R_nil _ _ _ _ _ | exact Kd.N_nil _ _ _ _ _ | exact Kd.V_nil _ _ _ _ _ | exact Kd.Q_nil _ _ _ _ _ | exact Kd.S_nil _ _ _ _ _, by first | exact Kd.R_nil _ _ _ _ _ | exact Kd.N_nil _ _ _ _ _ | exact Kd.V_nil _ _ _ _ _ | exact Kd.Q_nil _ _ _ _ _ | exact Kd.S_nil _ _ _ _ _, bl3_ HB.out GE162.out GE163.out GE164.out⟩


def risingB : List Int → Bool
 | a :: b :: t => decide (a < b) && risingB (b :: t)
 | _ => true
def inB (lo hi : Int) (l : List Int) : Bool := l.all fun x => decide (lo ≤ x) && decide (x ≤ hi)
theorem isRising_l0 (l : List Int) (hL : l.length ≤ 4000000) : ∀ (d k i : Nat), l.length - i = d → 1 ≤ i → i ≤ l.length → d < k → impl_isRising.l0 k l (i : Int) = some (risingB (l.drop (i - 1))) := by
 intro d
 induction d with
 | zero =>
  intro k i h1 h2 h3 h4
  obtain ⟨k, rfl⟩ : ∃ m, k = m + 1 := ⟨k - 1, by omega⟩
  simp only [impl_isRising.l0]
  rw [if_neg (by omega), List.drop_eq_getElem_cons (by omega), List.drop_of_length_le (by omega)]
  rfl
 | succ d ih =>
  intro k i h1 h2 h3 h4
  obtain ⟨k, rfl⟩ : ∃ m, k = m + 1 := ⟨k - 1, by omega⟩
  have e1 : wrap64 ((i : Int) - 1) = ((i - 1 : Nat) : Int) := by unfold wrap64; omega
  have e2 : wrap64 ((i : Int) + 1) = ((i + 1 : Nat) : Int) := by unfold wrap64; omega
  simp only [impl_isRising.l0]
  rw [if_pos (by omega), if_pos (by omega), e1, if_pos (by omega), if_pos (by omega), rd_nat l i (by omega), rd_nat l (i - 1) (by omega), e2, ih k (i + 1) (by omega) (by omega) (by omega) (by omega),
   List.drop_eq_getElem_cons (show i - 1 < l.length by omega), show i - 1 + 1 = i by omega, show i + 1 - 1 = i by omega, List.drop_eq_getElem_cons (show i < l.length by omega)]
  by_cases hlt : l[i] ≤ l[i - 1]
  ·rw [if_pos hlt]
   simp only [risingB]
   rw [decide_eq_false (by omega)]
   rfl
  ·rw [if_neg hlt]
   simp only [risingB]
   rw [decide_eq_true (by omega)]
   rfl
theorem isRising_f (l : List Int) (hL : l.length ≤ 4000000) (k : Nat) (hk : l.length + 1 < k) : impl_isRising.f k l = some (risingB l) := by
 unfold impl_isRising.f
 by_cases h0 : l.length = 0
 ·have : l = [] := List.length_eq_zero_iff.1 h0
  subst this
  obtain ⟨k, rfl⟩ : ∃ m, k = m + 1 := ⟨k - 1, by omega⟩
  simp only [impl_isRising.l0]
  rw [if_neg (by simp)]
  rfl
 ·exact isRising_l0 l hL (l.length - 1) k 1 rfl (by omega) (by omega) (by omega)
theorem fiRises_l0 (l : List Int) (hL : l.length ≤ 4000000) : ∀ (d k i : Nat), l.length - i = d → 1 ≤ i → i ≤ l.length → d < k → spec_fiRises.l0 k l (i : Int) = some (risingB (l.drop (i - 1))) := by
 intro d
 induction d with
 | zero =>
  intro k i h1 h2 h3 h4
  obtain ⟨k, rfl⟩ : ∃ m, k = m + 1 := ⟨k - 1, by omega⟩
  simp only [spec_fiRises.l0]
  rw [if_neg (by omega), List.drop_eq_getElem_cons (by omega), List.drop_of_length_le (by omega)]
  rfl
 | succ d ih =>
  intro k i h1 h2 h3 h4
  obtain ⟨k, rfl⟩ : ∃ m, k = m + 1 := ⟨k - 1, by omega⟩
  have e1 : wrap64 ((i : Int) - 1) = ((i - 1 : Nat) : Int) := by unfold wrap64; omega
  have e2 : wrap64 ((i : Int) + 1) = ((i + 1 : Nat) : Int) := by unfold wrap64; omega
  simp only [spec_fiRises.l0]
  rw [if_pos (by omega), e1, if_pos (by omega), if_pos (by omega), if_pos (by omega), rd_nat l i (by omega), rd_nat l (i - 1) (by omega), e2, ih k (i + 1) (by omega) (by omega) (by omega) (by omega),
   List.drop_eq_getElem_cons (show i - 1 < l.length by omega), show i - 1 + 1 = i by omega, show i + 1 - 1 = i by omega, List.drop_eq_getElem_cons (show i < l.length by omega)]
  by_cases hlt : l[i - 1] ≥ l[i]
  ·rw [if_pos hlt]
   simp only [risingB]
   rw [decide_eq_false (by omega)]
   rfl
  ·rw [if_neg hlt]
   simp only [risingB]
   rw [decide_eq_true (by omega)]
   rfl
theorem l1All_l0 (l : List Int) (lo hi : Int) (hL : l.length ≤ 4000000) : ∀ (d k i : Nat), l.length - i = d → i ≤ l.length → d < k → spec_l1All.l0 k lo hi l (l.length : Int) (i : Int) = some (inB lo hi (l.drop i)) := by
 intro d
 induction d with
 | zero =>
  intro k i h1 h3 h4
  obtain ⟨k, rfl⟩ : ∃ m, k = m + 1 := ⟨k - 1, by omega⟩
  simp only [spec_l1All.l0]
  rw [if_neg (by omega), List.drop_of_length_le (by omega)]
  rfl
 | succ d ih =>
  intro k i h1 h3 h4
  obtain ⟨k, rfl⟩ : ∃ m, k = m + 1 := ⟨k - 1, by omega⟩
  have e2 : wrap64 ((i : Int) + 1) = ((i + 1 : Nat) : Int) := by unfold wrap64; omega
  have e3 : ∀ x : Int, spec_l1In.f x lo hi = some (decide (lo ≤ x) && decide (x ≤ hi)) := fun x => by
   unfold spec_l1In.f
   by_cases h : lo ≤ x
   ·rw [if_pos h, decide_eq_true h]; rfl
   ·rw [if_neg (show ¬ x ≥ lo from h), decide_eq_false h]; rfl
  simp only [spec_l1All.l0]
  rw [if_pos (by omega), if_pos (by omega), if_pos (by omega), rd_nat l i (by omega), e3, Option.bind_some, e2, ih k (i + 1) (by omega) (by omega) (by omega), List.drop_eq_getElem_cons (show i < l.length by omega)]
  unfold inB
  rw [List.all_cons]
  cases (decide (lo ≤ l[i]) && decide (l[i] ≤ hi)) <;> rfl
theorem l1All_f (l : List Int) (lo hi : Int) (hL : l.length ≤ 4000000) (k : Nat) (hk : l.length < k) : spec_l1All.f k l lo hi = some (inB lo hi l) := by
 unfold spec_l1All.f
 exact l1All_l0 l lo hi hL l.length k 0 (by omega) (by omega) hk
theorem rising_len (l : List Int) : ∀ (lo hi : Int), risingB l = true → inB lo hi l = true → (l.length : Int) ≤ hi - lo + 1 ∨ l = [] := by
 induction l with
 | nil => intro lo hi _ _; exact .inr rfl
 | cons a t ih =>
  intro lo hi h1 h2
  unfold inB at h2
  rw [List.all_cons, Bool.and_eq_true, Bool.and_eq_true, decide_eq_true_iff, decide_eq_true_iff] at h2
  obtain ⟨⟨h3, h4⟩, h5⟩ := h2
  left
  cases t with
  | nil => simp; omega
  | cons b t =>
   simp only [risingB, Bool.and_eq_true, decide_eq_true_iff] at h1
   have h6 : inB (a + 1) hi (b :: t) = true := by
    have hr : ∀ (t : List Int) (a b : Int), a < b → risingB (b :: t) = true → ∀ x ∈ b :: t, a < x := by
     intro t
     induction t with
     | nil => intro a b hab _ x hx; simp at hx; omega
     | cons c t ih2 =>
      intro a b hab hr x hx
      simp only [risingB, Bool.and_eq_true, decide_eq_true_iff] at hr
      rcases List.mem_cons.1 hx with rfl | hx
      ·exact hab
      ·have := ih2 b c hr.1 hr.2 x hx; omega
    unfold inB
    rw [List.all_eq_true] at h5 ⊢
    intro x hx
    have h7 := h5 x hx
    have h8 := hr t a b h1.1 h1.2 x hx
    simp only [Bool.and_eq_true, decide_eq_true_iff] at h7 ⊢
    omega
   rcases ih (a + 1) hi h1.2 h6 with h | h
   ·simp at h ⊢; omega
   ·cases h
def figB (w h : Int) (a u : List Int) : Bool :=
 (decide (1 ≤ w) && decide (w ≤ 4) && decide (1 ≤ h) && decide (h ≤ 4)) && (risingB a && (risingB u && (inB 0 (w * (h + 1) - 1) a && inB 0 (h * (w + 1) - 1) u)))
theorem within_f (n lo hi : Int) : impl_within.f n lo hi = some (decide (lo ≤ n) && decide (n ≤ hi)) := by
 unfold impl_within.f
 by_cases h : lo ≤ n
 ·rw [if_pos h, decide_eq_true h]; rfl
 ·rw [if_neg h, decide_eq_false h]; rfl
theorem l1In_f (n lo hi : Int) : spec_l1In.f n lo hi = some (decide (lo ≤ n) && decide (n ≤ hi)) := by
 unfold spec_l1In.f
 by_cases h : lo ≤ n
 ·rw [if_pos h, decide_eq_true h]; rfl
 ·rw [if_neg (show ¬ n ≥ lo from h), decide_eq_false h]; rfl
theorem isGrid_f (w h : Int) : impl_isGrid.f w h = some (decide (1 ≤ w) && decide (w ≤ 4) && decide (1 ≤ h) && decide (h ≤ 4)) := by
 unfold impl_isGrid.f
 rw [within_f, within_f, Option.bind_some, Option.bind_some]
 cases (decide (1 ≤ w) && decide (w ≤ 4)) <;> simp
theorem fiGrid_f (w h : Int) : spec_fiGrid.f w h = some (decide (1 ≤ w) && decide (w ≤ 4) && decide (1 ≤ h) && decide (h ≤ 4)) := by
 unfold spec_fiGrid.f
 rw [l1In_f, l1In_f, Option.bind_some, Option.bind_some]
 cases (decide (1 ≤ w) && decide (w ≤ 4)) <;> simp
theorem grid_bounds {w h : Int} (hg : (decide (1 ≤ w) && decide (w ≤ 4) && decide (1 ≤ h) && decide (h ≤ 4)) = true) : 1 ≤ w ∧ w ≤ 4 ∧ 1 ≤ h ∧ h ≤ 4 := by
 simp only [Bool.and_eq_true, decide_eq_true_iff] at hg; omega
theorem area_bounds {w h : Int} (h1 : 1 ≤ w) (h2 : w ≤ 4) (h3 : 1 ≤ h) (h4 : h ≤ 4) : 2 ≤ w * (h + 1) ∧ w * (h + 1) ≤ 20 ∧ 2 ≤ h * (w + 1) ∧ h * (w + 1) ≤ 20 := by
 have : w = 1 ∨ w = 2 ∨ w = 3 ∨ w = 4 := by omega
 rcases this with rfl | rfl | rfl | rfl <;> omega
theorem IsFigure_f (w h : Int) (a u : List Int) (ha : a.length ≤ 1000000) (hu : u.length ≤ 1000000) (k : Nat) (hk : 1000010 < k) : impl_IsFigure.f k w h a u = some (figB w h a u) := by
 unfold impl_IsFigure.f figB
 rw [isGrid_f, Option.bind_some]
 by_cases hg : (decide (1 ≤ w) && decide (w ≤ 4) && decide (1 ≤ h) && decide (h ≤ 4)) = true
 ·rw [if_pos hg, hg, isRising_f a (by omega) k (by omega), isRising_f u (by omega) k (by omega), Option.bind_some]
  obtain ⟨b1, b2, b3, b4⟩ := grid_bounds hg
  obtain ⟨c1, c2, c3, c4⟩ := area_bounds b1 b2 b3 b4
  have e1 : wrap64 (h + 1) = h + 1 := by unfold wrap64; omega
  have e2 : wrap64 (w + 1) = w + 1 := by unfold wrap64; omega
  have e3 : wrap64 (w * (h + 1)) = w * (h + 1) := by unfold wrap64; omega
  have e4 : wrap64 (h * (w + 1)) = h * (w + 1) := by unfold wrap64; omega
  have e5 : wrap64 (w * (h + 1) - 1) = w * (h + 1) - 1 := by unfold wrap64; omega
  have e6 : wrap64 (h * (w + 1) - 1) = h * (w + 1) - 1 := by unfold wrap64; omega
  unfold impl_Figure_grid.f impl_grid_levels.f impl_grid_uprights.f impl_areWithin.f
  simp only [Option.bind_some, e1, e2, e3, e4, e5, e6]
  have key : ∀ A B C D : Bool, (if A = true then (if B = true then (if C = true then some D else some false) else some false) else some false) = some (true && (A && (B && (C && D)))) := by decide
  exact key _ _ _ _
 ·rw [if_neg hg, Bool.eq_false_iff.mpr hg]
  rfl
theorem fiRises_f (l : List Int) (m : Int) (hm0 : 0 ≤ m) (hm : m ≤ 100) (hl : l.length ≤ 1000000) (k : Nat) (hk : 1000010 < k) : spec_fiRises.f k l m = some (risingB l && inB 0 m l) := by
 unfold spec_fiRises.f
 have e : wrap64 (m + 1) = m + 1 := by unfold wrap64; omega
 have hj : ∀ b : Bool, spec_fiRises.j0 k l b = some (!b && risingB l) := fun b => by
  obtain ⟨k, rfl⟩ : ∃ q, k = q + 1 := ⟨k - 1, by omega⟩
  simp only [spec_fiRises.j0]
  cases b with
  | true => rfl
  | false =>
   rw [if_neg (by simp)]
   by_cases h0 : l.length = 0
   ·have : l = [] := List.length_eq_zero_iff.1 h0
    subst this
    obtain ⟨k, rfl⟩ : ∃ q, k = q + 1 := ⟨k - 1, by omega⟩
    simp only [spec_fiRises.l0]
    rw [if_neg (by simp)]
    rfl
   ·rw [show (1 : Int) = ((1 : Nat) : Int) from rfl, fiRises_l0 l (by omega) (l.length - 1) k 1 rfl (by omega) (by omega) (by omega)]
    rfl
 rw [e, hj, l1All_f l 0 m (by omega) k (by omega), Option.bind_some, hj]
 by_cases hgt : (l.length : Int) > m + 1
 ·rw [if_pos hgt]
  cases h1 : risingB l with
  | false => rfl
  | true =>
   cases h2 : inB 0 m l with
   | false => rfl
   | true =>
    rcases rising_len l 0 m h1 h2 with h | h
    ·omega
    ·subst h; simp at hgt; omega
 ·rw [if_neg hgt, Bool.not_not, Bool.and_comm]
theorem fiGood_f (w h : Int) (a u : List Int) (ha : a.length ≤ 1000000) (hu : u.length ≤ 1000000) (k : Nat) (hk : 1000010 < k) : spec_fiGood.f k w h a u = some (figB w h a u) := by
 unfold spec_fiGood.f figB
 rw [fiGrid_f, Option.bind_some]
 by_cases hg : (decide (1 ≤ w) && decide (w ≤ 4) && decide (1 ≤ h) && decide (h ≤ 4)) = true
 ·rw [if_pos hg, hg]
  obtain ⟨b1, b2, b3, b4⟩ := grid_bounds hg
  obtain ⟨c1, c2, c3, c4⟩ := area_bounds b1 b2 b3 b4
  have e1 : wrap64 (h + 1) = h + 1 := by unfold wrap64; omega
  have e2 : wrap64 (w + 1) = w + 1 := by unfold wrap64; omega
  have e3 : wrap64 (w * (h + 1)) = w * (h + 1) := by unfold wrap64; omega
  have e4 : wrap64 ((w + 1) * h) = h * (w + 1) := by rw [Int.mul_comm]; unfold wrap64; omega
  have e5 : wrap64 (w * (h + 1) - 1) = w * (h + 1) - 1 := by unfold wrap64; omega
  have e6 : wrap64 (h * (w + 1) - 1) = h * (w + 1) - 1 := by unfold wrap64; omega
  rw [e1, e2, e3, e4, e5, e6, fiRises_f a _ (by omega) (by omega) ha k hk, fiRises_f u _ (by omega) (by omega) hu k hk, Option.bind_some, Option.bind_some]
  cases risingB a <;> cases risingB u <;> simp
  cases inB 0 (w * (h + 1) - 1) a <;> simp
 ·rw [if_neg hg, Bool.eq_false_iff.mpr hg]
  rfl


theorem u64_small (n : Int) (h0 : 0 ≤ n) (h1 : n < 2 ^ 60) : IntKind.u64.wrap n = n := by
 have : IntKind.u64.wrap n = n % 18446744073709551616 := by simp [IntKind.wrap, IntKind.bits, IntKind.signed]
 rw [this]; omega
theorem or_u64 (a b : Nat) (ha : a < 2 ^ 60) (hb : b < 2 ^ 60) : Go.bits .or .u64 (a : Int) (b : Int) = ((a ||| b : Nat) : Int) := (bits_nat .u64 60 (by decide) u64_small a b ha hb).2
theorem and_u64 (a b : Nat) (ha : a < 2 ^ 60) (hb : b < 2 ^ 60) : Go.bits .and .u64 (a : Int) (b : Int) = ((a &&& b : Nat) : Int) := (bits_nat .u64 60 (by decide) u64_small a b ha hb).1
theorem pow_lt60 {n : Nat} (h : n < 60) : 2 ^ n < 2 ^ 60 := Nat.pow_lt_pow_right (by decide) h
theorem shl_u64 (n : Nat) (h : n < 60) : shl .u64 1 (n : Int) = ((2 ^ n : Nat) : Int) := by
 unfold shl
 rw [Int.toNat_natCast, show min n IntKind.u64.bits = n from Nat.min_eq_left (by show n ≤ 64; omega), Int.one_mul]
 have h2 := pow_lt60 h
 rw [u64_small _ (by exact_mod_cast Nat.zero_le _) (by exact_mod_cast h2)]
 norm_cast
def bitsFrom (s : Nat) (l : List Int) (m : Nat) : Nat := l.foldl (fun m k => m ||| 2 ^ (s + k.toNat)) m
theorem bitsFrom_lt (s : Nat) (l : List Int) : ∀ m, m < 2 ^ 60 → (∀ k ∈ l, s + k.toNat < 60) → bitsFrom s l m < 2 ^ 60 := by
 induction l with
 | nil => intro m hm _; exact hm
 | cons a t ih =>
  intro m hm h
  exact ih _ (Nat.or_lt_two_pow hm (pow_lt60 (h a (by simp)))) (fun k hk => h k (by simp [hk]))
theorem bitsFrom_test (s : Nat) (l : List Int) (i : Nat) : ∀ m, (bitsFrom s l m).testBit i = (m.testBit i || l.any fun k => decide (s + k.toNat = i)) := by
 induction l with
 | nil => intro m; simp [bitsFrom]
 | cons a t ih =>
  intro m
  have := ih (m ||| 2 ^ (s + a.toNat))
  unfold bitsFrom at this ⊢
  rw [List.foldl_cons, this, Nat.testBit_or, Nat.testBit_two_pow, List.any_cons, Bool.or_assoc]
theorem inB_mem {lo hi : Int} {l : List Int} (h : inB lo hi l = true) (x : Int) (hx : x ∈ l) : lo ≤ x ∧ x ≤ hi := by
 unfold inB at h
 rw [List.all_eq_true] at h
 have := h x hx
 simpa using this
def figMask (w h : Int) (a u : List Int) : Nat := bitsFrom (w * (h + 1)).toNat u (bitsFrom 0 a 0)
theorem figMask_lt {w h : Int} {a u : List Int} (hf : figB w h a u = true) : figMask w h a u < 2 ^ 60 := by
 unfold figB at hf
 simp only [Bool.and_eq_true] at hf
 obtain ⟨hg, -, -, hi1, hi2⟩ := hf
 obtain ⟨b1, b2, b3, b4⟩ := grid_bounds (by simp only [Bool.and_eq_true]; exact hg)
 obtain ⟨c1, c2, c3, c4⟩ := area_bounds b1 b2 b3 b4
 refine bitsFrom_lt _ _ _ (bitsFrom_lt _ _ _ (by decide) (fun k hk => ?_)) (fun k hk => ?_)
 ·have := inB_mem hi1 k hk; omega
 ·have := inB_mem hi2 k hk; omega
theorem figMask_level {w h : Int} {a u : List Int} (hf : figB w h a u = true) (e : Nat) (he : (e : Int) < w * (h + 1)) : (figMask w h a u).testBit e = decide ((e : Int) ∈ a) := by
 unfold figB at hf
 simp only [Bool.and_eq_true] at hf
 obtain ⟨hg, -, -, hi1, hi2⟩ := hf
 unfold figMask
 rw [bitsFrom_test, bitsFrom_test, Nat.zero_testBit, Bool.false_or]
 rw [show (u.any fun k => decide ((w * (h + 1)).toNat + k.toNat = e)) = false from by
  rw [List.any_eq_false]; intro k hk; have := inB_mem hi2 k hk; simp; omega]
 rw [Bool.or_false, Bool.eq_iff_iff, List.any_eq_true, decide_eq_true_iff]
 constructor
 ·rintro ⟨k, hk, hke⟩
  have := inB_mem hi1 k hk
  simp at hke
  rw [show (e : Int) = k by omega]
  exact hk
 ·intro hm
  exact ⟨_, hm, by simp⟩
theorem figMask_upright {w h : Int} {a u : List Int} (hf : figB w h a u = true) (e : Nat) : (figMask w h a u).testBit ((w * (h + 1)).toNat + e) = decide ((e : Int) ∈ u) := by
 unfold figB at hf
 simp only [Bool.and_eq_true] at hf
 obtain ⟨hg, -, -, hi1, hi2⟩ := hf
 obtain ⟨b1, b2, b3, b4⟩ := grid_bounds (by simp only [Bool.and_eq_true]; exact hg)
 obtain ⟨c1, c2, c3, c4⟩ := area_bounds b1 b2 b3 b4
 unfold figMask
 rw [bitsFrom_test, bitsFrom_test, Nat.zero_testBit, Bool.false_or]
 rw [show (a.any fun k => decide (0 + k.toNat = (w * (h + 1)).toNat + e)) = false from by
  rw [List.any_eq_false]; intro k hk; have := inB_mem hi1 k hk; simp; omega]
 rw [Bool.false_or, Bool.eq_iff_iff, List.any_eq_true, decide_eq_true_iff]
 constructor
 ·rintro ⟨k, hk, hke⟩
  have := inB_mem hi2 k hk
  simp at hke
  rw [show (e : Int) = k by omega]
  exact hk
 ·intro hm
  exact ⟨_, hm, by simp⟩
theorem set_l1 (w h : Int) (a u : List Int) (hL : u.length ≤ 4000000) (hw : wrap64 (w * wrap64 (h + 1)) = w * (h + 1)) (h0 : 0 ≤ w * (h + 1)) (h1 : w * (h + 1) ≤ 20) (hu : ∀ k ∈ u, 0 ≤ k ∧ k ≤ 20) : ∀ (d k i : Nat) (m : Nat), u.length - i = d → i ≤ u.length → d < k → m < 2 ^ 60 →
  impl_Figure_set.l1 k (m : Int) u (u.length : Int) (i : Int) w h a u = some ((bitsFrom (w * (h + 1)).toNat (u.drop i) m : Nat) : Int) := by
 intro d
 induction d with
 | zero =>
  intro k i m h2 h3 h4 h5
  obtain ⟨k, rfl⟩ : ∃ q, k = q + 1 := ⟨k - 1, by omega⟩
  simp only [impl_Figure_set.l1]
  rw [if_neg (by omega), List.drop_of_length_le (by omega)]
  rfl
 | succ d ih =>
  intro k i m h2 h3 h4 h5
  obtain ⟨k, rfl⟩ : ∃ q, k = q + 1 := ⟨k - 1, by omega⟩
  have hi : i < u.length := by omega
  have hk := hu u[i] (List.getElem_mem hi)
  have e2 : wrap64 ((i : Int) + 1) = ((i + 1 : Nat) : Int) := by unfold wrap64; omega
  have e3 : wrap64 (w * (h + 1) + u[i]) = (((w * (h + 1)).toNat + u[i].toNat : Nat) : Int) := by unfold wrap64; omega
  have hlt : (w * (h + 1)).toNat + u[i].toNat < 60 := by omega
  simp only [impl_Figure_set.l1]
  unfold impl_Figure_grid.f impl_grid_levels.f
  rw [if_pos (by omega), if_pos (by omega), if_pos (by omega), rd_nat u i hi, Option.bind_some, Option.bind_some, hw, e3, if_pos (by omega), shl_u64 _ hlt, or_u64 _ _ h5 (pow_lt60 hlt), e2,
   ih k (i + 1) _ (by omega) (by omega) (by omega) (Nat.or_lt_two_pow h5 (pow_lt60 hlt)), List.drop_eq_getElem_cons hi]
  rfl
theorem set_l0 (w h : Int) (a u : List Int) (hL : a.length ≤ 4000000) (hLu : u.length ≤ 4000000) (hw : wrap64 (w * wrap64 (h + 1)) = w * (h + 1)) (h0 : 0 ≤ w * (h + 1)) (h1 : w * (h + 1) ≤ 20) (ha : ∀ k ∈ a, 0 ≤ k ∧ k ≤ 20) (hu : ∀ k ∈ u, 0 ≤ k ∧ k ≤ 20) : ∀ (d k i : Nat) (m : Nat), a.length - i = d → i ≤ a.length → d + u.length + 2 < k → m < 2 ^ 60 →
  impl_Figure_set.l0 k (m : Int) a (a.length : Int) (i : Int) w h a u = some ((bitsFrom (w * (h + 1)).toNat u (bitsFrom 0 (a.drop i) m) : Nat) : Int) := by
 intro d
 induction d with
 | zero =>
  intro k i m h2 h3 h4 h5
  obtain ⟨k, rfl⟩ : ∃ q, k = q + 1 := ⟨k - 1, by omega⟩
  simp only [impl_Figure_set.l0]
  rw [if_neg (by omega), List.drop_of_length_le (by omega)]
  exact set_l1 w h a u hLu hw h0 h1 hu u.length k 0 m (by omega) (by omega) (by omega) h5
 | succ d ih =>
  intro k i m h2 h3 h4 h5
  obtain ⟨k, rfl⟩ : ∃ q, k = q + 1 := ⟨k - 1, by omega⟩
  have hi : i < a.length := by omega
  have hk := ha a[i] (List.getElem_mem hi)
  have e2 : wrap64 ((i : Int) + 1) = ((i + 1 : Nat) : Int) := by unfold wrap64; omega
  have c1 : (i : Int) < (a.length : Int) := Int.ofNat_lt.2 hi
  have c2 : (0 : Int) ≤ (i : Int) := Int.natCast_nonneg _
  have hr := rd_nat a i hi
  have hd := List.drop_eq_getElem_cons hi
  have n1 : a.length - (i + 1) = d := by clear hk hr hd c1 c2 ih h5 hw h0 h1 hu ha; omega
  have n2 : i + 1 ≤ a.length := hi
  have n3 : d + u.length + 2 < k := by clear hk hr hd c1 c2 ih h5 hw h0 h1 hu ha; omega
  have hih := fun m hm => ih k (i + 1) m n1 n2 n3 hm
  generalize a[i] = x at hk hr hd
  obtain ⟨hk1, hk2⟩ := hk
  obtain ⟨y, rfl⟩ : ∃ y : Nat, x = (y : Int) := ⟨x.toNat, (Int.toNat_of_nonneg hk1).symm⟩
  have hlt : y < 60 := by clear hr hd c1 c2 ih h5 hw h0 h1 hu ha hih; omega
  simp only [impl_Figure_set.l0]
  rw [if_pos c1, if_pos c2, if_pos c1, hr, if_pos hk1, shl_u64 _ hlt, or_u64 _ _ h5 (pow_lt60 hlt), e2, hih _ (Nat.or_lt_two_pow h5 (pow_lt60 hlt)), hd]
  unfold bitsFrom
  rw [List.foldl_cons, Nat.zero_add, Int.toNat_natCast]
theorem set_f {w h : Int} {a u : List Int} (hf : figB w h a u = true) (ha : a.length ≤ 1000000) (hu : u.length ≤ 1000000) (k : Nat) (hk : 2000010 < k) : impl_Figure_set.f k w h a u = some ((figMask w h a u : Nat) : Int) := by
 unfold figB at hf
 simp only [Bool.and_eq_true] at hf
 obtain ⟨hg, -, -, hi1, hi2⟩ := hf
 obtain ⟨b1, b2, b3, b4⟩ := grid_bounds (by simp only [Bool.and_eq_true]; exact hg)
 obtain ⟨c1, c2, c3, c4⟩ := area_bounds b1 b2 b3 b4
 have e1 : wrap64 (h + 1) = h + 1 := by unfold wrap64; omega
 have e3 : wrap64 (w * (h + 1)) = w * (h + 1) := by unfold wrap64; omega
 unfold impl_Figure_set.f figMask
 have q := set_l0 w h a u (by omega) (by omega) (by rw [e1, e3]) (by omega) (by omega) (fun k hk => by have := inB_mem hi1 k hk; omega) (fun k hk => by have := inB_mem hi2 k hk; omega) a.length k 0 0 (by omega) (by omega) (by clear hi1 hi2; omega) (by decide)
 rw [List.drop_zero] at q
 exact q


def diffN (s g : Nat) : Nat := s ^^^ (s &&& g)
theorem diffN_test (s g i : Nat) : (diffN s g).testBit i = (s.testBit i && !g.testBit i) := by
  unfold diffN; rw [Nat.testBit_xor, Nat.testBit_and]; cases s.testBit i <;> cases g.testBit i <;> rfl

def spec_fiEdge.f (a0_0 : Int) (a0_1 : Int) (l0_2 : List Int) (l0_3 : List Int) (a1 : Bool) (a2 : Int) (a3 : Int) : Option (Int × Bool) := if a1 = true then ((spec_l1In.f a2 0 a0_0).bind fun t298 => (if t298 = true then ((spec_l1In.f a3 0 (wrap64 (a0_1 - 1))).bind fun t299 => (some (wrap64 ((wrap64 (a3 * (wrap64 (a0_0 + 1)))) + a2), t299))) else (some (wrap64 ((wrap64 (a3 * (wrap64 (a0_0 + 1)))) + a2), false)))) else ((spec_l1In.f a2 0 (wrap64 (a0_0 - 1))).bind fun t300 => (if t300 = true then ((spec_l1In.f a3 0 a0_1).bind fun t301 => (some (wrap64 ((wrap64 (a3 * a0_0)) + a2), t301))) else (some (wrap64 ((wrap64 (a3 * a0_0)) + a2), false))))

def spec_fiHas.f (k : Nat) (a0_0 : Int) (a0_1 : Int) (l0_2 : List Int) (l0_3 : List Int) (a1 : Bool) (a2 : Int) (a3 : Int) : Option (Bool) := (spec_fiEdge.f a0_0 a0_1 l0_2 l0_3 a1 a2 a3).bind fun bt303 => (if a1 = true then ((spec_l1Has.f k l0_3 bt303.1).bind fun t305 => (some t305)) else ((spec_l1Has.f k l0_2 bt303.1).bind fun t306 => (some t306)))
theorem spec_fiHas.mono : ∀ a0 a1 a2 a3 a4 a5 a6 k, LeO (spec_fiHas.f k a0 a1 a2 a3 a4 a5 a6) (spec_fiHas.f (k + 1) a0 a1 a2 a3 a4 a5 a6) := by
  intro a0 a1 a2 a3 a4 a5 a6 k
  unfold spec_fiHas.f
  repeat' first
      | (with_reducible exact spec_l1Has.mono _ _ _)
      | (with_reducible exact LeO.refl _)
      | (with_reducible exact LeO.none _)
      | (with_reducible refine LeO.ite ?_ ?_)
      | (with_reducible refine LeO.bind ?_ (fun _ => ?_))
      | exact spec_l1Has.mono _ _ _
      | exact LeO.none _
      | refine LeO.ite ?_ ?_
      | refine LeO.bind ?_ (fun _ => ?_)

def impl_grid_level.f (a0_0 : Int) (a0_1 : Int) (a1 : Int) (a2 : Int) : Option (Int) := if 0 ≤ (wrap64 ((wrap64 (a2 * a0_0)) + a1)) then (some (shl .u64 1 (wrap64 ((wrap64 (a2 * a0_0)) + a1)))) else (none)

def impl_grid_upright.f (a0_0 : Int) (a0_1 : Int) (a1 : Int) (a2 : Int) : Option (Int) := (impl_grid_levels.f a0_0 a0_1).bind fun t424 => (if 0 ≤ (wrap64 ((wrap64 (t424 + (wrap64 (a2 * (wrap64 (a0_0 + 1)))))) + a1)) then (some (shl .u64 1 (wrap64 ((wrap64 (t424 + (wrap64 (a2 * (wrap64 (a0_0 + 1)))))) + a1)))) else (none))
def impl_grid_upright.T1 : Bool × List (List Nat × List Nat) := (true, [([], []), ([0], [0]), ([], []), ([], []), ([3], [3]), ([4], [4]), ([2, 5], [2, 5]), ([1, 6], [1, 6]), ([], []), ([7, 8], [7, 8]), ([9], [9]), ([10, 1, 0, 1, 2, 3, 4, 5, 6, 7, 8, 9, 10], [10])])
def impl_grid_upright.B1 : List Nat := [0, 1, 0, 0, 8, 24, 60, 127, 0, 511, 1023, 2047]
theorem impl_grid_upright.tab1 : rtab .any (opsOf Tryd.f81 1) = impl_grid_upright.T1 := by kernel_rfl
theorem impl_grid_upright.bits1 : waitsOk impl_grid_upright.T1.2 impl_grid_upright.B1 = true := by kernel_rfl

structure GridOK (w h : Int) : Prop where
  w1 : 1 ≤ w
  w4 : w ≤ 4
  h1 : 1 ≤ h
  h4 : h ≤ 4
theorem gridOK_of {w h : Int} {a u : List Int} (hf : figB w h a u = true) : GridOK w h := by
  unfold figB at hf
  simp only [Bool.and_eq_true] at hf
  obtain ⟨b1, b2, b3, b4⟩ := grid_bounds (by simp only [Bool.and_eq_true]; exact hf.1)
  exact ⟨b1, b2, b3, b4⟩
theorem l1Has_l0 (l : List Int) (n : Int) (hL : l.length ≤ 4000000) : ∀ (d k i : Nat), l.length - i = d → i ≤ l.length → d < k → spec_l1Has.l0 k n l (l.length : Int) (i : Int) = some (decide (n ∈ l.drop i)) := by
  intro d
  induction d with
  | zero =>
    intro k i h1 h3 h4
    obtain ⟨k, rfl⟩ : ∃ m, k = m + 1 := ⟨k - 1, by omega⟩
    simp only [spec_l1Has.l0]
    rw [if_neg (by omega), List.drop_of_length_le (by omega)]
    rfl
  | succ d ih =>
    intro k i h1 h3 h4
    obtain ⟨k, rfl⟩ : ∃ m, k = m + 1 := ⟨k - 1, by omega⟩
    have e2 : wrap64 ((i : Int) + 1) = ((i + 1 : Nat) : Int) := by unfold wrap64; omega
    simp only [spec_l1Has.l0]
    rw [if_pos (by omega), if_pos (by omega), if_pos (by omega), rd_nat l i (by omega), e2, ih k (i + 1) (by omega) (by omega) (by omega), List.drop_eq_getElem_cons (show i < l.length by omega)]
    by_cases hn : l[i] = n
    · rw [if_pos hn, decide_eq_true (show n ∈ l[i] :: l.drop (i + 1) by rw [hn]; exact List.mem_cons_self)]
    · rw [if_neg hn]
      congr 1
      rw [decide_eq_decide, List.mem_cons]
      constructor
      · exact Or.inr
      · rintro (h | h)
        · exact absurd h.symm hn
        · exact h
theorem l1Has_f (l : List Int) (n : Int) (hL : l.length ≤ 4000000) (k : Nat) (hk : l.length < k) : spec_l1Has.f k l n = some (decide (n ∈ l)) := by
  unfold spec_l1Has.f
  exact l1Has_l0 l n hL l.length k 0 (by omega) (by omega) hk

theorem rising_ext : ∀ {l m : List Int}, l.Pairwise (· < ·) → m.Pairwise (· < ·) → (∀ x, x ∈ l ↔ x ∈ m) → l = m
  | [], [], _, _, _ => rfl
  | [], b :: m, _, _, h => by have := (h b).2 List.mem_cons_self; cases this
  | a :: l, [], _, _, h => by have := (h a).1 List.mem_cons_self; cases this
  | a :: l, b :: m, h1, h2, h => by
    rw [List.pairwise_cons] at h1 h2
    have e : a = b := by
      rcases List.mem_cons.1 ((h a).1 List.mem_cons_self) with e | e
      · exact e
      · rcases List.mem_cons.1 ((h b).2 List.mem_cons_self) with e2 | e2
        · exact e2.symm
        · have := h2.1 a e; have := h1.1 b e2; omega
    subst e
    rw [rising_ext h1.2 h2.2 (fun x => ?_)]
    constructor
    · intro hx
      rcases List.mem_cons.1 ((h x).1 (List.mem_cons_of_mem _ hx)) with e | e
      · have := h1.1 x hx; omega
      · exact e
    · intro hx
      rcases List.mem_cons.1 ((h x).2 (List.mem_cons_of_mem _ hx)) with e | e
      · have := h2.1 x hx; omega
      · exact e
theorem rising_pw : ∀ {l : List Int}, risingB l = true → l.Pairwise (· < ·)
  | [], _ => List.Pairwise.nil
  | [a], _ => by simp
  | a :: b :: t, h => by
    simp only [risingB, Bool.and_eq_true, decide_eq_true_iff] at h
    have ih := rising_pw h.2
    rw [List.pairwise_cons]
    refine ⟨fun x hx => ?_, ih⟩
    rcases List.mem_cons.1 hx with rfl | hx
    · exact h.1
    · rw [List.pairwise_cons] at ih
      have := ih.1 x hx
      omega
def setL (n : Nat) (p : Nat → Bool) : List Int := ((List.range n).filter p).map fun n : Nat => (n : Int)
theorem setL_pw (n : Nat) (p : Nat → Bool) : (setL n p).Pairwise (· < ·) := by
  unfold setL
  rw [List.pairwise_map]
  exact (List.Pairwise.filter p List.pairwise_lt_range).imp (fun h => by omega)
theorem setL_mem (n : Nat) (p : Nat → Bool) (x : Int) : x ∈ setL n p ↔ ∃ i : Nat, (i : Int) = x ∧ i < n ∧ p i = true := by
  unfold setL
  rw [List.mem_map]
  constructor
  · rintro ⟨i, hi, rfl⟩
    rw [List.mem_filter, List.mem_range] at hi
    exact ⟨i, rfl, hi⟩
  · rintro ⟨i, rfl, hi⟩
    exact ⟨i, by rw [List.mem_filter, List.mem_range]; exact hi, rfl⟩
theorem setL_len (n : Nat) (p : Nat → Bool) : (setL n p).length ≤ n := by
  unfold setL
  rw [List.length_map]
  have := List.length_filter_le p (List.range n)
  rw [List.length_range] at this
  exact this
theorem setL_congr {n : Nat} {p q : Nat → Bool} (h : ∀ i, i < n → p i = q i) : setL n p = setL n q := by
  unfold setL
  congr 1
  exact List.filter_congr (fun i hi => h i (List.mem_range.1 hi))
theorem rising_setL {l : List Int} {n : Nat} (h : l.Pairwise (· < ·)) (hb : ∀ x ∈ l, 0 ≤ x ∧ x < (n : Int)) {p : Nat → Bool} (hp : ∀ i : Nat, i < n → (p i = true ↔ (i : Int) ∈ l)) : l = setL n p := by
  refine rising_ext h (setL_pw n p) (fun x => ?_)
  rw [setL_mem]
  constructor
  · intro hx
    have hx2 := hb x hx
    obtain ⟨i, rfl⟩ := Int.eq_ofNat_of_zero_le hx2.1
    exact ⟨i, rfl, by omega, (hp i (by omega)).2 hx⟩
  · rintro ⟨i, rfl, hi, hpi⟩
    exact (hp i hi).1 hpi
theorem setL_filter (n : Nat) (p : Nat → Bool) (q : Int → Bool) : (setL n p).filter q = setL n (fun i => p i && q (i : Int)) := by
  unfold setL
  rw [List.filter_map, List.filter_filter]
  congr 1
  apply List.filter_congr
  intro i _
  exact Bool.and_comm _ _
theorem setL_eq {n m : Nat} {p q : Nat → Bool} (h : ∀ i, (i < n ∧ p i = true) ↔ (i < m ∧ q i = true)) : setL n p = setL m q := by
  refine rising_ext (setL_pw n p) (setL_pw m q) (fun x => ?_)
  rw [setL_mem, setL_mem]
  constructor
  · rintro ⟨i, hi, h2⟩; exact ⟨i, hi, (h i).1 h2⟩
  · rintro ⟨i, hi, h2⟩; exact ⟨i, hi, (h i).2 h2⟩
theorem setL_in (n : Nat) (p : Nat → Bool) (i : Nat) : (i : Int) ∈ setL n p ↔ i < n ∧ p i = true := by
  rw [setL_mem]
  constructor
  · rintro ⟨j, hj, h⟩
    have : j = i := by omega
    subst this
    exact h
  · intro h; exact ⟨i, rfl, h⟩
theorem setL_succ (n : Nat) (p : Nat → Bool) : setL (n + 1) p = setL n p ++ if p n = true then [(n : Int)] else [] := by
  unfold setL
  rw [List.range_succ, List.filter_append, List.map_append]
  congr 1
  cases h : p n with
  | true => rw [List.filter_cons_of_pos h]; rfl
  | false => rw [List.filter_cons_of_neg (by rw [h]; simp)]; rfl


def rowA (w h : Int) (M : Nat) : List Int := setL (w * (h + 1)).toNat fun i => M.testBit i
def rowU (w h : Int) (M : Nat) : List Int := setL (h * (w + 1)).toNat fun i => M.testBit ((w * (h + 1)).toNat + i)
def figN (w h : Int) : Nat := (w * (h + 1)).toNat + (h * (w + 1)).toNat
theorem figN_le {w h : Int} (g : GridOK w h) : figN w h ≤ 40 ∧ (w * (h + 1)).toNat ≤ 20 ∧ (h * (w + 1)).toNat ≤ 20 := by
  obtain ⟨c1, c2, c3, c4⟩ := area_bounds g.w1 g.w4 g.h1 g.h4
  unfold figN
  omega
theorem rowA_len {w h : Int} (g : GridOK w h) (M : Nat) : (rowA w h M).length ≤ 20 := Nat.le_trans (setL_len _ _) (figN_le g).2.1
theorem rowU_len {w h : Int} (g : GridOK w h) (M : Nat) : (rowU w h M).length ≤ 20 := Nat.le_trans (setL_len _ _) (figN_le g).2.2
theorem pow_figN {w h : Int} (g : GridOK w h) {M : Nat} (hM : M < 2 ^ figN w h) : M < 2 ^ 60 := Nat.lt_of_lt_of_le hM (Nat.pow_le_pow_right (by omega) (by have := (figN_le g).1; omega))
theorem figMask_figN {w h : Int} {a u : List Int} (hf : figB w h a u = true) : figMask w h a u < 2 ^ figN w h := by
  have g := gridOK_of hf
  obtain ⟨c1, c2, c3, c4⟩ := area_bounds g.w1 g.w4 g.h1 g.h4
  unfold figB at hf
  simp only [Bool.and_eq_true] at hf
  obtain ⟨hg, -, -, hi1, hi2⟩ := hf
  apply Nat.lt_pow_two_of_testBit
  intro i hi
  unfold figN at hi
  unfold figMask
  rw [bitsFrom_test, bitsFrom_test, Nat.zero_testBit, Bool.false_or, Bool.or_eq_false_iff]
  constructor
  · rw [List.any_eq_false]
    intro x hx
    have hb := inB_mem hi1 x hx
    simp
    omega
  · rw [List.any_eq_false]
    intro x hx
    have hb := inB_mem hi2 x hx
    simp
    omega
theorem own_A {w h : Int} {a u : List Int} (hf : figB w h a u = true) : a = rowA w h (figMask w h a u) := by
  have g := gridOK_of hf
  obtain ⟨c1, c2, c3, c4⟩ := area_bounds g.w1 g.w4 g.h1 g.h4
  have hf0 := hf
  unfold figB at hf
  simp only [Bool.and_eq_true] at hf
  obtain ⟨hg, hr1, hr2, hi1, hi2⟩ := hf
  refine rising_setL (rising_pw hr1) (fun x hx => ?_) (fun i hi => ?_)
  · have hb := inB_mem hi1 x hx
    omega
  · rw [figMask_level hf0 i (by omega), decide_eq_true_iff]
theorem own_U {w h : Int} {a u : List Int} (hf : figB w h a u = true) : u = rowU w h (figMask w h a u) := by
  have g := gridOK_of hf
  obtain ⟨c1, c2, c3, c4⟩ := area_bounds g.w1 g.w4 g.h1 g.h4
  have hf0 := hf
  unfold figB at hf
  simp only [Bool.and_eq_true] at hf
  obtain ⟨hg, hr1, hr2, hi1, hi2⟩ := hf
  refine rising_setL (rising_pw hr2) (fun x hx => ?_) (fun i hi => ?_)
  · have hb := inB_mem hi2 x hx
    omega
  · rw [figMask_upright hf0 i, decide_eq_true_iff]
theorem rowA_in {w h : Int} {M i : Nat} (hi : i < (w * (h + 1)).toNat) : (i : Int) ∈ rowA w h M ↔ M.testBit i = true := by
  unfold rowA; rw [setL_in]; exact ⟨fun h => h.2, fun h => ⟨hi, h⟩⟩
theorem rowU_in {w h : Int} {M i : Nat} (hi : i < (h * (w + 1)).toNat) : (i : Int) ∈ rowU w h M ↔ M.testBit ((w * (h + 1)).toNat + i) = true := by
  unfold rowU; rw [setL_in]; exact ⟨fun h => h.2, fun h => ⟨hi, h⟩⟩

theorem levels_f {w h : Int} (g : GridOK w h) : impl_grid_levels.f w h = some (((w * (h + 1)).toNat : Nat) : Int) := by
  obtain ⟨c1, c2, c3, c4⟩ := area_bounds g.w1 g.w4 g.h1 g.h4
  have w1 := g.w1
  have w4 := g.w4
  have h1 := g.h1
  have h4 := g.h4
  have e1 : wrap64 (h + 1) = h + 1 := by unfold wrap64; omega
  have e2 : wrap64 (w * (h + 1)) = (((w * (h + 1)).toNat : Nat) : Int) := by unfold wrap64; omega
  unfold impl_grid_levels.f
  rw [e1, e2]
theorem listed_setL {s : Nat} (hs : s < 2 ^ 60) : impl_set_listed.f (s : Int) = some (setL 64 fun i => s.testBit i) := by
  unfold impl_set_listed.f
  have h2 : (2 : Nat) ^ 60 = 1152921504606846976 := by decide
  rw [if_pos ⟨Int.natCast_nonneg _, by omega⟩, Int.toNat_natCast]
  rfl
theorem figure_f {w h : Int} (g : GridOK w h) {M : Nat} (hM : M < 2 ^ figN w h) : impl_grid_figure.f w h (M : Int) = some (w, h, rowA w h M, rowU w h M) := by
  have hM60 := pow_figN g hM
  obtain ⟨b1, b2, b3⟩ := figN_le g
  unfold impl_grid_figure.f
  rw [levels_f g, Option.bind_some, if_pos (Int.natCast_nonneg _), shl_u64 _ (by omega)]
  unfold rowA rowU
  unfold figN at hM
  generalize (w * (h + 1)).toNat = A at *
  generalize (h * (w + 1)).toNat = U at *
  have hp := Nat.two_pow_pos A
  have hA : 2 ^ A < 2 ^ 60 := pow_lt60 (by omega)
  have hA2 : 2 ^ A - 1 < 2 ^ 60 := by omega
  have e1 : IntKind.u64.wrap (((2 ^ A : Nat) : Int) - 1) = ((2 ^ A - 1 : Nat) : Int) := by
    have : ((2 ^ A : Nat) : Int) - 1 = ((2 ^ A - 1 : Nat) : Int) := by omega
    rw [this]
    exact u64_small _ (Int.natCast_nonneg _) (by
      have h2 : (2 : Nat) ^ 60 = 1152921504606846976 := by decide
      have h3 : (2 : Int) ^ 60 = 1152921504606846976 := by decide
      rw [h3]; omega)
  have e2 : shr .u64 (M : Int) (A : Int) = ((M >>> A : Nat) : Int) := by
    unfold shr
    rw [Int.toNat_natCast, Nat.min_eq_left (show A ≤ IntKind.u64.bits by have : IntKind.u64.bits = 64 := rfl; omega), Nat.shiftRight_eq_div_pow]
    exact_mod_cast rfl
  have hs : M >>> A < 2 ^ 60 := Nat.lt_of_le_of_lt (by rw [Nat.shiftRight_eq_div_pow]; exact Nat.div_le_self _ _) hM60
  rw [e1, and_u64 _ _ hM60 hA2, listed_setL (Nat.lt_of_le_of_lt Nat.and_le_left hM60), Option.bind_some, Option.bind_some, if_pos (Int.natCast_nonneg _), e2, listed_setL hs, Option.bind_some]
  have r1 : setL 64 (fun i => (M &&& (2 ^ A - 1)).testBit i) = setL A fun i => M.testBit i := setL_eq fun i => by
    rw [Nat.testBit_and, Nat.testBit_two_pow_sub_one]
    by_cases hi : i < A
    · simp [hi]; omega
    · simp [hi]
  have r2 : setL 64 (fun i => (M >>> A).testBit i) = setL U fun i => M.testBit (A + i) := setL_eq fun i => by
    rw [Nat.testBit_shiftRight]
    constructor
    · rintro ⟨h1, h2⟩
      refine ⟨?_, h2⟩
      rcases Nat.lt_or_ge i U with h3 | h3
      · exact h3
      · rw [Nat.testBit_lt_two_pow (Nat.lt_of_lt_of_le hM (Nat.pow_le_pow_right (by omega) (by omega)))] at h2
        cases h2
    · rintro ⟨h1, h2⟩; exact ⟨by omega, h2⟩
  rw [r1, r2]


def spec_l1Own.f (l0 : List Int) : Option (List Int) := (some (([] : List Int) : List Int)).bind fun y307 => (if y307.length + l0.length < 17592186044416 then (some (y307 ++ l0)) else (none))

def spec_fiOwn.f (a0_0 : Int) (a0_1 : Int) (l0_2 : List Int) (l0_3 : List Int) : Option (Int × Int × List Int × List Int) := (spec_l1Own.f l0_2).bind fun t315 => ((spec_l1Own.f l0_3).bind fun t318 => (some (a0_0, a0_1, t315, t318)))

def spec_l1Put.l0 : Nat → List Int → Int → Int → Option (List Int)
  | 0, _, _, _ => none
  | k + 1, x0, x1, x5 => if x5 < (x0.length : Int) then (if 0 ≤ x5 then (if (rd x0 x5) < x1 then (spec_l1Put.l0 k x0 x1 (wrap64 (x5 + 1))) else (if (rd x0 x5) = x1 then (some x0) else ((some (([] : List Int) : List Int)).bind fun y323 => (if x5 ≤ (x0.length : Int) then ((some (x0.take (x5 : Int).toNat : List Int)).bind fun y326 => (if y323.length + y326.length < 17592186044416 then ((some (y323 ++ y326 : List Int)).bind fun y330 => (if y330.length < 17592186044416 then ((some (y330 ++ [x1] : List Int)).bind fun y333 => ((some (x0.drop (x5 : Int).toNat : List Int)).bind fun y336 => (if y333.length + y336.length < 17592186044416 then (some (y333 ++ y336)) else (none)))) else (none))) else (none))) else (none))))) else (none)) else ((some (([] : List Int) : List Int)).bind fun y343 => (if 0 ≤ x5 then (if x5 ≤ (x0.length : Int) then ((some (x0.take (x5 : Int).toNat : List Int)).bind fun y346 => (if y343.length + y346.length < 17592186044416 then ((some (y343 ++ y346 : List Int)).bind fun y350 => (if y350.length < 17592186044416 then ((some (y350 ++ [x1] : List Int)).bind fun y353 => ((some (x0.drop (x5 : Int).toNat : List Int)).bind fun y356 => (if y353.length + y356.length < 17592186044416 then (some (y353 ++ y356)) else (none)))) else (none))) else (none))) else (none)) else (none)))
def spec_l1Put.f (k : Nat) (l0 : List Int) (a1 : Int) : Option (List Int) := spec_l1Put.l0 k l0 a1 0
theorem spec_l1Put.mono_l : ∀ k, (∀ y0 y1 y2, LeO (spec_l1Put.l0 k y0 y1 y2) (spec_l1Put.l0 (k + 1) y0 y1 y2))
  | 0 => fun _ _ _ r h => by simp [spec_l1Put.l0] at h
  | k + 1 => by
    have ih0 := spec_l1Put.mono_l k
    · intro y0 y1 y2
      unfold spec_l1Put.l0
      repeat' first
      | (with_reducible exact ih0 _ _ _)
      | (with_reducible exact LeO.refl _)
      | (with_reducible exact LeO.none _)
      | (with_reducible refine LeO.ite ?_ ?_)
      | (with_reducible refine LeO.bind ?_ (fun _ => ?_))
      | exact ih0 _ _ _
      | exact LeO.none _
      | refine LeO.ite ?_ ?_
      | refine LeO.bind ?_ (fun _ => ?_)
theorem spec_l1Put.mono : ∀ a0 a1 k, LeO (spec_l1Put.f k a0 a1) (spec_l1Put.f (k + 1) a0 a1) := by
  intro a0 a1 k
  have ih0 := spec_l1Put.mono_l k
  unfold spec_l1Put.f
  repeat' first
      | (with_reducible exact ih0 _ _ _)
      | (with_reducible exact LeO.refl _)
      | (with_reducible exact LeO.none _)
      | (with_reducible refine LeO.ite ?_ ?_)
      | (with_reducible refine LeO.bind ?_ (fun _ => ?_))
      | exact ih0 _ _ _
      | exact LeO.none _
      | refine LeO.ite ?_ ?_
      | refine LeO.bind ?_ (fun _ => ?_)

def spec_fiPut.f (k : Nat) (a0_0 : Int) (a0_1 : Int) (l0_2 : List Int) (l0_3 : List Int) (a1 : Bool) (a2 : Int) (a3 : Int) : Option (Int × Int × List Int × List Int) := (spec_fiOwn.f a0_0 a0_1 l0_2 l0_3).bind fun bt365 => ((spec_fiEdge.f a0_0 a0_1 l0_2 l0_3 a1 a2 a3).bind fun bt374 => ((spec_fiHas.f k a0_0 a0_1 l0_2 l0_3 a1 a2 a3).bind fun t376 => (if t376 = true then (some (bt365.1, bt365.2.1, bt365.2.2.1, bt365.2.2.2)) else (if a1 = true then ((spec_l1Put.f k bt365.2.2.2 bt374.1).bind fun t377 => (some (bt365.1, bt365.2.1, bt365.2.2.1, t377))) else ((spec_l1Put.f k bt365.2.2.1 bt374.1).bind fun t380 => (some (bt365.1, bt365.2.1, t380, bt365.2.2.2)))))))
theorem spec_fiPut.mono : ∀ a0 a1 a2 a3 a4 a5 a6 k, LeO (spec_fiPut.f k a0 a1 a2 a3 a4 a5 a6) (spec_fiPut.f (k + 1) a0 a1 a2 a3 a4 a5 a6) := by
  intro a0 a1 a2 a3 a4 a5 a6 k
  unfold spec_fiPut.f
  repeat' first
      | (with_reducible exact spec_fiHas.mono _ _ _ _ _ _ _ _)
      | (with_reducible exact spec_l1Put.mono _ _ _)
      | (with_reducible exact LeO.refl _)
      | (with_reducible exact LeO.none _)
      | (with_reducible refine LeO.ite ?_ ?_)
      | (with_reducible refine LeO.bind ?_ (fun _ => ?_))
      | exact spec_fiHas.mono _ _ _ _ _ _ _ _
      | exact spec_l1Put.mono _ _ _
      | exact LeO.none _
      | refine LeO.ite ?_ ?_
      | refine LeO.bind ?_ (fun _ => ?_)

theorem fiThose_l0 (b l : List Int) (hb : b.length ≤ 4000000) (hL : l.length ≤ 4000000) (k0 : Nat) (hk0 : b.length < k0) : ∀ (d k i : Nat) (acc : List Int), l.length - i = d → i ≤ l.length → d + k0 < k → acc.length ≤ i →
    spec_fiThose.l0 k b false acc l (l.length : Int) (i : Int) = some (acc ++ (l.drop i).filter fun x => !decide (x ∈ b)) := by
  intro d
  induction d with
  | zero =>
    intro k i acc h1 h2 h3 h4
    obtain ⟨k, rfl⟩ : ∃ m, k = m + 1 := ⟨k - 1, by omega⟩
    simp only [spec_fiThose.l0]
    rw [if_neg (by omega), List.drop_of_length_le (by omega), List.filter_nil, List.append_nil]
  | succ d ih =>
    intro k i acc h1 h2 h3 h4
    obtain ⟨k, rfl⟩ : ∃ m, k = m + 1 := ⟨k - 1, by omega⟩
    have hi : i < l.length := by omega
    have e2 : wrap64 ((i : Int) + 1) = ((i + 1 : Nat) : Int) := by unfold wrap64; omega
    simp only [spec_fiThose.l0]
    rw [if_pos (by omega), if_pos (by omega), if_pos (by omega), rd_nat l i hi, l1Has_f b _ hb k (by omega), Option.bind_some, e2, List.drop_eq_getElem_cons hi]
    by_cases hm : l[i] ∈ b
    · rw [decide_eq_true hm, if_neg (by simp), List.filter_cons_of_neg (by simp [hm])]
      exact ih k (i + 1) acc (by omega) (by omega) (by omega) (by omega)
    · rw [decide_eq_false hm, if_pos (by simp), if_pos (by omega), ih k (i + 1) _ (by omega) (by omega) (by omega) (by simp; omega), List.filter_cons_of_pos (by simp [hm]), List.append_assoc]
      rfl
theorem fiThose_f (l b : List Int) (hb : b.length ≤ 1000000) (hL : l.length ≤ 1000000) (k : Nat) (hk : 3000000 < k) : spec_fiThose.f k l b false = some (l.filter fun x => !decide (x ∈ b)) := by
  unfold spec_fiThose.f
  have := fiThose_l0 b l (by omega) (by omega) (b.length + 1) (by omega) l.length k 0 [] (by omega) (by omega) (by omega) (Nat.le_refl _)
  rw [List.drop_zero, List.nil_append] at this
  exact this
theorem fiLess_f {w h w2 h2 : Int} (g : GridOK w h) {M N : Nat} (k : Nat) (hk : 3000000 < k) : spec_fiLess.f k w h (rowA w h M) (rowU w h M) w2 h2 (rowA w h N) (rowU w h N) = some (w, h, rowA w h (diffN M N), rowU w h (diffN M N)) := by
  have lA := rowA_len g M
  have lU := rowU_len g M
  have lA2 := rowA_len g N
  have lU2 := rowU_len g N
  unfold spec_fiLess.f
  rw [fiThose_f _ _ (by omega) (by omega) k hk, Option.bind_some, fiThose_f _ _ (by omega) (by omega) k hk, Option.bind_some]
  have eA : (rowA w h M).filter (fun x => !decide (x ∈ rowA w h N)) = rowA w h (diffN M N) := by
    show (setL _ _).filter _ = setL _ _
    rw [setL_filter]
    refine setL_congr fun i hi => ?_
    rw [diffN_test]
    congr 2
    rw [Bool.eq_iff_iff, decide_eq_true_iff]
    exact rowA_in hi
  have eU : (rowU w h M).filter (fun x => !decide (x ∈ rowU w h N)) = rowU w h (diffN M N) := by
    show (setL _ _).filter _ = setL _ _
    rw [setL_filter]
    refine setL_congr fun i hi => ?_
    rw [diffN_test]
    congr 2
    rw [Bool.eq_iff_iff, decide_eq_true_iff]
    exact rowU_in hi
  rw [eA, eU]


theorem fiUpTo_l0 (n : Nat) (hn : n ≤ 1000000) : ∀ (d k i : Nat), n - i = d → i ≤ n → d < k → spec_fiUpTo.l0 k (n : Int) (setL i fun _ => true) (i : Int) = some (setL n fun _ => true) := by
  intro d
  induction d with
  | zero =>
    intro k i h1 h2 h3
    obtain ⟨k, rfl⟩ : ∃ m, k = m + 1 := ⟨k - 1, by omega⟩
    obtain rfl : i = n := by omega
    simp only [spec_fiUpTo.l0]
    rw [if_neg (by omega)]
  | succ d ih =>
    intro k i h1 h2 h3
    obtain ⟨k, rfl⟩ : ∃ m, k = m + 1 := ⟨k - 1, by omega⟩
    have e2 : wrap64 ((i : Int) + 1) = ((i + 1 : Nat) : Int) := by unfold wrap64; omega
    have hl := setL_len i fun _ => true
    have hs := setL_succ i fun _ => true
    rw [if_pos rfl] at hs
    simp only [spec_fiUpTo.l0]
    rw [if_pos (by omega), if_pos (by omega), e2, ← hs]
    exact ih k (i + 1) (by omega) (by omega) (by omega)
theorem fiUpTo_f (n : Nat) (hn : n ≤ 1000000) (k : Nat) (hk : n < k) : spec_fiUpTo.f k (n : Int) = some (setL n fun _ => true) := by
  unfold spec_fiUpTo.f
  exact fiUpTo_l0 n hn n k 0 (by omega) (by omega) hk
theorem fiFull_f {w h : Int} (g : GridOK w h) (k : Nat) (hk : 1000000 < k) : spec_fiFull.f k w h = some (w, h, rowA w h (2 ^ figN w h - 1), rowU w h (2 ^ figN w h - 1)) := by
  obtain ⟨c1, c2, c3, c4⟩ := area_bounds g.w1 g.w4 g.h1 g.h4
  have w1 := g.w1
  have w4 := g.w4
  have h1 := g.h1
  have h4 := g.h4
  have e1 : wrap64 (h + 1) = h + 1 := by unfold wrap64; omega
  have e2 : wrap64 (w + 1) = w + 1 := by unfold wrap64; omega
  have e3 : wrap64 (w * (h + 1)) = (((w * (h + 1)).toNat : Nat) : Int) := by unfold wrap64; omega
  have e4 : wrap64 ((w + 1) * h) = (((h * (w + 1)).toNat : Nat) : Int) := by rw [Int.mul_comm]; unfold wrap64; omega
  unfold spec_fiFull.f
  rw [e1, e2, e3, e4, fiUpTo_f _ (by omega) k (by omega), Option.bind_some, fiUpTo_f _ (by omega) k (by omega), Option.bind_some]
  have eA : setL (w * (h + 1)).toNat (fun _ => true) = rowA w h (2 ^ figN w h - 1) := setL_congr fun i hi => by
    rw [Nat.testBit_two_pow_sub_one]
    exact (decide_eq_true (by unfold figN; omega)).symm
  have eU : setL (h * (w + 1)).toNat (fun _ => true) = rowU w h (2 ^ figN w h - 1) := setL_congr fun i hi => by
    rw [Nat.testBit_two_pow_sub_one]
    exact (decide_eq_true (by unfold figN; omega)).symm
  rw [eA, eU]
theorem fiMissing_f {w h : Int} (g : GridOK w h) {M : Nat} (k : Nat) (hk : 3000000 < k) : spec_fiMissing.f k w h (rowA w h M) (rowU w h M) = some (w, h, rowA w h (diffN (2 ^ figN w h - 1) M), rowU w h (diffN (2 ^ figN w h - 1) M)) := by
  unfold spec_fiMissing.f
  rw [fiFull_f g k (by omega), Option.bind_some, fiLess_f g k hk, Option.bind_some]


theorem join_mask {N M1 M2 : Nat} (h1 : M1 < 2 ^ N) (h2 : M2 < 2 ^ N) : diffN (2 ^ N - 1) (diffN (diffN (2 ^ N - 1) M1) M2) = M1 ||| M2 := by
  apply Nat.eq_of_testBit_eq
  intro i
  rw [diffN_test, diffN_test, diffN_test, Nat.testBit_or, Nat.testBit_two_pow_sub_one]
  rcases Nat.lt_or_ge i N with hi | hi
  · rw [decide_eq_true hi]
    cases M1.testBit i <;> cases M2.testBit i <;> rfl
  · rw [decide_eq_false (by omega), Nat.testBit_lt_two_pow (Nat.lt_of_lt_of_le h1 (Nat.pow_le_pow_right (by omega) hi)), Nat.testBit_lt_two_pow (Nat.lt_of_lt_of_le h2 (Nat.pow_le_pow_right (by omega) hi))]
    rfl
theorem JoinFigures_pure {w h w2 h2 : Int} {a u a2 u2 : List Int} (ha : a.length ≤ 1000000) (hu : u.length ≤ 1000000) (ha2 : a2.length ≤ 1000000) (hu2 : u2.length ≤ 1000000) : ∃ r0 r1 L2 L3 r2, spec_JoinFigures.f 4000001 w h a u w2 h2 a2 u2 = some (r0, r1, L2, L3, r2) ∧ impl_JoinFigures.f 4000001 w h a u w2 h2 a2 u2 = some (r0, r1, L2, L3, r2) ∧ L2.length + L3.length ≤ 1000000 := by
  have hsp : spec_fiTwo.f 4000001 w h a u w2 h2 a2 u2 = some (figB w h a u && (figB w2 h2 a2 u2 && ((w == w2) && (h == h2)))) := by
    unfold spec_fiTwo.f
    rw [fiGood_f w h a u ha hu _ (by decide), Option.bind_some, fiGood_f w2 h2 a2 u2 ha2 hu2 _ (by decide), Option.bind_some]
    cases figB w h a u <;> cases figB w2 h2 a2 u2 <;> simp
    by_cases hw : w = w2
    · simp [hw]
    · simp [hw]
  have him : impl_areAlike.f 4000001 w h a u w2 h2 a2 u2 = some (figB w h a u && (figB w2 h2 a2 u2 && ((w == w2) && (h == h2)))) := by
    unfold impl_areAlike.f impl_Figure_grid.f
    rw [IsFigure_f w h a u ha hu _ (by decide), Option.bind_some, IsFigure_f w2 h2 a2 u2 ha2 hu2 _ (by decide), Option.bind_some]
    cases figB w h a u <;> cases figB w2 h2 a2 u2 <;> simp
  cases hc : (figB w h a u && (figB w2 h2 a2 u2 && ((w == w2) && (h == h2)))) with
  | false =>
    rw [hc] at hsp him
    refine ⟨0, 0, [], [], false, ?_, ?_, by simp⟩
    · unfold spec_JoinFigures.f
      rw [hsp, Option.bind_some, if_neg (by simp)]
    · unfold impl_JoinFigures.f
      rw [him, Option.bind_some, if_neg (by simp)]
  | true =>
    rw [hc] at hsp him
    simp only [Bool.and_eq_true, beq_iff_eq] at hc
    obtain ⟨hf1, hf2, rfl, rfl⟩ := hc
    have g := gridOK_of hf1
    have hM1 := figMask_figN hf1
    have hM2 := figMask_figN hf2
    have m1 := figMask_lt hf1
    have m2 := figMask_lt hf2
    have hA := own_A hf1
    have hU := own_U hf1
    have hA2 := own_A hf2
    have hU2 := own_U hf2
    have hj := join_mask hM1 hM2
    have hs1 := set_f hf1 ha hu 4000001 (by decide)
    have hs2 := set_f hf2 ha2 hu2 4000001 (by decide)
    have q1 := fiMissing_f (w := w) (h := h) g (M := figMask w h a u) 4000001 (by decide)
    rw [← hA, ← hU] at q1
    have q2 := fiLess_f (w := w) (h := h) (w2 := w) (h2 := h) g (M := diffN (2 ^ figN w h - 1) (figMask w h a u)) (N := figMask w h a2 u2) 4000001 (by decide)
    rw [← hA2, ← hU2] at q2
    refine ⟨w, h, rowA w h (figMask w h a u ||| figMask w h a2 u2), rowU w h (figMask w h a u ||| figMask w h a2 u2), true, ?_, ?_, by have := rowA_len g (figMask w h a u ||| figMask w h a2 u2); have := rowU_len g (figMask w h a u ||| figMask w h a2 u2); omega⟩
    · unfold spec_JoinFigures.f
      rw [hsp, Option.bind_some, if_pos rfl, q1, Option.bind_some, q2, Option.bind_some, fiMissing_f g _ (by decide), Option.bind_some, hj]
    · unfold impl_JoinFigures.f impl_Figure_grid.f
      rw [him, Option.bind_some, if_pos rfl, Option.bind_some, hs1, Option.bind_some, hs2, Option.bind_some, or_u64 _ _ m1 m2, figure_f g (Nat.or_lt_two_pow hM1 hM2), Option.bind_some]

end Go.Proofs.YtjnajeplfgdklaaDoor.P
/- What the row's listed variable, math/bits' table, gives a walk; a world in which it is laid. -/
namespace Go.Proofs.YtjnajeplfgdklaaDoor.Laid
open Go.RowKit
theorem mapM_at {α β : Type} {f : α → Option β} : ∀ {l : List α} {xs : List β}, l.mapM f = some xs → ∀ (j : Nat) (x : α), l[j]? = some x → ∃ y, xs[j]? = some y ∧ f x = some y
  | [], xs, _, j, x, hj => by simp at hj
  | a :: l, xs, h, j, x, hj => by
    rw [List.mapM_cons] at h
    obtain ⟨y, hy, h⟩ := Option.bind_eq_some_iff.1 h
    obtain ⟨ys, hys, h⟩ := Option.bind_eq_some_iff.1 h
    obtain rfl := Option.some.inj h
    cases j with
    | zero => simp at hj; subst hj; exact ⟨y, rfl, hy⟩
    | succ j => exact mapM_at hys j x (by simpa using hj)
theorem int_of_trod {H : Type} {enc : TypeId × Value → H} {P : Program} {w : World} {base : Nat} {sp : Nat → Bool} {held : Bool} {fuel : Nat} {t : TypeId} {k : IntKind} {c : Value} {y : DataW H × List MemPlace}
    (ht : P.underlying t = some (.int k)) (h : DataW.trod enc P w base sp held fuel t [c] = some y) : ∃ n, c = .int k n ∧ y = (.lit (.int k n), []) := by
  cases fuel with
  | zero => simp [DataW.trod] at h
  | succ fuel =>
    cases c <;> simp [DataW.trod, ht] at h
    rename_i k' n
    obtain ⟨⟨rfl, _⟩, rfl⟩ := h
    exact ⟨n, rfl, rfl⟩
theorem bytes_of_trod {H : Type} {enc : TypeId × Value → H} {P : Program} {w : World} {base : Nat} {sp : Nat → Bool} {held : Bool} {fuel n : Nat} {t e : TypeId} {l : List Value} {tab : List Nat} {ps : List MemPlace} (ht : P.underlying t = some (.array n e)) (he : P.underlying e = some (.int .u8)) (h1 : P.cellsOf t = n) (h2 : P.cellsOf e = 1)
    (h : DataW.trod enc P w base sp held fuel t l = some (.agg (tab.map fun k : Nat => .lit (.int .u8 (k : Int))), ps)) (j : Nat) (hj : j < n) : l[j]? = some (.int .u8 ((tab.getD j 0 : Nat) : Int)) := by
  cases fuel with
  | zero => simp [DataW.trod] at h
  | succ fuel =>
    simp only [DataW.trod, ht, h1, h2] at h
    split at h
    · rename_i hl
      obtain ⟨xs, hxs, hy⟩ := Option.map_eq_some_iff.1 h
      obtain ⟨y, hyj, hf⟩ := mapM_at hxs j j (by rw [List.getElem?_range hj])
      obtain ⟨c, hc⟩ : ∃ c, l[j]? = some c := ⟨l[j]'(by omega), List.getElem?_eq_getElem _⟩
      rw [Nat.mul_one, show (l.drop j).take 1 = [c] from by rw [List.drop_eq_getElem_cons (by omega)]; rw [List.getElem?_eq_getElem (by omega)] at hc; injection hc with hc; rw [hc]; rfl] at hf
      obtain ⟨m, rfl, rfl⟩ := int_of_trod he hf
      have h3 := (Prod.mk.inj hy).1
      injection h3 with h3
      have h4 := congrArg (fun q => q[j]?) h3
      simp only [List.getElem?_map, hyj, Option.map_some] at h4
      rw [hc, List.getD_eq_getElem?_getD]
      cases ht2 : tab[j]? with
      | none => rw [ht2] at h4; cases h4
      | some q =>
        rw [ht2] at h4
        simp at h4
        rw [h4]; rfl
    · cases h
theorem gnum : Tryd.prog.globalNamed "math/bits.deBruijn64tab" = some 0 := by kernel_rfl
theorem gtype : (Tryd.prog.globals[0]?).map (·.type) = some 113 := by kernel_rfl
theorem cellsT : Tryd.prog.cellsOf 113 = 64 := by kernel_rfl
theorem cellsE : Tryd.prog.cellsOf 5 = 1 := by kernel_rfl
theorem tabIs : (Rows.laid_math_bits_deBruijn64tab : DataW Unit) = .agg (Lib.deBruijn64tab.map fun k => .lit (.int .u8 ((k : Nat) : Int))) := by rfl
theorem plain (w : World) : laidMetH Tryd.prog [("math/bits.deBruijn64tab", Rows.laid_math_bits_deBruijn64tab)] w → laidMet Tryd.prog [("math/bits.deBruijn64tab", Rows.laid_math_bits_deBruijn64tab)] w := fun h => h
theorem tb {W : World} (h : laidMetH Tryd.prog [("math/bits.deBruijn64tab", Rows.laid_math_bits_deBruijn64tab)] W) : P.TB W := by
  obtain ⟨ps, ⟨g, t, cs, fuel, p, q, hg, ht, hvar, hd, _, _⟩, _⟩ := plain W h
  obtain rfl := Option.some.inj (gnum.symm.trans hg)
  obtain rfl := Option.some.inj (gtype.symm.trans ht)
  refine ⟨fun j hj => ?_, trivial⟩
  rw [World.var?_cell hg hvar j]
  rw [tabIs] at hd
  have := bytes_of_trod Tryd.underlying113 Tryd.underlying5 cellsT cellsE hd j hj
  rw [← Array.getElem?_toList]
  exact this
def cells64 : Array Value := (Lib.deBruijn64tab.map fun k => Value.int .u8 ((k : Nat) : Int)).toArray
noncomputable def laidWorld (os : Os) : World :=
  { World.holding Tryd.prog os ⟨#[], #[], []⟩ with heap := (World.holding Tryd.prog os ⟨#[], #[], []⟩).heap.modify 0 fun
      | .cells _ t frozen => .cells cells64 t frozen
      | o => o }
set_option maxRecDepth 100000 in
theorem laidWorld_met (os : Os) (args : Array Value) : laidMetH Tryd.prog [("math/bits.deBruijn64tab", Rows.laid_math_bits_deBruijn64tab)] ((laidWorld os).forCall (fun _ _ => 0) ⟨#[], args, []⟩).memory :=
  laidMetH_of_parts (laidMet_of_run' 8 (by kernel_rfl) (by kernel_rfl)) (by kernel_rfl)
end Go.Proofs.YtjnajeplfgdklaaDoor.Laid
namespace Go.Proofs.YtjnajeplfgdklaaDoor.fnExactJoinFigures
open Go.ChangeShapes Go.WideShapes Go.ChangeAt Go.RowKit Go.Proofs.YtjnajeplfgdklaaDoorW.PrintWords Go.Joins
set_option linter.unusedVariables false
theorem own : ownKnob Tryd.prog.godebug = none := Closed.own
theorem laidOut : laidOutB Tryd.prog = true := Closed.laidOut
def IsRow (k : IntKind) (w : World) (a : Option Addr) (len cap : Nat) (zs : List Int) : Prop :=
 (a = none ∧ len = 0 ∧ cap = 0 ∧ zs = []) ∨
 ∃ x, a = some x ∧ len ≤ cap ∧ cap ≤ maxLen ∧ zs.length = cap ∧ (∀ i, i < zs.length → w.cell? (x.add i) = some (.int k (zs.getD i 0))) ∧ ∀ n ∈ zs, (Lit.int k n).wf = true
theorem opened {H : Type} {enc : TypeId × Value → H} {W : World} {m : Nat} {c : Value} {y : DataW H × List MemPlace} (hy : DataW.trod enc Tryd.prog W 0 (fun _ => true) true m 22 [c] = some y) :
  ∃ a len cap zs, c = .slice a len cap ∧ IsRow .i64 W a len cap zs := by
 rcases open_ints Tryd.underlying22 Tryd.underlying3 (by kernel_rfl) hy with ⟨hcs, _⟩ | ⟨x, l, c, zs, hcs, _, hl, hm, hz, _, hcell, hwz⟩
 ·simp at hcs
  exact ⟨none, 0, 0, [], hcs, .inl ⟨rfl, rfl, rfl, rfl⟩⟩
 ·simp at hcs
  exact ⟨some x, l, c, zs, hcs, .inr ⟨_, rfl, hl, hm, by simpa using hz, hcell, hwz⟩⟩
theorem walk (a b : Int) (A2 : Option Addr) (n2 c2 : Nat) (z2 : List Int) (A3 : Option Addr) (n3 c3 : Nat) (z3 : List Int) (p q : Int) (B2 : Option Addr) (m2 d2 : Nat) (x2 : List Int) (B3 : Option Addr) (m3 d3 : Nat) (x3 : List Int) (w : World) (w2 : IsRow .i64 w A2 n2 c2 z2) (w3 : IsRow .i64 w A3 n3 c3 z3) (u2 : IsRow .i64 w B2 m2 d2 x2) (u3 : IsRow .i64 w B3 m3 d3 x3) (y2 : n2 * 8 ≤ 140737488351232) (y3 : n3 * 8 ≤ 140737488351232) (s2 : m2 * 8 ≤ 140737488351232) (s3 : m3 * 8 ≤ 140737488351232) (hT : P.TB w) :
  Calls Tryd.prog 3 #[.agg #[.int .i64 a, .int .i64 b, .slice A2 n2 c2, .slice A3 n3 c3], .agg #[.int .i64 p, .int .i64 q, .slice B2 m2 d2, .slice B3 m3 d3]] w fun e w' => e = .returned (.bool true) ∧ Below w.heap.size w w' := by
 obtain ⟨l2, rfl, hr2, hm2, hw2, hc2⟩ := ReadsInt.ofRowC w2
 obtain ⟨l3, rfl, hr3, hm3, hw3, hc3⟩ := ReadsInt.ofRowC w3
 obtain ⟨o2, rfl, gr2, gm2, gw2, gc2⟩ := ReadsInt.ofRowC u2
 obtain ⟨o3, rfl, gr3, gm3, gw3, gc3⟩ := ReadsInt.ofRowC u3
 have k2 := Kd.C_of_reads (d := (0 : Int)) (h1 := fun _ => rfl) hr2
 have k3 := Kd.C_of_reads (d := (0 : Int)) (h1 := fun _ => rfl) hr3
 have g2 := Kd.C_of_reads (d := (0 : Int)) (h1 := fun _ => rfl) gr2
 have g3 := Kd.C_of_reads (d := (0 : Int)) (h1 := fun _ => rfl) gr3
 by_cases hbig : l2.length + l3.length + o2.length + o3.length ≤ 1000000
 ·have b2 : l2.length ≤ 1000000 := by omega
  have b3 : l3.length ≤ 1000000 := by omega
  have b4 : o2.length ≤ 1000000 := by omega
  have b5 : o3.length ≤ 1000000 := by omega
  obtain ⟨r0, r1, L2, L3, r2, hp1, hp2, hp3⟩ := P.JoinFigures_pure (w := a) (h := b) (a := l2) (u := l3) (w2 := p) (h2 := q) (a2 := o2) (u2 := o3) b2 b3 b4 b5
  exact P.law_JoinFigures_yes a b A2 c2 l2 A3 c3 l3 p q B2 d2 o2 B3 d3 o3 4000001 r0 r1 L2 L3 r2 P.TB (fun _ _ h hb => h.below hb) w k2 hc2 k3 hc3 g2 gc2 g3 gc3 hT hbig hp3 (Nat.lt_succ_self _)
   (fun B2 d2 B3 d3 E2 e2 E3 e3 W hu2 hd2 hu3 hd3 hv2 he2 hv3 he3 hG => P.spec_JoinFigures.calls 4000001 a b B2 d2 l2 B3 d3 l3 p q E2 e2 o2 E3 e3 o3 r0 r1 L2 L3 r2 W hu2 hd2 hu3 hd3 hv2 he2 hv3 he3 hp1)
   (fun B2 d2 B3 d3 E2 e2 E3 e3 W hu2 hd2 hu3 hd3 hv2 he2 hv3 he3 hG => P.impl_JoinFigures.calls 4000001 a b B2 d2 l2 B3 d3 l3 p q E2 e2 o2 E3 e3 o3 r0 r1 L2 L3 r2 W hu2 hd2 hu3 hd3 hv2 he2 hv3 he3 hG hp2)
 ·by_cases hok : l2.length + l3.length ≤ 1000000
  ·exact P.law_JoinFigures_no2 a b A2 c2 l2 A3 c3 l3 p q B2 d2 o2 B3 d3 o3 w k2 hc2 k3 hc3 g2 gc2 g3 gc3 (by clear hbig hok; omega) (by clear hbig hok; omega) hok hbig
  ·exact P.law_JoinFigures_no1 a b A2 c2 l2 A3 c3 l3 p q B2 d2 o2 B3 d3 o3 w k2 hc2 k3 hc3 g2 gc2 g3 gc3 (by clear hbig hok; omega) (by clear hbig hok; omega) hok
theorem joined_mk (P : Program) (f : FuncId) (fn : Func) (s : ChangeSpec) (c : OpenClaim) (k0 : (c.wf (OpenSpec.ofChange s)) = true) (k1 : (laidOutB P) = true) (k2 : (mapsRowed P) = true) (k3 : (fn.params.all (P.readableRec ·)) = true) (k4 : (namedTie P c.named s.vars) = true) (k5 : ((c.stops == [])) = true) (k6 : ((P.stops == [])) = true) (k7 : ((c.knobs == [])) = true) (k8 : ((P.stopKnobs == [])) = true) (k9 : ((c.inPlace == P.inPlace f)) = true) (k10 : ((c.unfollowed == P.unfollowed f)) = true) (k11 : ((c.recurses == P.recurses f)) = true) (k12 : ((c.named == P.varsNamed f)) = true) (k13 : ((c.maps == (fn.params.toList ++ s.plain.varTypes P).any (P.mapsRec ·))) = true) (k14 : ((c.ifaces == (fn.params.toList ++ s.plain.varTypes P).any (P.ifacesRec ·))) = true) (k15 : ((c.mapsOut == P.mapsAmong fn.resultTypes.toList)) = true) (k16 : ((c.loops == (fn.params.toList ++ s.plain.varTypes P).any (P.loopsFrom ·))) = true) (k17 : ((c.wideKeys == (fn.params.toList ++ s.plain.varTypes P ++ fn.resultTypes.toList).any (P.wideKeysFrom ·))) = true) (k18 : (s.vars.all (P.varReadable ·)) = true) (k19 : (fn.resultTypes.all (fun t => P.readableRec t && decide (t < P.types.size))) = true) (k20 : ((c.ifacesOut == fn.resultTypes.toList.any (P.ifacesRec ·))) = true) (k21 : ((c.loopsOut == fn.resultTypes.toList.any (P.loopsFrom ·))) = true) (k22 : ((c.plainKeys == P.plainKeys)) = true) (k23 : (c.shortTexts.isNone) = true) (k24 : (P.stopsHeard) = true) (k25 : (P.mayEnter) = true) (k26 : ((c.lifted == P.liftsFinal)) = true) (k27 : ((P.make == some c.make)) = true) (hd : c.domain.isEmpty = true) (k28 : (c.kinds == []) = true) (k29 : ((c.pinned == c.pinnedBy)) = true) (k30 : ((c.veiled == (fn.params.toList ++ s.plain.varTypes P ++ fn.resultTypes.toList).any (P.veiledRec ·))) = true) (k31 : (c.veiledFits P fn.params.toList (fn.params.toList ++ s.plain.varTypes P ++ fn.resultTypes.toList)) = true) : joinedFacts P f fn s c = true := by
 unfold joinedFacts
 simp only [hd, if_true, k0, k1, k2, k3, k4, k5, k6, k7, k8, k9, k10, k11, k12, k13, k14, k15, k16, k17, k18, k19, k20, k21, k22, k23, k24, k25, k26, k27, k28, k29, k30, k31, Bool.and_self]
abbrev LAID : List (String × DataW Unit) := [("math/bits.deBruijn64tab", Rows.laid_math_bits_deBruijn64tab)]
set_option maxRecDepth 100000 in
theorem lifted (os : Os) (started : os.Started) (H : Type) (enc : TypeId × Value → H) :
  ReturnsInHanded {} Tryd.checked os 3 .any (fun w args => (Rows.fnExactJoinFiguresSpec.pre enc Tryd.prog Tryd.f3 [] false w args ∧ laidMetH Tryd.prog LAID w) ∧ sizedMet enc Tryd.prog Tryd.f3 (OpenSpec.ofChange Rows.fnExactJoinFiguresSpec) false w args) (Rows.fnExactJoinFiguresSpec.post enc Tryd.prog Tryd.f3 false true false false) := by
 refine returnsInHanded_of_change_and (C := Tryd.checked) (X := fun w _ => laidMetH Tryd.prog LAID w) (fun _ _ _ hh h => h.of_heap hh) own started (by kernel_rfl) Tryd.func3 (ChangeSpec.witness_at (enc := enc) (C := Tryd.checked) (os := os) (X := fun w _ => laidMetH Tryd.prog LAID w) false (Laid.laidWorld os) #[.agg #[.int .i64 0, .int .i64 0, .slice none 0 0, .slice none 0 0], .agg #[.int .i64 0, .int .i64 0, .slice none 0 0, .slice none 0 0]] 8 rfl (by kernel_rfl) (by kernel_rfl) (by kernel_rfl) (by kernel_rfl) (by kernel_rfl) (Laid.laidWorld_met os _)) ?_
 intro W base args ds gs before hval0 hW hcnd hsz0 hL _
 have hT : P.TB W := Laid.tb hL
 have hsz : (DataW.weightsEach Tryd.prog (Tryd.f3.params.toList ++ Rows.fnExactJoinFiguresSpec.plain.varTypes Tryd.prog) (ds ++ gs)).all (· ≤ reachBytes) = true := hsz0
 have hval : ∀ (j : Nat) t v, Tryd.f3.params[j]? = some t → args[j]? = some v → Value.okWide Tryd.prog W .any base t v := hval0
 have hW' := hW
 obtain ⟨p, q, hA0, hV, rfl, hfz, hnd⟩ := hW
 have hA : DataW.TrodAll enc Tryd.prog W 0 (fun _ => true) true Tryd.f3.params.toList args.toList ds p := hA0
 rw [Tryd.params3] at hA hval hsz
 obtain ⟨v0, vs0, d0, ds0, p0, q0, hargs, rfl, rfl, h0, r0⟩ := trodAll_cons hA
 obtain ⟨v1, vs1, d1, ds1, p1, q1, rfl, rfl, rfl, h1, r1⟩ := trodAll_cons r0
 obtain ⟨rfl, rfl, rfl⟩ := trodAll_nil r1
 obtain rfl : args = #[v0, v1] := by cases args; simp_all
 obtain ⟨rfl, rfl⟩ := trodVars_none hV
 have k0 := h0
 have lt0 : ∀ x ∈ p0, x.block < W.heap.size := by obtain ⟨m, hm⟩ := k0; exact DataW.trod_lt m _ _ _ hm
 have k1 := h1
 have lt1 : ∀ x ∈ p1, x.block < W.heap.size := by obtain ⟨m, hm⟩ := k1; exact DataW.trod_lt m _ _ _ hm
 obtain ⟨c0, c1, c2, c3, y0, y1, y2, y3, m, rfl, rfl, rfl, hy0, hy1, hy2, hy3⟩ := open_agg4 Tryd.underlying24 (by kernel_rfl) (by kernel_rfl) (hval 0 24 v0 rfl rfl) h0
 have hsz2 : (DataW.weightsEach Tryd.prog [3, 3, 22, 22] [y0.1, y1.1, y2.1, y3.1]).all (· ≤ reachBytes) = true := by
  rw [List.all_eq_true]
  intro n hn
  exact List.all_eq_true.1 hsz n (DataW.weights_mem_each (j := 0) (t := 24) (d := .agg [y0.1, y1.1, y2.1, y3.1]) rfl rfl n (by simp only [DataW.weights, Tryd.underlying24]; exact hn))
 obtain ⟨a, e0, -, wa⟩ := DataW.trod_int Tryd.underlying3 hy0
 obtain ⟨b, e1, -, wb⟩ := DataW.trod_int Tryd.underlying3 hy1
 obtain ⟨a2, len2, cap2, z2, rfl, w2⟩ := opened hy2
 obtain ⟨a3, len3, cap3, z3, rfl, w3⟩ := opened hy3
 have z2_ : len2 * 8 ≤ 140737488351232 := sized_ints hsz2 (j := 2) (t := 22) rfl rfl Tryd.underlying22 Tryd.underlying3 (by kernel_rfl) (by kernel_rfl) (⟨m, by simpa [Value.cells] using hy2⟩ : DataW.Trod enc Tryd.prog W 0 (fun _ => true) true 22 (.slice a2 len2 cap2) y2.1 y2.2)
 have z3_ : len3 * 8 ≤ 140737488351232 := sized_ints hsz2 (j := 3) (t := 22) rfl rfl Tryd.underlying22 Tryd.underlying3 (by kernel_rfl) (by kernel_rfl) (⟨m, by simpa [Value.cells] using hy3⟩ : DataW.Trod enc Tryd.prog W 0 (fun _ => true) true 22 (.slice a3 len3 cap3) y3.1 y3.2)
 obtain rfl : c0 = .int .i64 a := by simpa using e0
 obtain rfl : c1 = .int .i64 b := by simpa using e1
 obtain ⟨c0', c1', c2', c3', y0', y1', y2', y3', m', rfl, rfl, rfl, hy0', hy1', hy2', hy3'⟩ := open_agg4 Tryd.underlying24 (by kernel_rfl) (by kernel_rfl) (hval 1 24 v1 rfl rfl) h1
 have hsz2' : (DataW.weightsEach Tryd.prog [3, 3, 22, 22] [y0'.1, y1'.1, y2'.1, y3'.1]).all (· ≤ reachBytes) = true := by
  rw [List.all_eq_true]
  intro n hn
  exact List.all_eq_true.1 hsz n (DataW.weights_mem_each (j := 1) (t := 24) (d := .agg [y0'.1, y1'.1, y2'.1, y3'.1]) rfl rfl n (by simp only [DataW.weights, Tryd.underlying24]; exact hn))
 obtain ⟨a', e0', -, wa'⟩ := DataW.trod_int Tryd.underlying3 hy0'
 obtain ⟨b', e1', -, wb'⟩ := DataW.trod_int Tryd.underlying3 hy1'
 obtain ⟨a2', len2', cap2', z2', rfl, w2'⟩ := opened hy2'
 obtain ⟨a3', len3', cap3', z3', rfl, w3'⟩ := opened hy3'
 have z2_' : len2' * 8 ≤ 140737488351232 := sized_ints hsz2' (j := 2) (t := 22) rfl rfl Tryd.underlying22 Tryd.underlying3 (by kernel_rfl) (by kernel_rfl) (⟨m', by simpa [Value.cells] using hy2'⟩ : DataW.Trod enc Tryd.prog W 0 (fun _ => true) true 22 (.slice a2' len2' cap2') y2'.1 y2'.2)
 have z3_' : len3' * 8 ≤ 140737488351232 := sized_ints hsz2' (j := 3) (t := 22) rfl rfl Tryd.underlying22 Tryd.underlying3 (by kernel_rfl) (by kernel_rfl) (⟨m', by simpa [Value.cells] using hy3'⟩ : DataW.Trod enc Tryd.prog W 0 (fun _ => true) true 22 (.slice a3' len3' cap3') y3'.1 y3'.2)
 obtain rfl : c0' = .int .i64 a' := by simpa using e0'
 obtain rfl : c1' = .int .i64 b' := by simpa using e1'
 clear hA0 hval0 hsz0 hsz hsz2 hsz2'
 refine (walk a b a2 len2 cap2 z2 a3 len3 cap3 z3 a' b' a2' len2' cap2' z2' a3' len3' cap3' z3' W w2 w3 w2' w3' z2_ z3_ z2_' z3_' hT).mono fun e W' ⟨he, bel⟩ => ?_
 subst he
 exact ⟨_, rfl, _, _, _, [], _, [], hW', trodAll_mk1 (shut_bool Tryd.underlying4 _), (trodAll_cons_mk (Below.trod laidOut (by kernel_rfl) (of_decide_eq_true (by kernel_rfl)) k0 bel lt0) (trodAll_cons_mk (Below.trod laidOut (by kernel_rfl) (of_decide_eq_true (by kernel_rfl)) k1 bel lt1) trodAll_mk0)), rfl, bel.frame _, fun h => by cases h⟩
theorem k0_ : (Rows.fnExactJoinFiguresRow.wf (OpenSpec.ofChange Rows.fnExactJoinFiguresSpec)) = true := by kernel_rfl
theorem k1_ : (laidOutB Tryd.prog) = true := Closed.laidOut
theorem k2_ : (mapsRowed Tryd.prog) = true := Closed.mapsRowedP
theorem k3_ : (Tryd.f3.params.all (Tryd.prog.readableRec ·)) = true := by kernel_rfl
theorem k4_ : (namedTie Tryd.prog Rows.fnExactJoinFiguresRow.named Rows.fnExactJoinFiguresSpec.vars) = true := by kernel_rfl
theorem k5_ : ((Rows.fnExactJoinFiguresRow.stops == [])) = true := by kernel_rfl
theorem k6_ : ((Tryd.prog.stops == [])) = true := Closed.noStops
theorem k7_ : ((Rows.fnExactJoinFiguresRow.knobs == [])) = true := by kernel_rfl
theorem k8_ : ((Tryd.prog.stopKnobs == [])) = true := Closed.noKnobs
theorem k9_ : ((Rows.fnExactJoinFiguresRow.inPlace == Tryd.prog.inPlace 3)) = true := by kernel_rfl
theorem k10_ : ((Rows.fnExactJoinFiguresRow.unfollowed == Tryd.prog.unfollowed 3)) = true := by kernel_rfl
theorem k11_ : ((Rows.fnExactJoinFiguresRow.recurses == Tryd.prog.recurses 3)) = true := by kernel_rfl
theorem k12_ : ((Rows.fnExactJoinFiguresRow.named == Tryd.prog.varsNamed 3)) = true := by kernel_rfl
theorem k13_ : ((Rows.fnExactJoinFiguresRow.maps == (Tryd.f3.params.toList ++ Rows.fnExactJoinFiguresSpec.plain.varTypes Tryd.prog).any (Tryd.prog.mapsRec ·))) = true := by kernel_rfl
theorem k14_ : ((Rows.fnExactJoinFiguresRow.ifaces == (Tryd.f3.params.toList ++ Rows.fnExactJoinFiguresSpec.plain.varTypes Tryd.prog).any (Tryd.prog.ifacesRec ·))) = true := by kernel_rfl
theorem k15_ : ((Rows.fnExactJoinFiguresRow.mapsOut == Tryd.prog.mapsAmong Tryd.f3.resultTypes.toList)) = true := by kernel_rfl
theorem k16_ : ((Rows.fnExactJoinFiguresRow.loops == (Tryd.f3.params.toList ++ Rows.fnExactJoinFiguresSpec.plain.varTypes Tryd.prog).any (Tryd.prog.loopsFrom ·))) = true := by kernel_rfl
theorem k17_ : ((Rows.fnExactJoinFiguresRow.wideKeys == (Tryd.f3.params.toList ++ Rows.fnExactJoinFiguresSpec.plain.varTypes Tryd.prog ++ Tryd.f3.resultTypes.toList).any (Tryd.prog.wideKeysFrom ·))) = true := by kernel_rfl
theorem k18_ : (Rows.fnExactJoinFiguresSpec.vars.all (Tryd.prog.varReadable ·)) = true := by kernel_rfl
theorem k19_ : (Tryd.f3.resultTypes.all (fun t => Tryd.prog.readableRec t && decide (t < Tryd.prog.types.size))) = true := by kernel_rfl
theorem k20_ : ((Rows.fnExactJoinFiguresRow.ifacesOut == Tryd.f3.resultTypes.toList.any (Tryd.prog.ifacesRec ·))) = true := by kernel_rfl
theorem k21_ : ((Rows.fnExactJoinFiguresRow.loopsOut == Tryd.f3.resultTypes.toList.any (Tryd.prog.loopsFrom ·))) = true := by kernel_rfl
theorem k22_ : ((Rows.fnExactJoinFiguresRow.plainKeys == Tryd.prog.plainKeys)) = true := by kernel_rfl
theorem k23_ : (Rows.fnExactJoinFiguresRow.shortTexts.isNone) = true := by kernel_rfl
theorem k24_ : (Tryd.prog.stopsHeard) = true := Closed.stopsHeard
theorem k25_ : (Tryd.prog.mayEnter) = true := Closed.mayEnter
theorem k26_ : ((Rows.fnExactJoinFiguresRow.lifted == Tryd.prog.liftsFinal)) = true := by rw [Closed.liftsFinal]; kernel_rfl
theorem k27_ : ((Tryd.prog.make == some Rows.fnExactJoinFiguresRow.make)) = true := by rw [Closed.make]; kernel_rfl
theorem k28_ : ((Rows.fnExactJoinFiguresRow.kinds == [])) = true := by kernel_rfl
theorem k29_ : ((Rows.fnExactJoinFiguresRow.pinned == Rows.fnExactJoinFiguresRow.pinnedBy)) = true := by kernel_rfl
theorem k30_ : ((Rows.fnExactJoinFiguresRow.veiled == (Tryd.f3.params.toList ++ Rows.fnExactJoinFiguresSpec.plain.varTypes Tryd.prog ++ Tryd.f3.resultTypes.toList).any (Tryd.prog.veiledRec ·))) = true := by kernel_rfl
theorem k31_ : (Rows.fnExactJoinFiguresRow.veiledFits Tryd.prog Tryd.f3.params.toList (Tryd.f3.params.toList ++ Rows.fnExactJoinFiguresSpec.plain.varTypes Tryd.prog ++ Tryd.f3.resultTypes.toList)) = true := by kernel_rfl
theorem k99_ : (Rows.fnExactJoinFiguresRow.domain.isEmpty) = true := by kernel_rfl
theorem closed : joinedFacts Tryd.prog 3 Tryd.f3 Rows.fnExactJoinFiguresSpec Rows.fnExactJoinFiguresRow = true :=
 joined_mk _ _ _ _ _ k0_ k1_ k2_ k3_ k4_ k5_ k6_ k7_ k8_ k9_ k10_ k11_ k12_ k13_ k14_ k15_ k16_ k17_ k18_ k19_ k20_ k21_ k22_ k23_ k24_ k25_ k26_ k27_ k99_ k28_ k29_ k30_ k31_
theorem over : Rows.fnExactJoinFiguresRow.holds Tryd.pinned (OpenSpec.ofChange Rows.fnExactJoinFiguresSpec) :=
 OpenClaim.holds_of_wide 3 Tryd.f3 rfl rfl rfl rfl rfl rfl rfl ⟨rfl, rfl, rfl, rfl, rfl⟩ rfl rfl rfl rfl rfl (by kernel_rfl) Tryd.func3 closed
  (of_decide_eq_true (by kernel_rfl)) (by unfold Func.isWrapper; first | (rw [if_pos (by decide +kernel)]; kernel_rfl) | (rw [if_neg (by decide +kernel)]; exact ⟨rfl, rfl⟩))
  (fun os started H enc _ => lifted os started H enc)
theorem card : Rows.FnExactJoinFiguresCardSaid :=
 Claim7.holds_tied_plain_at .later [] [.data] true (true, "881df8fd4cc24539997f6b0e4a4c9c78cd9d90516025012de697bc07ffd4fb01") false
  over (fun _ h => by cases h) (by kernel_rfl) (fun _ h => by cases h) fnExactJoinFigures_row_tie rfl ⟨rfl, rfl⟩ (by kernel_rfl) rfl
  (fun f fn hf hfn => by
   obtain rfl : f = 3 := Option.some.inj ((show Tryd.prog.funcNamed "loop.example/g01233/laws.FnExactJoinFigures" = some 3 by kernel_rfl).symm.trans hf) |>.symm
   obtain rfl : fn = Tryd.f3 := (Option.some.inj (Tryd.func3.symm.trans hfn)).symm
   exact ⟨by kernel_rfl, fun j t ht => by
    rw [Tryd.params3] at ht
    have h3 : t = 24 ∨ t = 3 ∨ t = 4 := by
     rcases j with _ | _ | _ | _ | _ | j
     all_goals first | (left; simpa using ht.symm) | (right; left; simpa using ht.symm) | (right; right; simpa using ht.symm) | simp at ht
    rcases h3 with rfl | rfl | rfl
    ·exact (show Tryd.prog.wantsStandIn 24 = false by kernel_rfl)
    ·exact (show Tryd.prog.wantsStandIn 3 = false by kernel_rfl)
    ·exact (show Tryd.prog.wantsStandIn 4 = false by kernel_rfl)⟩)
  (by kernel_rfl)
end Go.Proofs.YtjnajeplfgdklaaDoor.fnExactJoinFigures
namespace Go.Proofs.YtjnajeplfgdklaaDoor
theorem fnExactJoinFigures_holds : Rows.FnExactJoinFiguresCardSaid := fnExactJoinFigures.card
end Go.Proofs.YtjnajeplfgdklaaDoor
