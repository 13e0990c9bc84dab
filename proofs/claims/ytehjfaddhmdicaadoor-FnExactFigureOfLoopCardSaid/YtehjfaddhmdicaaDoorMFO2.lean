/- For every input the law FnExactFigureOfLoop answers true: the program's FigureOfLoop tells what the reference's FigureOfLoop tells; no condition. (part 2 of the proof; the words of the kit's print tool and the texts of this seat, merged by a program) -/
import Derived.Test.YtehjfaddhmdicaaDoorMFO1
namespace Go.Proofs.YtehjfaddhmdicaaDoor.P
open Go.RowKit Go.Proofs.YtehjfaddhmdicaaDoorW.PrintWords Go.Proofs.YtehjfaddhmdicaaDoorW.PrintLast Go.Proofs.YtehjfaddhmdicaaDoorW.PrintMore
attribute [local go_sem] max2_int min2_int max_two min_two max_three min_three max_four min_four   -- for this text's walks alone
set_option linter.unusedVariables false
set_option linter.unusedSimpArgs false

def spec_fiHas.f (k:Nat) (a0_0:Int) (a0_1:Int) (l0_2:List Int) (l0_3:List Int) (a1:Bool) (a2:Int) (a3:Int):Option (Bool):=(spec_fiEdge.f a0_0 a0_1 l0_2 l0_3 a1 a2 a3).bind fun bt312 => (if a1 = true then ((spec_l1Has.f k l0_3 bt312.1).bind fun t314 => (some t314)) else ((spec_l1Has.f k l0_2 bt312.1).bind fun t315 => (some t315)))
theorem spec_fiHas.mono:∀ a0 a1 a2 a3 a4 a5 a6 k,LeO (spec_fiHas.f k a0 a1 a2 a3 a4 a5 a6) (spec_fiHas.f (k + 1) a0 a1 a2 a3 a4 a5 a6):=by
 intro a0 a1 a2 a3 a4 a5 a6 k
 unfold spec_fiHas.f
 repeat' first | (with_reducible first | exact spec_l1Has.mono _ _ _ | exact LeO.refl _ | exact LeO.none _ | refine LeO.ite ?_ ?_ | refine LeO.bind ?_ (fun _ => ?_)) | exact spec_l1Has.mono _ _ _
set_option maxHeartbeats 8000000 in
set_option maxRecDepth 100000 in
theorem spec_fiHas.calls (k:Nat) (a0_0:Int) (a0_1:Int) (A0_2:Option Addr) (c0_2:Nat) (l0_2:List Int) (A0_3:Option Addr) (c0_3:Nat) (l0_3:List Int) (a1:Bool) (a2:Int) (a3:Int) (r:Bool) (w:World) (hr0_2:Kd.C (Kd.int .i64) w A0_2 l0_2.length l0_2) (hc0_2:l0_2.length ≤ c0_2) (hr0_3:Kd.C (Kd.int .i64) w A0_3 l0_3.length l0_3) (hc0_3:l0_3.length ≤ c0_3) (h:spec_fiHas.f k a0_0 a0_1 l0_2 l0_3 a1 a2 a3 = some r) :
  Calls Tryd.prog 122 #[.agg #[.int .i64 a0_0,.int .i64 a0_1,.slice A0_2 l0_2.length c0_2,.slice A0_3 l0_3.length c0_3],.bool a1,.int .i64 a2,.int .i64 a3] w fun e w' => e = .returned (.bool r) ∧ Below w.heap.size w w':=by
 have hu36:=Tryd.underlying36
 have HR0_2:=am_ hr0_2
 have HC0_2:=am_ hc0_2
 clear hr0_2 hc0_2
 have HR0_3:=am_ hr0_3
 have HC0_3:=am_ hc0_3
 clear hr0_3 hc0_3
 have HB:=am_ (Below.refl w.heap.size w)
 have H:((spec_fiEdge.f a0_0 a0_1 l0_2 l0_3 a1 a2 a3).bind fun bt312 => (if a1 = true then ((spec_l1Has.f k l0_3 bt312.1).bind fun t314 => (some t314)) else ((spec_l1Has.f k l0_2 bt312.1).bind fun t315 => (some t315)))) = some r:=h
 clear h
 replace H:=bi_ H
 obtain ⟨⟨t312,t313⟩,A50,H⟩:=H
 replace H:(if a1 = true then ((spec_l1Has.f k l0_3 t312).bind fun t314 => (some t314)) else ((spec_l1Has.f k l0_2 t312).bind fun t315 => (some t315))) = some r:=H
 have A5:=am_ A50
 clear A50
 by_cases c6:a1 = true
 ·subst c6
  have H1:((spec_l1Has.f k l0_3 t312).bind fun t314 => (some t314)) = some r:=by rw [if_pos rfl] at H; exact H
  clear H
  have H:=H1
  clear H1
  replace H:=bi_ H
  obtain ⟨t314,A70,H⟩:=H
  replace H:(some t314) = some r:=H
  have A7:=am_ A70
  clear A70
  obtain rfl:=Option.some.inj H
  go_enter Tryd.func122,Tryd.ntmps122
  go_wp2_with (first | ((with_reducible refine gate_dst (N:=4) rfl ?_); refine boxE_ (N:=4) (cs:=#[.int .i64 a0_0,.int .i64 a0_1,.slice A0_2 l0_2.length c0_2,.slice A0_3 l0_3.length c0_3]) (t:=36) ?_; intro gb311 hg w8 hbox hb; have n0_:=am_ (below_step (bl0_ HB.out) hb); have n1_:=am_ (hbox); have n2_:=am_ ((bs0_ hg HB.out:w.heap.size ≤ gb311)); have n3_:=am_ ((bs0_ hg HB.out:w.heap.size ≤ gb311)); clear HB; have HB:=n0_; have BK311:=n1_; have GW311:=n2_; have GE311:=n3_; clear n0_ n1_ n2_ n3_; clear hb hbox hg; have hcz9_0:w8.cell? ⟨gb311,0,none⟩ = some (.int .i64 a0_0):=(bc_ BK311.out 0).trans rfl; have hcz9_1:w8.cell? ⟨gb311,1,none⟩ = some (.int .i64 a0_1):=(bc_ BK311.out 1).trans rfl; have hcz9_2:w8.cell? ⟨gb311,2,none⟩ = some (.slice A0_2 l0_2.length c0_2):=(bc_ BK311.out 2).trans rfl; have hcz9_3:w8.cell? ⟨gb311,3,none⟩ = some (.slice A0_3 l0_3.length c0_3):=(bc_ BK311.out 3).trans rfl; have hfz9_0:=bz_ BK311.out 0; have hfz9_1:=bz_ BK311.out 1; have hfz9_2:=bz_ BK311.out 2; have hfz9_3:=bz_ BK311.out 3) | ((with_reducible refine gate_callee (f:=150) rfl ?_); refine goesL_ (some 16) rfl rfl Tryd.func150 (by kernel_rfl) rfl #[.agg #[.int .i64 a0_0,.int .i64 a0_1,.slice A0_2 l0_2.length c0_2,.slice A0_3 l0_3.length c0_3],.bool true,.int .i64 a2,.int .i64 a3] rfl ob_ ?_; (with_reducible refine (spec_fiEdge.calls a0_0 a0_1 _ _ l0_2 _ _ l0_3 true a2 a3 t312 t313 _ ?side1 ?side2 ?side3 ?side4 A5.out).mono ?_); (case side1 => exact kc_ (Kd.C_below HR0_2.out HB.out)); (case side2 => exact HC0_2.out); (case side3 => exact kc_ (Kd.C_below HR0_3.out HB.out)); (case side4 => exact HC0_3.out); rintro e w10 ⟨rfl,hb⟩; refine ⟨_,rfl,?_⟩; have n0_:=am_ (bb_ BK311.out hb); have n1_:=am_ (below_step (bl1_ HB.out GE311.out) hb); clear BK311; clear HB; have BK311:=n0_; have HB:=n1_; clear n0_ n1_; (try clear hb); (try clear hb2); (try clear hk); (try clear hi); have hcz11_0:w10.cell? ⟨gb311,0,none⟩ = some (.int .i64 a0_0):=(bc_ BK311.out 0).trans rfl; have hcz11_1:w10.cell? ⟨gb311,1,none⟩ = some (.int .i64 a0_1):=(bc_ BK311.out 1).trans rfl; have hcz11_2:w10.cell? ⟨gb311,2,none⟩ = some (.slice A0_2 l0_2.length c0_2):=(bc_ BK311.out 2).trans rfl; have hcz11_3:w10.cell? ⟨gb311,3,none⟩ = some (.slice A0_3 l0_3.length c0_3):=(bc_ BK311.out 3).trans rfl; have hfz11_0:=bz_ BK311.out 0; have hfz11_1:=bz_ BK311.out 1; have hfz11_2:=bz_ BK311.out 2; have hfz11_3:=bz_ BK311.out 3) | ((with_reducible refine gate_callee (f:=151) rfl ?_); refine goesL_ (some 23) rfl rfl Tryd.func151 (by kernel_rfl) rfl #[.slice A0_3 l0_3.length c0_3,.int .i64 t312] rfl ob_ ?_; (with_reducible refine (spec_l1Has.calls k _ _ l0_3 t312 t314 _ ?side1 ?side2 A7.out).mono ?_); (case side1 => exact kc_ (Kd.C_below HR0_3.out HB.out)); (case side2 => exact HC0_3.out); rintro e w' ⟨rfl,⟨nd,rfl⟩⟩; refine ⟨_,rfl,?_⟩))
  go_ret
  exact ⟨er_,bl1_ HB.out GE311.out⟩
 ·replace c6:=Bool.eq_false_iff.mpr c6
  subst c6
  have H1:((spec_l1Has.f k l0_2 t312).bind fun t315 => (some t315)) = some r:=by rw [if_neg (show ¬ (false = true) by decide)] at H; exact H
  clear H
  have H:=H1
  clear H1
  replace H:=bi_ H
  obtain ⟨t315,A120,H⟩:=H
  replace H:(some t315) = some r:=H
  have A12:=am_ A120
  clear A120
  obtain rfl:=Option.some.inj H
  go_enter Tryd.func122,Tryd.ntmps122
  go_wp2_with (first | ((with_reducible refine gate_dst (N:=4) rfl ?_); refine boxE_ (N:=4) (cs:=#[.int .i64 a0_0,.int .i64 a0_1,.slice A0_2 l0_2.length c0_2,.slice A0_3 l0_3.length c0_3]) (t:=36) ?_; intro gb311 hg w13 hbox hb; have n0_:=am_ (below_step (bl0_ HB.out) hb); have n1_:=am_ (hbox); have n2_:=am_ ((bs0_ hg HB.out:w.heap.size ≤ gb311)); have n3_:=am_ ((bs0_ hg HB.out:w.heap.size ≤ gb311)); clear HB; have HB:=n0_; have BK311:=n1_; have GW311:=n2_; have GE311:=n3_; clear n0_ n1_ n2_ n3_; clear hb hbox hg; have hcz14_0:w13.cell? ⟨gb311,0,none⟩ = some (.int .i64 a0_0):=(bc_ BK311.out 0).trans rfl; have hcz14_1:w13.cell? ⟨gb311,1,none⟩ = some (.int .i64 a0_1):=(bc_ BK311.out 1).trans rfl; have hcz14_2:w13.cell? ⟨gb311,2,none⟩ = some (.slice A0_2 l0_2.length c0_2):=(bc_ BK311.out 2).trans rfl; have hcz14_3:w13.cell? ⟨gb311,3,none⟩ = some (.slice A0_3 l0_3.length c0_3):=(bc_ BK311.out 3).trans rfl; have hfz14_0:=bz_ BK311.out 0; have hfz14_1:=bz_ BK311.out 1; have hfz14_2:=bz_ BK311.out 2; have hfz14_3:=bz_ BK311.out 3) | ((with_reducible refine gate_callee (f:=150) rfl ?_); refine goesL_ (some 16) rfl rfl Tryd.func150 (by kernel_rfl) rfl #[.agg #[.int .i64 a0_0,.int .i64 a0_1,.slice A0_2 l0_2.length c0_2,.slice A0_3 l0_3.length c0_3],.bool false,.int .i64 a2,.int .i64 a3] rfl ob_ ?_; (with_reducible refine (spec_fiEdge.calls a0_0 a0_1 _ _ l0_2 _ _ l0_3 false a2 a3 t312 t313 _ ?side1 ?side2 ?side3 ?side4 A5.out).mono ?_); (case side1 => exact kc_ (Kd.C_below HR0_2.out HB.out)); (case side2 => exact HC0_2.out); (case side3 => exact kc_ (Kd.C_below HR0_3.out HB.out)); (case side4 => exact HC0_3.out); rintro e w15 ⟨rfl,hb⟩; refine ⟨_,rfl,?_⟩; have n0_:=am_ (bb_ BK311.out hb); have n1_:=am_ (below_step (bl1_ HB.out GE311.out) hb); clear BK311; clear HB; have BK311:=n0_; have HB:=n1_; clear n0_ n1_; (try clear hb); (try clear hb2); (try clear hk); (try clear hi); have hcz16_0:w15.cell? ⟨gb311,0,none⟩ = some (.int .i64 a0_0):=(bc_ BK311.out 0).trans rfl; have hcz16_1:w15.cell? ⟨gb311,1,none⟩ = some (.int .i64 a0_1):=(bc_ BK311.out 1).trans rfl; have hcz16_2:w15.cell? ⟨gb311,2,none⟩ = some (.slice A0_2 l0_2.length c0_2):=(bc_ BK311.out 2).trans rfl; have hcz16_3:w15.cell? ⟨gb311,3,none⟩ = some (.slice A0_3 l0_3.length c0_3):=(bc_ BK311.out 3).trans rfl; have hfz16_0:=bz_ BK311.out 0; have hfz16_1:=bz_ BK311.out 1; have hfz16_2:=bz_ BK311.out 2; have hfz16_3:=bz_ BK311.out 3) | ((with_reducible refine gate_callee (f:=151) rfl ?_); refine goesL_ (some 27) rfl rfl Tryd.func151 (by kernel_rfl) rfl #[.slice A0_2 l0_2.length c0_2,.int .i64 t312] rfl ob_ ?_; (with_reducible refine (spec_l1Has.calls k _ _ l0_2 t312 t315 _ ?side1 ?side2 A12.out).mono ?_); (case side1 => exact kc_ (Kd.C_below HR0_2.out HB.out)); (case side2 => exact HC0_2.out); rintro e w' ⟨rfl,⟨nd,rfl⟩⟩; refine ⟨_,rfl,?_⟩))
  go_ret
  exact ⟨er_,bl1_ HB.out GE311.out⟩


def spec_liNext.f (k:Nat) (a0_0:Int) (a0_1:Int) (l0_2:List Int) (l0_3:List Int) (a1_0:Int) (a1_1:Int) (a2:Int):Option (Int × Int × Bool):=if a2 = 0 then (if a1_1 > 0 then ((spec_fiHas.f k a0_0 a0_1 l0_2 l0_3 true a1_0 (wrap64 (a1_1 - 1))).bind fun t600 => (some (a1_0,wrap64 (a1_1 - 1),t600))) else (some (a1_0,wrap64 (a1_1 - 1),false))) else (if a2 = 1 then (if a1_0 < a0_0 then ((spec_fiHas.f k a0_0 a0_1 l0_2 l0_3 false a1_0 a1_1).bind fun t601 => (some (wrap64 (a1_0 + 1),a1_1,t601))) else (some (wrap64 (a1_0 + 1),a1_1,false))) else (if a2 = 2 then (if a1_1 < a0_1 then ((spec_fiHas.f k a0_0 a0_1 l0_2 l0_3 true a1_0 a1_1).bind fun t602 => (some (a1_0,wrap64 (a1_1 + 1),t602))) else (some (a1_0,wrap64 (a1_1 + 1),false))) else (if a1_0 > 0 then ((spec_fiHas.f k a0_0 a0_1 l0_2 l0_3 false (wrap64 (a1_0 - 1)) a1_1).bind fun t603 => (some (wrap64 (a1_0 - 1),a1_1,t603))) else (some (wrap64 (a1_0 - 1),a1_1,false)))))
theorem spec_liNext.mono:∀ a0 a1 a2 a3 a4 a5 a6 k,LeO (spec_liNext.f k a0 a1 a2 a3 a4 a5 a6) (spec_liNext.f (k + 1) a0 a1 a2 a3 a4 a5 a6):=by
 intro a0 a1 a2 a3 a4 a5 a6 k
 unfold spec_liNext.f
 repeat' first | (with_reducible first | exact spec_fiHas.mono _ _ _ _ _ _ _ _ | exact LeO.refl _ | exact LeO.none _ | refine LeO.ite ?_ ?_ | refine LeO.bind ?_ (fun _ => ?_)) | exact spec_fiHas.mono _ _ _ _ _ _ _ _
def spec_liNext.T3:Bool × List (List Nat × List Nat):=(true,[([],[]),([0],[0]),([],[]),([2],[2]),([3],[3]),([1,4],[1,4]),([],[]),([6],[6]),([7],[7]),([8],[8]),([9],[9]),([9],[9]),([11,9],[9,11]),([9],[9]),([13,9],[9,13]),([14,9],[9,14]),([10,12,15,9,9],[9,10,12,15]),([9,16],[9,16]),([5,16,0,1,2,3,4,5],[5]),([17,18,0,1,2,3,4,5,6,7,8,9,10,11,12,13,14,15,16,17,18],[17])])
def spec_liNext.B3:List Nat:=[0,1,0,4,12,31,0,64,192,448,960,960,3008,960,9152,25536,65472,131008,131071,524287]
theorem spec_liNext.tab3:rtab .any (opsOf Tryd.f113 3) = spec_liNext.T3:=by kernel_rfl
theorem spec_liNext.bits3:waitsOk spec_liNext.T3.2 spec_liNext.B3 = true:=by kernel_rfl
def spec_liNext.T5:Bool × List (List Nat × List Nat):=(true,[([],[]),([0],[0]),([1],[1]),([],[]),([3],[3]),([2,4],[2,4]),([],[]),([6],[6]),([],[]),([8],[8]),([7,9],[7,9]),([10],[10]),([11],[11]),([11],[11]),([13,11],[11,13]),([11],[11]),([15,11],[11,15]),([12,14,16,11,11],[11,12,14,16]),([11,17],[11,17]),([5,17,0,1,2,3,4,5],[5]),([18,19,0,1,2,3,4,5,6,7,8,9,10,11,12,13,14,15,16,17,18,19],[18])])
def spec_liNext.B5:List Nat:=[0,1,3,0,8,31,0,64,0,256,960,1984,4032,4032,12224,4032,36800,131008,262080,262143,1048575]
theorem spec_liNext.tab5:rtab .any (opsOf Tryd.f113 5) = spec_liNext.T5:=by kernel_rfl
theorem spec_liNext.bits5:waitsOk spec_liNext.T5.2 spec_liNext.B5 = true:=by kernel_rfl
def spec_liNext.T7:Bool × List (List Nat × List Nat):=(true,[([],[]),([0],[0]),([],[]),([2],[2]),([3],[3]),([1,4],[1,4]),([],[]),([6],[6]),([],[]),([8],[8]),([7,9],[7,9]),([10],[10]),([11],[11]),([11],[11]),([13,11],[11,13]),([11],[11]),([15,11],[11,15]),([12,14,16,11,11],[11,12,14,16]),([11,17],[11,17]),([5,17,0,1,2,3,4,5],[5]),([18,19,0,1,2,3,4,5,6,7,8,9,10,11,12,13,14,15,16,17,18,19],[18])])
def spec_liNext.B7:List Nat:=[0,1,0,4,12,31,0,64,0,256,960,1984,4032,4032,12224,4032,36800,131008,262080,262143,1048575]
theorem spec_liNext.tab7:rtab .any (opsOf Tryd.f113 7) = spec_liNext.T7:=by kernel_rfl
theorem spec_liNext.bits7:waitsOk spec_liNext.T7.2 spec_liNext.B7 = true:=by kernel_rfl
def spec_liNext.T8:Bool × List (List Nat × List Nat):=(true,[([],[]),([0],[0]),([1],[1]),([],[]),([3],[3]),([2,4],[2,4]),([],[]),([6],[6]),([7],[7]),([8],[8]),([9],[9]),([9],[9]),([11,9],[9,11]),([12,9],[9,12]),([9],[9]),([14,9],[9,14]),([10,13,15,9,9],[9,10,13,15]),([9,16],[9,16]),([5,16,0,1,2,3,4,5],[5]),([17,18,0,1,2,3,4,5,6,7,8,9,10,11,12,13,14,15,16,17,18],[17])])
def spec_liNext.B8:List Nat:=[0,1,3,0,8,31,0,64,192,448,960,960,3008,7104,960,17344,65472,131008,131071,524287]
theorem spec_liNext.tab8:rtab .any (opsOf Tryd.f113 8) = spec_liNext.T8:=by kernel_rfl
theorem spec_liNext.bits8:waitsOk spec_liNext.T8.2 spec_liNext.B8 = true:=by kernel_rfl
set_option maxHeartbeats 8000000 in
set_option maxRecDepth 100000 in
theorem spec_liNext.calls (k:Nat) (a0_0:Int) (a0_1:Int) (A0_2:Option Addr) (c0_2:Nat) (l0_2:List Int) (A0_3:Option Addr) (c0_3:Nat) (l0_3:List Int) (a1_0:Int) (a1_1:Int) (a2:Int) (r1:Int) (r2:Int) (r3:Bool) (w:World) (hr0_2:Kd.C (Kd.int .i64) w A0_2 l0_2.length l0_2) (hc0_2:l0_2.length ≤ c0_2) (hr0_3:Kd.C (Kd.int .i64) w A0_3 l0_3.length l0_3) (hc0_3:l0_3.length ≤ c0_3) (h:spec_liNext.f k a0_0 a0_1 l0_2 l0_3 a1_0 a1_1 a2 = some (r1,r2,r3)) :
  Calls Tryd.prog 113 #[.agg #[.int .i64 a0_0,.int .i64 a0_1,.slice A0_2 l0_2.length c0_2,.slice A0_3 l0_3.length c0_3],.agg #[.int .i64 a1_0,.int .i64 a1_1],.int .i64 a2] w fun e w' => e = .returned (.tuple #[.agg #[.int .i64 r1,.int .i64 r2],.bool r3]) ∧ Below w.heap.size w w':=by
 have hu36:=Tryd.underlying36
 have hu84:=Tryd.underlying84
 have HR0_2:=am_ hr0_2
 have HC0_2:=am_ hc0_2
 clear hr0_2 hc0_2
 have HR0_3:=am_ hr0_3
 have HC0_3:=am_ hc0_3
 clear hr0_3 hc0_3
 have HB:=am_ (Below.refl w.heap.size w)
 have H:(if a2 = 0 then (if a1_1 > 0 then ((spec_fiHas.f k a0_0 a0_1 l0_2 l0_3 true a1_0 (wrap64 (a1_1 - 1))).bind fun t600 => (some (a1_0,wrap64 (a1_1 - 1),t600))) else (some (a1_0,wrap64 (a1_1 - 1),false))) else (if a2 = 1 then (if a1_0 < a0_0 then ((spec_fiHas.f k a0_0 a0_1 l0_2 l0_3 false a1_0 a1_1).bind fun t601 => (some (wrap64 (a1_0 + 1),a1_1,t601))) else (some (wrap64 (a1_0 + 1),a1_1,false))) else (if a2 = 2 then (if a1_1 < a0_1 then ((spec_fiHas.f k a0_0 a0_1 l0_2 l0_3 true a1_0 a1_1).bind fun t602 => (some (a1_0,wrap64 (a1_1 + 1),t602))) else (some (a1_0,wrap64 (a1_1 + 1),false))) else (if a1_0 > 0 then ((spec_fiHas.f k a0_0 a0_1 l0_2 l0_3 false (wrap64 (a1_0 - 1)) a1_1).bind fun t603 => (some (wrap64 (a1_0 - 1),a1_1,t603))) else (some (wrap64 (a1_0 - 1),a1_1,false)))))) = some (r1,r2,r3):=h
 clear h
 by_cases c4:a2 = 0
 ·rw [if_pos c4] at H
  have c4b0:(a2 == 0) = true:=beq_iff_eq.mpr c4
  have c4b1:(a2 != 0) = false:=bne_eq_false_iff_eq.mpr c4
  clear c4
  by_cases c5:a1_1 > 0
  ·rw [if_pos c5] at H
   have c5b0:decide (0 < a1_1) = true:=decide_eq_true c5
   clear c5
   replace H:=bi_ H
   obtain ⟨t600,A60,H⟩:=H
   replace H:(some (a1_0,wrap64 (a1_1 - 1),t600)) = some (r1,r2,r3):=H
   have A6:=am_ A60
   clear A60
   simp only [Option.some.injEq,Prod.mk.injEq] at H
   obtain ⟨rfl,rfl,rfl⟩:=H
   go_enter Tryd.func113,Tryd.ntmps113
   try go_wp2_with (first | ((with_reducible refine gate_dst (N:=3) rfl ?_); refine boxE_ (N:=3) (cs:=#[.int .i64 a0_0,.int .i64 a0_1,.slice A0_2 l0_2.length c0_2,.slice A0_3 l0_3.length c0_3]) (t:=36) ?_; intro gb597 hg w7 hbox hb; have n0_:=am_ (below_step (bl0_ HB.out) hb); have n1_:=am_ (hbox); have n2_:=am_ ((bs0_ hg HB.out:w.heap.size ≤ gb597)); have n3_:=am_ ((bs0_ hg HB.out:w.heap.size ≤ gb597)); clear HB; have HB:=n0_; have BK597:=n1_; have GW597:=n2_; have GE597:=n3_; clear n0_ n1_ n2_ n3_; clear hb hbox hg) | ((with_reducible refine gate_dst (N:=4) rfl ?_); refine boxE_ (N:=4) (cs:=#[.int .i64 a1_0,.int .i64 a1_1]) (t:=84) ?_; intro gb598 hg w8 hbox hb; have n0_:=am_ (bb_ BK597.out hb); have n1_:=am_ (below_step (bl1_ HB.out GE597.out) hb); have n2_:=am_ (hbox); have n3_:=am_ ((bs1_ hg HB.out GE597.out:w.heap.size ≤ gb598)); have n4_:=am_ ((bs1_ hg HB.out GE597.out:w.heap.size ≤ gb598)); have n5_:=am_ ((nl_ hg BK597.out:gb597 ≠ gb598)); have n6_:=am_ ((ng_ hg BK597.out:gb598 ≠ gb597)); clear BK597; clear HB; have BK597:=n0_; have HB:=n1_; have BK598:=n2_; have GW598:=n3_; have GE598:=n4_; have NB597_598:=n5_; have NB598_597:=n6_; clear n0_ n1_ n2_ n3_ n4_ n5_ n6_; clear hb hbox hg) | ((with_reducible refine gate_dst (N:=6) rfl ?_); refine boxE_ (N:=6) (cs:=#[.int .i64 0,.int .i64 0]) (t:=84) ?_; intro gb599 hg w9 hbox hb; have n0_:=am_ (bb_ BK597.out hb); have n1_:=am_ (bb_ BK598.out hb); have n2_:=am_ (below_step (bl2_ HB.out GE597.out GE598.out) hb); have n3_:=am_ (hbox); have n4_:=am_ ((bs2_ hg HB.out GE597.out GE598.out:w.heap.size ≤ gb599)); have n5_:=am_ ((bs2_ hg HB.out GE597.out GE598.out:w.heap.size ≤ gb599)); have n6_:=am_ ((nl_ hg BK597.out:gb597 ≠ gb599)); have n7_:=am_ ((ng_ hg BK597.out:gb599 ≠ gb597)); have n8_:=am_ ((nl_ hg BK598.out:gb598 ≠ gb599)); have n9_:=am_ ((ng_ hg BK598.out:gb599 ≠ gb598)); clear BK597; clear BK598; clear HB; have BK597:=n0_; have BK598:=n1_; have HB:=n2_; have BK599:=n3_; have GW599:=n4_; have GE599:=n5_; have NB597_599:=n6_; have NB599_597:=n7_; have NB598_599:=n8_; have NB599_598:=n9_; clear n0_ n1_ n2_ n3_ n4_ n5_ n6_ n7_ n8_ n9_; clear hb hbox hg))
   have n0_:=am_ (blk_drew BK597.out)
   have n1_:=am_ (blk_drew BK598.out)
   have n2_:=am_ (blk_drew BK599.out)
   have n3_:=am_ (below_drew1 HB.out)
   clear BK597
   clear BK598
   clear BK599
   clear HB
   have BK597:=n0_
   have BK598:=n1_
   have BK599:=n2_
   have HB:=n3_
   clear n0_ n1_ n2_ n3_
   refine start_ (n:=20) (S:=fun w' => w'.cell? ⟨gb598,0,none⟩ = some (.int .i64 a1_0) ∧ w'.cell? ⟨gb598,1,none⟩ = some (.int .i64 a1_1) ∧ w'.cell? ⟨gb597,0,none⟩ = some (.int .i64 a0_0) ∧ w'.cell? ⟨gb597,1,none⟩ = some (.int .i64 a0_1) ∧ w'.cell? ⟨gb597,2,none⟩ = some (.slice A0_2 l0_2.length c0_2) ∧ w'.cell? ⟨gb597,3,none⟩ = some (.slice A0_3 l0_3.length c0_3)) (ds:=[]) #[Ff,Ff,Ff,Ff,Ff,Ff,Ff,Ff,Ff,Ff,Ff,Ff,Ff,Ff,Ff,Ff,Ff,Ff,Ff,Ff] (by kernel_rfl) rfl rfl ⟨(bc_ BK598.out 0).trans rfl,(bc_ BK598.out 1).trans rfl,(bc_ BK597.out 0).trans rfl,(bc_ BK597.out 1).trans rfl,(bc_ BK597.out 2).trans rfl,(bc_ BK597.out 3).trans rfl⟩ (fun hHeld => ?_); refine with_tabW spec_liNext.tab3 spec_liNext.bits3 (fun HT_ HW_ => ?_)
   generalize w9.drew = w10 at BK597 BK598 BK599 HB hHeld ⊢
   refine pZ (i:=0) (N:=some 11) #[Tt,Ff,Ff,Ff,Ff,Ff,Ff,Ff,Ff,Ff,Ff,Ff,Ff,Ff,Ff,Ff,Ff,Ff,Ff,Ff] ?_
   refine pZ (i:=2) (N:=some 13) #[Tt,Ff,Tt,Ff,Ff,Ff,Ff,Ff,Ff,Ff,Ff,Ff,Ff,Ff,Ff,Ff,Ff,Ff,Ff,Ff] ?_
   refine pZ (i:=6) (N:=some 17) #[Tt,Ff,Tt,Ff,Ff,Ff,Tt,Ff,Ff,Ff,Ff,Ff,Ff,Ff,Ff,Ff,Ff,Ff,Ff,Ff] ?_
   refine tZ (i:=1) (N:=some 12) #[Tt,Tt,Tt,Ff,Ff,Ff,Tt,Ff,Ff,Ff,Ff,Ff,Ff,Ff,Ff,Ff,Ff,Ff,Ff,Ff] ?_
   refine tZ (i:=3) (N:=some 14) #[Tt,Tt,Tt,Tt,Ff,Ff,Tt,Ff,Ff,Ff,Ff,Ff,Ff,Ff,Ff,Ff,Ff,Ff,Ff,Ff] ?_
   refine pZ (i:=4) (N:=some 15) #[Tt,Tt,Tt,Tt,Tt,Ff,Tt,Ff,Ff,Ff,Ff,Ff,Ff,Ff,Ff,Ff,Ff,Ff,Ff,Ff] ?_
   refine pZ (i:=5) (N:=some 16) #[Tt,Tt,Tt,Tt,Tt,Tt,Tt,Ff,Ff,Ff,Ff,Ff,Ff,Ff,Ff,Ff,Ff,Ff,Ff,Ff] ?_
   refine tZ (i:=7) (N:=some 18) #[Tt,Tt,Tt,Tt,Tt,Tt,Tt,Tt,Ff,Ff,Ff,Ff,Ff,Ff,Ff,Ff,Ff,Ff,Ff,Ff] ?_
   refine pZ (i:=8) (N:=some 19) #[Tt,Tt,Tt,Tt,Tt,Tt,Tt,Tt,Tt,Ff,Ff,Ff,Ff,Ff,Ff,Ff,Ff,Ff,Ff,Ff] ?_
   refine pZ (i:=9) (N:=some 20) #[Tt,Tt,Tt,Tt,Tt,Tt,Tt,Tt,Tt,Tt,Ff,Ff,Ff,Ff,Ff,Ff,Ff,Ff,Ff,Ff] ?_
   refine pZ (i:=11) (N:=some 22) #[Tt,Tt,Tt,Tt,Tt,Tt,Tt,Tt,Tt,Tt,Ff,Tt,Ff,Ff,Ff,Ff,Ff,Ff,Ff,Ff] ?_
   refine pZ (i:=13) (N:=some 24) #[Tt,Tt,Tt,Tt,Tt,Tt,Tt,Tt,Tt,Tt,Ff,Tt,Ff,Tt,Ff,Ff,Ff,Ff,Ff,Ff] ?_
   refine tZ (i:=10) (N:=some 21) #[Tt,Tt,Tt,Tt,Tt,Tt,Tt,Tt,Tt,Tt,Tt,Tt,Ff,Tt,Ff,Ff,Ff,Ff,Ff,Ff] ?_
   refine tZ (i:=12) (N:=some 23) #[Tt,Tt,Tt,Tt,Tt,Tt,Tt,Tt,Tt,Tt,Tt,Tt,Tt,Tt,Ff,Ff,Ff,Ff,Ff,Ff] ?_
   refine tZ (i:=14) (N:=some 25) #[Tt,Tt,Tt,Tt,Tt,Tt,Tt,Tt,Tt,Tt,Tt,Tt,Tt,Tt,Tt,Ff,Ff,Ff,Ff,Ff] ?_
   refine pZ (i:=15) (N:=some 26) #[Tt,Tt,Tt,Tt,Tt,Tt,Tt,Tt,Tt,Tt,Tt,Tt,Tt,Tt,Tt,Tt,Ff,Ff,Ff,Ff] ?_
   refine one_ (i:=16) (N:=some 27) #[Tt,Tt,Tt,Tt,Tt,Tt,Tt,Tt,Tt,Tt,Tt,Tt,Tt,Tt,Tt,Tt,Tt,Ff,Ff,Ff] rfl rfl (one_of HT_.out (by kernel_rfl)) (by decide) (fun K hK => ?_)
   refine goes_ Tryd.func122 (by kernel_rfl) rfl #[.agg #[.int .i64 a0_0,.int .i64 a0_1,.slice A0_2 l0_2.length c0_2,.slice A0_3 l0_3.length c0_3],.bool true,.int .i64 a1_0,.int .i64 (wrap64 (a1_1 - 1))] (by rfl) rfl rfl ob_ ?_
   with_reducible refine (spec_fiHas.calls k a0_0 a0_1 _ _ l0_2 _ _ l0_3 true a1_0 (wrap64 (a1_1 - 1)) t600 _ ?side1 ?side2 ?side3 ?side4 A6.out).mono ?_
   (case side1 => exact kc_ (Kd.C_below HR0_2.out HB.out))
   (case side2 => exact HC0_2.out)
   (case side3 => exact kc_ (Kd.C_below HR0_3.out HB.out))
   (case side4 => exact HC0_3.out)
   rintro e w11 ⟨rfl,hb⟩
   refine ⟨_,rfl,?_⟩
   have n0_:=am_ (bb_ BK597.out hb)
   have n1_:=am_ (bb_ BK598.out hb)
   have n2_:=am_ (bb_ BK599.out hb)
   have n3_:=am_ (below_step (bl3_ HB.out GE597.out GE598.out GE599.out) hb)
   clear BK597
   clear BK598
   clear BK599
   clear HB
   have BK597:=n0_
   have BK598:=n1_
   have BK599:=n2_
   have HB:=n3_
   clear n0_ n1_ n2_ n3_
   (try clear hb)
   (try clear hb2)
   (try clear hk)
   (try clear hi)
   refine hK.out _ _ ⟨(bc_ BK598.out 0).trans rfl,(bc_ BK598.out 1).trans rfl,(bc_ BK597.out 0).trans rfl,(bc_ BK597.out 1).trans rfl,(bc_ BK597.out 2).trans rfl,(bc_ BK597.out 3).trans rfl⟩ (fun hHeld => ?_)
   clear hK K
   refine norm_ (a':=_) ap_ ?_
   refine pZ (i:=17) (N:=some 28) #[Tt,Tt,Tt,Tt,Tt,Tt,Tt,Tt,Tt,Tt,Tt,Tt,Tt,Tt,Tt,Tt,Tt,Tt,Ff,Ff] ?_
   refine one_ (i:=18) (N:=none) #[Tt,Tt,Tt,Tt,Tt,Tt,Tt,Tt,Tt,Tt,Tt,Tt,Tt,Tt,Tt,Tt,Tt,Tt,Tt,Ff] rfl rfl (one_of HT_.out (by kernel_rfl)) (by decide) (fun K hK => ?_)
   have hs12:w11.cell? ⟨gb599,0,none⟩ = some (.int .i64 0):=(bc_ BK599.out 0).trans rfl
   have hfs12:=bz_ BK599.out 0
   have hns12_0:=NB597_599.out
   have hns12_1:=NB598_599.out
   have hms12_0:=NB599_597.out
   have hms12_1:=NB599_598.out
   have hs13:w11.cell? ⟨gb599,1,none⟩ = some (.int .i64 0):=(bc_ BK599.out 1).trans rfl
   have hfs13:=bz_ BK599.out 1
   have hns13_0:=NB597_599.out
   have hns13_1:=NB598_599.out
   have hms13_0:=NB599_597.out
   have hms13_1:=NB599_598.out
   refine skip_ (w1:=?_) (by rfl) rfl ?_ ?_
   rotate_left
   ·go_simp
    rfl
   refine hK.out _ _ ⟨((cell_far (p:=⟨gb599,_,none⟩) NB598_599.out _).trans (((cell_far (p:=⟨gb599,_,none⟩) NB598_599.out _).trans (hHeld.1)))),((cell_far (p:=⟨gb599,_,none⟩) NB598_599.out _).trans (((cell_far (p:=⟨gb599,_,none⟩) NB598_599.out _).trans (hHeld.2.1)))),((cell_far (p:=⟨gb599,_,none⟩) NB597_599.out _).trans (((cell_far (p:=⟨gb599,_,none⟩) NB597_599.out _).trans (hHeld.2.2.1)))),((cell_far (p:=⟨gb599,_,none⟩) NB597_599.out _).trans (((cell_far (p:=⟨gb599,_,none⟩) NB597_599.out _).trans (hHeld.2.2.2.1)))),((cell_far (p:=⟨gb599,_,none⟩) NB597_599.out _).trans (((cell_far (p:=⟨gb599,_,none⟩) NB597_599.out _).trans (hHeld.2.2.2.2.1)))),((cell_far (p:=⟨gb599,_,none⟩) NB597_599.out _).trans (((cell_far (p:=⟨gb599,_,none⟩) NB597_599.out _).trans (hHeld.2.2.2.2.2))))⟩ (fun hHeld => ?_)
   clear hK K
   refine pZ (i:=19) (N:=some 7) #[Tt,Tt,Tt,Tt,Tt,Tt,Tt,Tt,Tt,Tt,Tt,Tt,Tt,Tt,Tt,Tt,Tt,Tt,Tt,Tt] ?_
   refine done_ (done_of HT_.out (by kernel_rfl)) ?_
   try go_wp2
   refine bodyPost_ret (results_ct rfl _ _ gb599 84 #[.int .i64 a1_0,.int .i64 (wrap64 (a1_1 - 1))] (0,0) _ rfl (by (with_reducible repeat (first | refine blk_drewN ?_ _ | refine blk_drew ?_ | refine blk_alloc ?_ _)); refine blk_put (cs:=#[.int .i64 a1_0,.int .i64 0]) ?_ 1 _ rfl; (with_reducible repeat (first | refine blk_drewN ?_ _ | refine blk_drew ?_ | refine blk_alloc ?_ _)); refine blk_put (cs:=#[.int .i64 0,.int .i64 0]) ?_ 0 _ rfl; (with_reducible repeat (first | refine blk_drewN ?_ _ | refine blk_drew ?_ | refine blk_alloc ?_ _)); exact BK599.out) Tryd.underlying84 rfl (by kernel_rfl)) rfl ?_
   exact ⟨er_,bl3_ HB.out GE597.out GE598.out GE599.out⟩
  ·rw [if_neg c5] at H
   have c5b0:decide (0 < a1_1) = false:=decide_eq_false c5
   clear c5
   simp only [Option.some.injEq,Prod.mk.injEq] at H
   obtain ⟨rfl,rfl,rfl⟩:=H
   go_enter Tryd.func113,Tryd.ntmps113
   try go_wp2_with (first | ((with_reducible refine gate_dst (N:=3) rfl ?_); refine boxE_ (N:=3) (cs:=#[.int .i64 a0_0,.int .i64 a0_1,.slice A0_2 l0_2.length c0_2,.slice A0_3 l0_3.length c0_3]) (t:=36) ?_; intro gb597 hg w14 hbox hb; have n0_:=am_ (below_step (bl0_ HB.out) hb); have n1_:=am_ (hbox); have n2_:=am_ ((bs0_ hg HB.out:w.heap.size ≤ gb597)); have n3_:=am_ ((bs0_ hg HB.out:w.heap.size ≤ gb597)); clear HB; have HB:=n0_; have BK597:=n1_; have GW597:=n2_; have GE597:=n3_; clear n0_ n1_ n2_ n3_; clear hb hbox hg) | ((with_reducible refine gate_dst (N:=4) rfl ?_); refine boxE_ (N:=4) (cs:=#[.int .i64 a1_0,.int .i64 a1_1]) (t:=84) ?_; intro gb598 hg w15 hbox hb; have n0_:=am_ (bb_ BK597.out hb); have n1_:=am_ (below_step (bl1_ HB.out GE597.out) hb); have n2_:=am_ (hbox); have n3_:=am_ ((bs1_ hg HB.out GE597.out:w.heap.size ≤ gb598)); have n4_:=am_ ((bs1_ hg HB.out GE597.out:w.heap.size ≤ gb598)); have n5_:=am_ ((nl_ hg BK597.out:gb597 ≠ gb598)); have n6_:=am_ ((ng_ hg BK597.out:gb598 ≠ gb597)); clear BK597; clear HB; have BK597:=n0_; have HB:=n1_; have BK598:=n2_; have GW598:=n3_; have GE598:=n4_; have NB597_598:=n5_; have NB598_597:=n6_; clear n0_ n1_ n2_ n3_ n4_ n5_ n6_; clear hb hbox hg) | ((with_reducible refine gate_dst (N:=6) rfl ?_); refine boxE_ (N:=6) (cs:=#[.int .i64 0,.int .i64 0]) (t:=84) ?_; intro gb599 hg w16 hbox hb; have n0_:=am_ (bb_ BK597.out hb); have n1_:=am_ (bb_ BK598.out hb); have n2_:=am_ (below_step (bl2_ HB.out GE597.out GE598.out) hb); have n3_:=am_ (hbox); have n4_:=am_ ((bs2_ hg HB.out GE597.out GE598.out:w.heap.size ≤ gb599)); have n5_:=am_ ((bs2_ hg HB.out GE597.out GE598.out:w.heap.size ≤ gb599)); have n6_:=am_ ((nl_ hg BK597.out:gb597 ≠ gb599)); have n7_:=am_ ((ng_ hg BK597.out:gb599 ≠ gb597)); have n8_:=am_ ((nl_ hg BK598.out:gb598 ≠ gb599)); have n9_:=am_ ((ng_ hg BK598.out:gb599 ≠ gb598)); clear BK597; clear BK598; clear HB; have BK597:=n0_; have BK598:=n1_; have HB:=n2_; have BK599:=n3_; have GW599:=n4_; have GE599:=n5_; have NB597_599:=n6_; have NB599_597:=n7_; have NB598_599:=n8_; have NB599_598:=n9_; clear n0_ n1_ n2_ n3_ n4_ n5_ n6_ n7_ n8_ n9_; clear hb hbox hg))
   have n0_:=am_ (blk_drew BK597.out)
   have n1_:=am_ (blk_drew BK598.out)
   have n2_:=am_ (blk_drew BK599.out)
   have n3_:=am_ (below_drew1 HB.out)
   clear BK597
   clear BK598
   clear BK599
   clear HB
   have BK597:=n0_
   have BK598:=n1_
   have BK599:=n2_
   have HB:=n3_
   clear n0_ n1_ n2_ n3_
   refine start_ (n:=20) (S:=fun w' => w'.cell? ⟨gb598,0,none⟩ = some (.int .i64 a1_0) ∧ w'.cell? ⟨gb598,1,none⟩ = some (.int .i64 a1_1)) (ds:=[]) #[Ff,Ff,Ff,Ff,Ff,Ff,Ff,Ff,Ff,Ff,Ff,Ff,Ff,Ff,Ff,Ff,Ff,Ff,Ff,Ff] (by kernel_rfl) rfl rfl ⟨(bc_ BK598.out 0).trans rfl,(bc_ BK598.out 1).trans rfl⟩ (fun hHeld => ?_); refine with_tabW spec_liNext.tab3 spec_liNext.bits3 (fun HT_ HW_ => ?_)
   generalize w16.drew = w17 at BK597 BK598 BK599 HB hHeld ⊢
   refine pZ (i:=0) (N:=some 11) #[Tt,Ff,Ff,Ff,Ff,Ff,Ff,Ff,Ff,Ff,Ff,Ff,Ff,Ff,Ff,Ff,Ff,Ff,Ff,Ff] ?_
   refine pZ (i:=2) (N:=some 13) #[Tt,Ff,Tt,Ff,Ff,Ff,Ff,Ff,Ff,Ff,Ff,Ff,Ff,Ff,Ff,Ff,Ff,Ff,Ff,Ff] ?_
   refine pZ (i:=6) (N:=some 17) #[Tt,Ff,Tt,Ff,Ff,Ff,Tt,Ff,Ff,Ff,Ff,Ff,Ff,Ff,Ff,Ff,Ff,Ff,Ff,Ff] ?_
   refine tZ (i:=1) (N:=some 12) #[Tt,Tt,Tt,Ff,Ff,Ff,Tt,Ff,Ff,Ff,Ff,Ff,Ff,Ff,Ff,Ff,Ff,Ff,Ff,Ff] ?_
   refine tZ (i:=3) (N:=some 14) #[Tt,Tt,Tt,Tt,Ff,Ff,Tt,Ff,Ff,Ff,Ff,Ff,Ff,Ff,Ff,Ff,Ff,Ff,Ff,Ff] ?_
   refine pZ (i:=4) (N:=some 15) #[Tt,Tt,Tt,Tt,Tt,Ff,Tt,Ff,Ff,Ff,Ff,Ff,Ff,Ff,Ff,Ff,Ff,Ff,Ff,Ff] ?_
   refine pZ (i:=5) (N:=some 16) #[Tt,Tt,Tt,Tt,Tt,Tt,Tt,Ff,Ff,Ff,Ff,Ff,Ff,Ff,Ff,Ff,Ff,Ff,Ff,Ff] ?_
   refine tZ (i:=7) (N:=some 18) #[Tt,Tt,Tt,Tt,Tt,Tt,Tt,Tt,Ff,Ff,Ff,Ff,Ff,Ff,Ff,Ff,Ff,Ff,Ff,Ff] ?_
   refine pZ (i:=8) (N:=some 19) #[Tt,Tt,Tt,Tt,Tt,Tt,Tt,Tt,Tt,Ff,Ff,Ff,Ff,Ff,Ff,Ff,Ff,Ff,Ff,Ff] ?_
   refine pZ (i:=9) (N:=some 20) #[Tt,Tt,Tt,Tt,Tt,Tt,Tt,Tt,Tt,Tt,Ff,Ff,Ff,Ff,Ff,Ff,Ff,Ff,Ff,Ff] ?_
   refine pU (i:=10) (N:=some 21) #[Tt,Tt,Tt,Tt,Tt,Tt,Tt,Tt,Tt,Tt,Tt,Ff,Ff,Ff,Ff,Ff,Ff,Ff,Ff,Ff] ?_
   refine pU (i:=11) (N:=some 22) #[Tt,Tt,Tt,Tt,Tt,Tt,Tt,Tt,Tt,Tt,Tt,Tt,Ff,Ff,Ff,Ff,Ff,Ff,Ff,Ff] ?_
   refine pU (i:=12) (N:=some 23) #[Tt,Tt,Tt,Tt,Tt,Tt,Tt,Tt,Tt,Tt,Tt,Tt,Tt,Ff,Ff,Ff,Ff,Ff,Ff,Ff] ?_
   refine pU (i:=13) (N:=some 24) #[Tt,Tt,Tt,Tt,Tt,Tt,Tt,Tt,Tt,Tt,Tt,Tt,Tt,Tt,Ff,Ff,Ff,Ff,Ff,Ff] ?_
   refine pU (i:=14) (N:=some 25) #[Tt,Tt,Tt,Tt,Tt,Tt,Tt,Tt,Tt,Tt,Tt,Tt,Tt,Tt,Tt,Ff,Ff,Ff,Ff,Ff] ?_
   refine pU (i:=15) (N:=some 26) #[Tt,Tt,Tt,Tt,Tt,Tt,Tt,Tt,Tt,Tt,Tt,Tt,Tt,Tt,Tt,Tt,Ff,Ff,Ff,Ff] ?_
   refine pU (i:=16) (N:=some 27) #[Tt,Tt,Tt,Tt,Tt,Tt,Tt,Tt,Tt,Tt,Tt,Tt,Tt,Tt,Tt,Tt,Tt,Ff,Ff,Ff] ?_
   refine pZ (i:=17) (N:=some 28) #[Tt,Tt,Tt,Tt,Tt,Tt,Tt,Tt,Tt,Tt,Tt,Tt,Tt,Tt,Tt,Tt,Tt,Tt,Ff,Ff] ?_
   refine one_ (i:=18) (N:=none) #[Tt,Tt,Tt,Tt,Tt,Tt,Tt,Tt,Tt,Tt,Tt,Tt,Tt,Tt,Tt,Tt,Tt,Tt,Tt,Ff] rfl rfl (one_of HT_.out (by kernel_rfl)) (by decide) (fun K hK => ?_)
   have hs18:w17.cell? ⟨gb599,0,none⟩ = some (.int .i64 0):=(bc_ BK599.out 0).trans rfl
   have hfs18:=bz_ BK599.out 0
   have hns18_0:=NB597_599.out
   have hns18_1:=NB598_599.out
   have hms18_0:=NB599_597.out
   have hms18_1:=NB599_598.out
   have hs19:w17.cell? ⟨gb599,1,none⟩ = some (.int .i64 0):=(bc_ BK599.out 1).trans rfl
   have hfs19:=bz_ BK599.out 1
   have hns19_0:=NB597_599.out
   have hns19_1:=NB598_599.out
   have hms19_0:=NB599_597.out
   have hms19_1:=NB599_598.out
   refine skip_ (w1:=?_) (by rfl) rfl ?_ ?_
   rotate_left
   ·go_simp
    rfl
   refine hK.out _ _ ⟨((cell_far (p:=⟨gb599,_,none⟩) NB598_599.out _).trans (((cell_far (p:=⟨gb599,_,none⟩) NB598_599.out _).trans (hHeld.1)))),((cell_far (p:=⟨gb599,_,none⟩) NB598_599.out _).trans (((cell_far (p:=⟨gb599,_,none⟩) NB598_599.out _).trans (hHeld.2))))⟩ (fun hHeld => ?_)
   clear hK K
   refine pZ (i:=19) (N:=some 7) #[Tt,Tt,Tt,Tt,Tt,Tt,Tt,Tt,Tt,Tt,Tt,Tt,Tt,Tt,Tt,Tt,Tt,Tt,Tt,Tt] ?_
   refine done_ (done_of HT_.out (by kernel_rfl)) ?_
   try go_wp2
   refine bodyPost_ret (results_ct rfl _ _ gb599 84 #[.int .i64 a1_0,.int .i64 (wrap64 (a1_1 - 1))] (0,0) _ rfl (by (with_reducible repeat (first | refine blk_drewN ?_ _ | refine blk_drew ?_ | refine blk_alloc ?_ _)); refine blk_put (cs:=#[.int .i64 a1_0,.int .i64 0]) ?_ 1 _ rfl; (with_reducible repeat (first | refine blk_drewN ?_ _ | refine blk_drew ?_ | refine blk_alloc ?_ _)); refine blk_put (cs:=#[.int .i64 0,.int .i64 0]) ?_ 0 _ rfl; (with_reducible repeat (first | refine blk_drewN ?_ _ | refine blk_drew ?_ | refine blk_alloc ?_ _)); exact BK599.out) Tryd.underlying84 rfl (by kernel_rfl)) rfl ?_
   exact ⟨er_,bl3_ HB.out GE597.out GE598.out GE599.out⟩
 ·rw [if_neg c4] at H
  have c4b0:(a2 == 0) = false:=beq_eq_false_iff_ne.mpr c4
  have c4b1:(a2 != 0) = true:=bne_iff_ne.mpr c4
  by_cases c20:a2 = 1
  ·rw [if_pos c20] at H
   have c20b0:(a2 == 1) = true:=beq_iff_eq.mpr c20
   have c20b1:(a2 != 1) = false:=bne_eq_false_iff_eq.mpr c20
   clear c20
   by_cases c21:a1_0 < a0_0
   ·rw [if_pos c21] at H
    have c21b0:decide (a1_0 < a0_0) = true:=decide_eq_true c21
    clear c21
    replace H:=bi_ H
    obtain ⟨t601,A220,H⟩:=H
    replace H:(some (wrap64 (a1_0 + 1),a1_1,t601)) = some (r1,r2,r3):=H
    have A22:=am_ A220
    clear A220
    simp only [Option.some.injEq,Prod.mk.injEq] at H
    obtain ⟨rfl,rfl,rfl⟩:=H
    go_enter Tryd.func113,Tryd.ntmps113
    try go_wp2_with (first | ((with_reducible refine gate_dst (N:=3) rfl ?_); refine boxE_ (N:=3) (cs:=#[.int .i64 a0_0,.int .i64 a0_1,.slice A0_2 l0_2.length c0_2,.slice A0_3 l0_3.length c0_3]) (t:=36) ?_; intro gb597 hg w23 hbox hb; have n0_:=am_ (below_step (bl0_ HB.out) hb); have n1_:=am_ (hbox); have n2_:=am_ ((bs0_ hg HB.out:w.heap.size ≤ gb597)); have n3_:=am_ ((bs0_ hg HB.out:w.heap.size ≤ gb597)); clear HB; have HB:=n0_; have BK597:=n1_; have GW597:=n2_; have GE597:=n3_; clear n0_ n1_ n2_ n3_; clear hb hbox hg) | ((with_reducible refine gate_dst (N:=4) rfl ?_); refine boxE_ (N:=4) (cs:=#[.int .i64 a1_0,.int .i64 a1_1]) (t:=84) ?_; intro gb598 hg w24 hbox hb; have n0_:=am_ (bb_ BK597.out hb); have n1_:=am_ (below_step (bl1_ HB.out GE597.out) hb); have n2_:=am_ (hbox); have n3_:=am_ ((bs1_ hg HB.out GE597.out:w.heap.size ≤ gb598)); have n4_:=am_ ((bs1_ hg HB.out GE597.out:w.heap.size ≤ gb598)); have n5_:=am_ ((nl_ hg BK597.out:gb597 ≠ gb598)); have n6_:=am_ ((ng_ hg BK597.out:gb598 ≠ gb597)); clear BK597; clear HB; have BK597:=n0_; have HB:=n1_; have BK598:=n2_; have GW598:=n3_; have GE598:=n4_; have NB597_598:=n5_; have NB598_597:=n6_; clear n0_ n1_ n2_ n3_ n4_ n5_ n6_; clear hb hbox hg) | ((with_reducible refine gate_dst (N:=6) rfl ?_); refine boxE_ (N:=6) (cs:=#[.int .i64 0,.int .i64 0]) (t:=84) ?_; intro gb599 hg w25 hbox hb; have n0_:=am_ (bb_ BK597.out hb); have n1_:=am_ (bb_ BK598.out hb); have n2_:=am_ (below_step (bl2_ HB.out GE597.out GE598.out) hb); have n3_:=am_ (hbox); have n4_:=am_ ((bs2_ hg HB.out GE597.out GE598.out:w.heap.size ≤ gb599)); have n5_:=am_ ((bs2_ hg HB.out GE597.out GE598.out:w.heap.size ≤ gb599)); have n6_:=am_ ((nl_ hg BK597.out:gb597 ≠ gb599)); have n7_:=am_ ((ng_ hg BK597.out:gb599 ≠ gb597)); have n8_:=am_ ((nl_ hg BK598.out:gb598 ≠ gb599)); have n9_:=am_ ((ng_ hg BK598.out:gb599 ≠ gb598)); clear BK597; clear BK598; clear HB; have BK597:=n0_; have BK598:=n1_; have HB:=n2_; have BK599:=n3_; have GW599:=n4_; have GE599:=n5_; have NB597_599:=n6_; have NB599_597:=n7_; have NB598_599:=n8_; have NB599_598:=n9_; clear n0_ n1_ n2_ n3_ n4_ n5_ n6_ n7_ n8_ n9_; clear hb hbox hg))
    have n0_:=am_ (blk_drew BK597.out)
    have n1_:=am_ (blk_drew BK598.out)
    have n2_:=am_ (blk_drew BK599.out)
    have n3_:=am_ (below_drew1 HB.out)
    clear BK597
    clear BK598
    clear BK599
    clear HB
    have BK597:=n0_
    have BK598:=n1_
    have BK599:=n2_
    have HB:=n3_
    clear n0_ n1_ n2_ n3_
    refine start_ (n:=21) (S:=fun w' => w'.cell? ⟨gb598,0,none⟩ = some (.int .i64 a1_0) ∧ w'.cell? ⟨gb598,1,none⟩ = some (.int .i64 a1_1) ∧ w'.cell? ⟨gb597,0,none⟩ = some (.int .i64 a0_0) ∧ w'.cell? ⟨gb597,1,none⟩ = some (.int .i64 a0_1) ∧ w'.cell? ⟨gb597,2,none⟩ = some (.slice A0_2 l0_2.length c0_2) ∧ w'.cell? ⟨gb597,3,none⟩ = some (.slice A0_3 l0_3.length c0_3)) (ds:=[]) #[Ff,Ff,Ff,Ff,Ff,Ff,Ff,Ff,Ff,Ff,Ff,Ff,Ff,Ff,Ff,Ff,Ff,Ff,Ff,Ff,Ff] (by kernel_rfl) rfl rfl ⟨(bc_ BK598.out 0).trans rfl,(bc_ BK598.out 1).trans rfl,(bc_ BK597.out 0).trans rfl,(bc_ BK597.out 1).trans rfl,(bc_ BK597.out 2).trans rfl,(bc_ BK597.out 3).trans rfl⟩ (fun hHeld => ?_); refine with_tabW spec_liNext.tab5 spec_liNext.bits5 (fun HT_ HW_ => ?_)
    generalize w25.drew = w26 at BK597 BK598 BK599 HB hHeld ⊢
    refine pZ (i:=0) (N:=some 31) #[Tt,Ff,Ff,Ff,Ff,Ff,Ff,Ff,Ff,Ff,Ff,Ff,Ff,Ff,Ff,Ff,Ff,Ff,Ff,Ff,Ff] ?_
    refine pZ (i:=3) (N:=some 34) #[Tt,Ff,Ff,Tt,Ff,Ff,Ff,Ff,Ff,Ff,Ff,Ff,Ff,Ff,Ff,Ff,Ff,Ff,Ff,Ff,Ff] ?_
    refine pZ (i:=6) (N:=some 37) #[Tt,Ff,Ff,Tt,Ff,Ff,Tt,Ff,Ff,Ff,Ff,Ff,Ff,Ff,Ff,Ff,Ff,Ff,Ff,Ff,Ff] ?_
    refine pZ (i:=8) (N:=some 39) #[Tt,Ff,Ff,Tt,Ff,Ff,Tt,Ff,Tt,Ff,Ff,Ff,Ff,Ff,Ff,Ff,Ff,Ff,Ff,Ff,Ff] ?_
    refine tZ (i:=1) (N:=some 32) #[Tt,Tt,Ff,Tt,Ff,Ff,Tt,Ff,Tt,Ff,Ff,Ff,Ff,Ff,Ff,Ff,Ff,Ff,Ff,Ff,Ff] ?_
    refine pZ (i:=2) (N:=some 33) #[Tt,Tt,Tt,Tt,Ff,Ff,Tt,Ff,Tt,Ff,Ff,Ff,Ff,Ff,Ff,Ff,Ff,Ff,Ff,Ff,Ff] ?_
    refine tZ (i:=4) (N:=some 35) #[Tt,Tt,Tt,Tt,Tt,Ff,Tt,Ff,Tt,Ff,Ff,Ff,Ff,Ff,Ff,Ff,Ff,Ff,Ff,Ff,Ff] ?_
    refine pZ (i:=5) (N:=some 36) #[Tt,Tt,Tt,Tt,Tt,Tt,Tt,Ff,Tt,Ff,Ff,Ff,Ff,Ff,Ff,Ff,Ff,Ff,Ff,Ff,Ff] ?_
    refine tZ (i:=7) (N:=some 38) #[Tt,Tt,Tt,Tt,Tt,Tt,Tt,Tt,Tt,Ff,Ff,Ff,Ff,Ff,Ff,Ff,Ff,Ff,Ff,Ff,Ff] ?_
    refine tZ (i:=9) (N:=some 40) #[Tt,Tt,Tt,Tt,Tt,Tt,Tt,Tt,Tt,Tt,Ff,Ff,Ff,Ff,Ff,Ff,Ff,Ff,Ff,Ff,Ff] ?_
    refine pZ (i:=10) (N:=some 41) #[Tt,Tt,Tt,Tt,Tt,Tt,Tt,Tt,Tt,Tt,Tt,Ff,Ff,Ff,Ff,Ff,Ff,Ff,Ff,Ff,Ff] ?_
    refine pZ (i:=11) (N:=some 42) #[Tt,Tt,Tt,Tt,Tt,Tt,Tt,Tt,Tt,Tt,Tt,Tt,Ff,Ff,Ff,Ff,Ff,Ff,Ff,Ff,Ff] ?_
    refine pZ (i:=13) (N:=some 44) #[Tt,Tt,Tt,Tt,Tt,Tt,Tt,Tt,Tt,Tt,Tt,Tt,Ff,Tt,Ff,Ff,Ff,Ff,Ff,Ff,Ff] ?_
    refine pZ (i:=15) (N:=some 46) #[Tt,Tt,Tt,Tt,Tt,Tt,Tt,Tt,Tt,Tt,Tt,Tt,Ff,Tt,Ff,Tt,Ff,Ff,Ff,Ff,Ff] ?_
    refine tZ (i:=12) (N:=some 43) #[Tt,Tt,Tt,Tt,Tt,Tt,Tt,Tt,Tt,Tt,Tt,Tt,Tt,Tt,Ff,Tt,Ff,Ff,Ff,Ff,Ff] ?_
    refine tZ (i:=14) (N:=some 45) #[Tt,Tt,Tt,Tt,Tt,Tt,Tt,Tt,Tt,Tt,Tt,Tt,Tt,Tt,Tt,Tt,Ff,Ff,Ff,Ff,Ff] ?_
    refine tZ (i:=16) (N:=some 47) #[Tt,Tt,Tt,Tt,Tt,Tt,Tt,Tt,Tt,Tt,Tt,Tt,Tt,Tt,Tt,Tt,Tt,Ff,Ff,Ff,Ff] ?_
    refine one_ (i:=17) (N:=some 48) #[Tt,Tt,Tt,Tt,Tt,Tt,Tt,Tt,Tt,Tt,Tt,Tt,Tt,Tt,Tt,Tt,Tt,Tt,Ff,Ff,Ff] rfl rfl (one_of HT_.out (by kernel_rfl)) (by decide) (fun K hK => ?_)
    refine goes_ Tryd.func122 (by kernel_rfl) rfl #[.agg #[.int .i64 a0_0,.int .i64 a0_1,.slice A0_2 l0_2.length c0_2,.slice A0_3 l0_3.length c0_3],.bool false,.int .i64 a1_0,.int .i64 a1_1] (by rfl) rfl rfl ob_ ?_
    with_reducible refine (spec_fiHas.calls k a0_0 a0_1 _ _ l0_2 _ _ l0_3 false a1_0 a1_1 t601 _ ?side1 ?side2 ?side3 ?side4 A22.out).mono ?_
    (case side1 => exact kc_ (Kd.C_below HR0_2.out HB.out))
    (case side2 => exact HC0_2.out)
    (case side3 => exact kc_ (Kd.C_below HR0_3.out HB.out))
    (case side4 => exact HC0_3.out)
    rintro e w27 ⟨rfl,hb⟩
    refine ⟨_,rfl,?_⟩
    have n0_:=am_ (bb_ BK597.out hb)
    have n1_:=am_ (bb_ BK598.out hb)
    have n2_:=am_ (bb_ BK599.out hb)
    have n3_:=am_ (below_step (bl3_ HB.out GE597.out GE598.out GE599.out) hb)
    clear BK597
    clear BK598
    clear BK599
    clear HB
    have BK597:=n0_
    have BK598:=n1_
    have BK599:=n2_
    have HB:=n3_
    clear n0_ n1_ n2_ n3_
    (try clear hb)
    (try clear hb2)
    (try clear hk)
    (try clear hi)
    refine hK.out _ _ ⟨(bc_ BK598.out 0).trans rfl,(bc_ BK598.out 1).trans rfl,(bc_ BK597.out 0).trans rfl,(bc_ BK597.out 1).trans rfl,(bc_ BK597.out 2).trans rfl,(bc_ BK597.out 3).trans rfl⟩ (fun hHeld => ?_)
    clear hK K
    refine norm_ (a':=_) ap_ ?_
    refine pZ (i:=18) (N:=some 49) #[Tt,Tt,Tt,Tt,Tt,Tt,Tt,Tt,Tt,Tt,Tt,Tt,Tt,Tt,Tt,Tt,Tt,Tt,Tt,Ff,Ff] ?_
    refine one_ (i:=19) (N:=none) #[Tt,Tt,Tt,Tt,Tt,Tt,Tt,Tt,Tt,Tt,Tt,Tt,Tt,Tt,Tt,Tt,Tt,Tt,Tt,Tt,Ff] rfl rfl (one_of HT_.out (by kernel_rfl)) (by decide) (fun K hK => ?_)
    have hs28:w27.cell? ⟨gb599,0,none⟩ = some (.int .i64 0):=(bc_ BK599.out 0).trans rfl
    have hfs28:=bz_ BK599.out 0
    have hns28_0:=NB597_599.out
    have hns28_1:=NB598_599.out
    have hms28_0:=NB599_597.out
    have hms28_1:=NB599_598.out
    have hs29:w27.cell? ⟨gb599,1,none⟩ = some (.int .i64 0):=(bc_ BK599.out 1).trans rfl
    have hfs29:=bz_ BK599.out 1
    have hns29_0:=NB597_599.out
    have hns29_1:=NB598_599.out
    have hms29_0:=NB599_597.out
    have hms29_1:=NB599_598.out
    refine skip_ (w1:=?_) (by rfl) rfl ?_ ?_
    rotate_left
    ·go_simp
     rfl
    refine hK.out _ _ ⟨((cell_far (p:=⟨gb599,_,none⟩) NB598_599.out _).trans (((cell_far (p:=⟨gb599,_,none⟩) NB598_599.out _).trans (hHeld.1)))),((cell_far (p:=⟨gb599,_,none⟩) NB598_599.out _).trans (((cell_far (p:=⟨gb599,_,none⟩) NB598_599.out _).trans (hHeld.2.1)))),((cell_far (p:=⟨gb599,_,none⟩) NB597_599.out _).trans (((cell_far (p:=⟨gb599,_,none⟩) NB597_599.out _).trans (hHeld.2.2.1)))),((cell_far (p:=⟨gb599,_,none⟩) NB597_599.out _).trans (((cell_far (p:=⟨gb599,_,none⟩) NB597_599.out _).trans (hHeld.2.2.2.1)))),((cell_far (p:=⟨gb599,_,none⟩) NB597_599.out _).trans (((cell_far (p:=⟨gb599,_,none⟩) NB597_599.out _).trans (hHeld.2.2.2.2.1)))),((cell_far (p:=⟨gb599,_,none⟩) NB597_599.out _).trans (((cell_far (p:=⟨gb599,_,none⟩) NB597_599.out _).trans (hHeld.2.2.2.2.2))))⟩ (fun hHeld => ?_)
    clear hK K
    refine pZ (i:=20) (N:=some 7) #[Tt,Tt,Tt,Tt,Tt,Tt,Tt,Tt,Tt,Tt,Tt,Tt,Tt,Tt,Tt,Tt,Tt,Tt,Tt,Tt,Tt] ?_
    refine done_ (done_of HT_.out (by kernel_rfl)) ?_
    try go_wp2
    refine bodyPost_ret (results_ct rfl _ _ gb599 84 #[.int .i64 (wrap64 (a1_0 + 1)),.int .i64 a1_1] (0,0) _ rfl (by (with_reducible repeat (first | refine blk_drewN ?_ _ | refine blk_drew ?_ | refine blk_alloc ?_ _)); refine blk_put (cs:=#[.int .i64 (wrap64 (a1_0 + 1)),.int .i64 0]) ?_ 1 _ rfl; (with_reducible repeat (first | refine blk_drewN ?_ _ | refine blk_drew ?_ | refine blk_alloc ?_ _)); refine blk_put (cs:=#[.int .i64 0,.int .i64 0]) ?_ 0 _ rfl; (with_reducible repeat (first | refine blk_drewN ?_ _ | refine blk_drew ?_ | refine blk_alloc ?_ _)); exact BK599.out) Tryd.underlying84 rfl (by kernel_rfl)) rfl ?_
    exact ⟨er_,bl3_ HB.out GE597.out GE598.out GE599.out⟩
   ·rw [if_neg c21] at H
    have c21b0:decide (a1_0 < a0_0) = false:=decide_eq_false c21
    clear c21
    simp only [Option.some.injEq,Prod.mk.injEq] at H
    obtain ⟨rfl,rfl,rfl⟩:=H
    go_enter Tryd.func113,Tryd.ntmps113
    try go_wp2_with (first | ((with_reducible refine gate_dst (N:=3) rfl ?_); refine boxE_ (N:=3) (cs:=#[.int .i64 a0_0,.int .i64 a0_1,.slice A0_2 l0_2.length c0_2,.slice A0_3 l0_3.length c0_3]) (t:=36) ?_; intro gb597 hg w30 hbox hb; have n0_:=am_ (below_step (bl0_ HB.out) hb); have n1_:=am_ (hbox); have n2_:=am_ ((bs0_ hg HB.out:w.heap.size ≤ gb597)); have n3_:=am_ ((bs0_ hg HB.out:w.heap.size ≤ gb597)); clear HB; have HB:=n0_; have BK597:=n1_; have GW597:=n2_; have GE597:=n3_; clear n0_ n1_ n2_ n3_; clear hb hbox hg) | ((with_reducible refine gate_dst (N:=4) rfl ?_); refine boxE_ (N:=4) (cs:=#[.int .i64 a1_0,.int .i64 a1_1]) (t:=84) ?_; intro gb598 hg w31 hbox hb; have n0_:=am_ (bb_ BK597.out hb); have n1_:=am_ (below_step (bl1_ HB.out GE597.out) hb); have n2_:=am_ (hbox); have n3_:=am_ ((bs1_ hg HB.out GE597.out:w.heap.size ≤ gb598)); have n4_:=am_ ((bs1_ hg HB.out GE597.out:w.heap.size ≤ gb598)); have n5_:=am_ ((nl_ hg BK597.out:gb597 ≠ gb598)); have n6_:=am_ ((ng_ hg BK597.out:gb598 ≠ gb597)); clear BK597; clear HB; have BK597:=n0_; have HB:=n1_; have BK598:=n2_; have GW598:=n3_; have GE598:=n4_; have NB597_598:=n5_; have NB598_597:=n6_; clear n0_ n1_ n2_ n3_ n4_ n5_ n6_; clear hb hbox hg) | ((with_reducible refine gate_dst (N:=6) rfl ?_); refine boxE_ (N:=6) (cs:=#[.int .i64 0,.int .i64 0]) (t:=84) ?_; intro gb599 hg w32 hbox hb; have n0_:=am_ (bb_ BK597.out hb); have n1_:=am_ (bb_ BK598.out hb); have n2_:=am_ (below_step (bl2_ HB.out GE597.out GE598.out) hb); have n3_:=am_ (hbox); have n4_:=am_ ((bs2_ hg HB.out GE597.out GE598.out:w.heap.size ≤ gb599)); have n5_:=am_ ((bs2_ hg HB.out GE597.out GE598.out:w.heap.size ≤ gb599)); have n6_:=am_ ((nl_ hg BK597.out:gb597 ≠ gb599)); have n7_:=am_ ((ng_ hg BK597.out:gb599 ≠ gb597)); have n8_:=am_ ((nl_ hg BK598.out:gb598 ≠ gb599)); have n9_:=am_ ((ng_ hg BK598.out:gb599 ≠ gb598)); clear BK597; clear BK598; clear HB; have BK597:=n0_; have BK598:=n1_; have HB:=n2_; have BK599:=n3_; have GW599:=n4_; have GE599:=n5_; have NB597_599:=n6_; have NB599_597:=n7_; have NB598_599:=n8_; have NB599_598:=n9_; clear n0_ n1_ n2_ n3_ n4_ n5_ n6_ n7_ n8_ n9_; clear hb hbox hg))
    have n0_:=am_ (blk_drew BK597.out)
    have n1_:=am_ (blk_drew BK598.out)
    have n2_:=am_ (blk_drew BK599.out)
    have n3_:=am_ (below_drew1 HB.out)
    clear BK597
    clear BK598
    clear BK599
    clear HB
    have BK597:=n0_
    have BK598:=n1_
    have BK599:=n2_
    have HB:=n3_
    clear n0_ n1_ n2_ n3_
    refine start_ (n:=21) (S:=fun w' => w'.cell? ⟨gb598,0,none⟩ = some (.int .i64 a1_0) ∧ w'.cell? ⟨gb598,1,none⟩ = some (.int .i64 a1_1) ∧ w'.cell? ⟨gb597,0,none⟩ = some (.int .i64 a0_0) ∧ w'.cell? ⟨gb597,1,none⟩ = some (.int .i64 a0_1) ∧ w'.cell? ⟨gb597,2,none⟩ = some (.slice A0_2 l0_2.length c0_2) ∧ w'.cell? ⟨gb597,3,none⟩ = some (.slice A0_3 l0_3.length c0_3)) (ds:=[]) #[Ff,Ff,Ff,Ff,Ff,Ff,Ff,Ff,Ff,Ff,Ff,Ff,Ff,Ff,Ff,Ff,Ff,Ff,Ff,Ff,Ff] (by kernel_rfl) rfl rfl ⟨(bc_ BK598.out 0).trans rfl,(bc_ BK598.out 1).trans rfl,(bc_ BK597.out 0).trans rfl,(bc_ BK597.out 1).trans rfl,(bc_ BK597.out 2).trans rfl,(bc_ BK597.out 3).trans rfl⟩ (fun hHeld => ?_); refine with_tabW spec_liNext.tab5 spec_liNext.bits5 (fun HT_ HW_ => ?_)
    generalize w32.drew = w33 at BK597 BK598 BK599 HB hHeld ⊢
    refine pZ (i:=0) (N:=some 31) #[Tt,Ff,Ff,Ff,Ff,Ff,Ff,Ff,Ff,Ff,Ff,Ff,Ff,Ff,Ff,Ff,Ff,Ff,Ff,Ff,Ff] ?_
    refine pZ (i:=3) (N:=some 34) #[Tt,Ff,Ff,Tt,Ff,Ff,Ff,Ff,Ff,Ff,Ff,Ff,Ff,Ff,Ff,Ff,Ff,Ff,Ff,Ff,Ff] ?_
    refine pZ (i:=6) (N:=some 37) #[Tt,Ff,Ff,Tt,Ff,Ff,Tt,Ff,Ff,Ff,Ff,Ff,Ff,Ff,Ff,Ff,Ff,Ff,Ff,Ff,Ff] ?_
    refine pZ (i:=8) (N:=some 39) #[Tt,Ff,Ff,Tt,Ff,Ff,Tt,Ff,Tt,Ff,Ff,Ff,Ff,Ff,Ff,Ff,Ff,Ff,Ff,Ff,Ff] ?_
    refine tZ (i:=1) (N:=some 32) #[Tt,Tt,Ff,Tt,Ff,Ff,Tt,Ff,Tt,Ff,Ff,Ff,Ff,Ff,Ff,Ff,Ff,Ff,Ff,Ff,Ff] ?_
    refine pZ (i:=2) (N:=some 33) #[Tt,Tt,Tt,Tt,Ff,Ff,Tt,Ff,Tt,Ff,Ff,Ff,Ff,Ff,Ff,Ff,Ff,Ff,Ff,Ff,Ff] ?_
    refine tZ (i:=4) (N:=some 35) #[Tt,Tt,Tt,Tt,Tt,Ff,Tt,Ff,Tt,Ff,Ff,Ff,Ff,Ff,Ff,Ff,Ff,Ff,Ff,Ff,Ff] ?_
    refine pZ (i:=5) (N:=some 36) #[Tt,Tt,Tt,Tt,Tt,Tt,Tt,Ff,Tt,Ff,Ff,Ff,Ff,Ff,Ff,Ff,Ff,Ff,Ff,Ff,Ff] ?_
    refine tZ (i:=7) (N:=some 38) #[Tt,Tt,Tt,Tt,Tt,Tt,Tt,Tt,Tt,Ff,Ff,Ff,Ff,Ff,Ff,Ff,Ff,Ff,Ff,Ff,Ff] ?_
    refine tZ (i:=9) (N:=some 40) #[Tt,Tt,Tt,Tt,Tt,Tt,Tt,Tt,Tt,Tt,Ff,Ff,Ff,Ff,Ff,Ff,Ff,Ff,Ff,Ff,Ff] ?_
    refine pZ (i:=10) (N:=some 41) #[Tt,Tt,Tt,Tt,Tt,Tt,Tt,Tt,Tt,Tt,Tt,Ff,Ff,Ff,Ff,Ff,Ff,Ff,Ff,Ff,Ff] ?_
    refine pZ (i:=11) (N:=some 42) #[Tt,Tt,Tt,Tt,Tt,Tt,Tt,Tt,Tt,Tt,Tt,Tt,Ff,Ff,Ff,Ff,Ff,Ff,Ff,Ff,Ff] ?_
    refine pU (i:=12) (N:=some 43) #[Tt,Tt,Tt,Tt,Tt,Tt,Tt,Tt,Tt,Tt,Tt,Tt,Tt,Ff,Ff,Ff,Ff,Ff,Ff,Ff,Ff] ?_
    refine pU (i:=13) (N:=some 44) #[Tt,Tt,Tt,Tt,Tt,Tt,Tt,Tt,Tt,Tt,Tt,Tt,Tt,Tt,Ff,Ff,Ff,Ff,Ff,Ff,Ff] ?_
    refine pU (i:=14) (N:=some 45) #[Tt,Tt,Tt,Tt,Tt,Tt,Tt,Tt,Tt,Tt,Tt,Tt,Tt,Tt,Tt,Ff,Ff,Ff,Ff,Ff,Ff] ?_
    refine pU (i:=15) (N:=some 46) #[Tt,Tt,Tt,Tt,Tt,Tt,Tt,Tt,Tt,Tt,Tt,Tt,Tt,Tt,Tt,Tt,Ff,Ff,Ff,Ff,Ff] ?_
    refine pU (i:=16) (N:=some 47) #[Tt,Tt,Tt,Tt,Tt,Tt,Tt,Tt,Tt,Tt,Tt,Tt,Tt,Tt,Tt,Tt,Tt,Ff,Ff,Ff,Ff] ?_
    refine pU (i:=17) (N:=some 48) #[Tt,Tt,Tt,Tt,Tt,Tt,Tt,Tt,Tt,Tt,Tt,Tt,Tt,Tt,Tt,Tt,Tt,Tt,Ff,Ff,Ff] ?_
    refine pZ (i:=18) (N:=some 49) #[Tt,Tt,Tt,Tt,Tt,Tt,Tt,Tt,Tt,Tt,Tt,Tt,Tt,Tt,Tt,Tt,Tt,Tt,Tt,Ff,Ff] ?_
    refine one_ (i:=19) (N:=none) #[Tt,Tt,Tt,Tt,Tt,Tt,Tt,Tt,Tt,Tt,Tt,Tt,Tt,Tt,Tt,Tt,Tt,Tt,Tt,Tt,Ff] rfl rfl (one_of HT_.out (by kernel_rfl)) (by decide) (fun K hK => ?_)
    have hs34:w33.cell? ⟨gb599,0,none⟩ = some (.int .i64 0):=(bc_ BK599.out 0).trans rfl
    have hfs34:=bz_ BK599.out 0
    have hns34_0:=NB597_599.out
    have hns34_1:=NB598_599.out
    have hms34_0:=NB599_597.out
    have hms34_1:=NB599_598.out
    have hs35:w33.cell? ⟨gb599,1,none⟩ = some (.int .i64 0):=(bc_ BK599.out 1).trans rfl
    have hfs35:=bz_ BK599.out 1
    have hns35_0:=NB597_599.out
    have hns35_1:=NB598_599.out
    have hms35_0:=NB599_597.out
    have hms35_1:=NB599_598.out
    refine skip_ (w1:=?_) (by rfl) rfl ?_ ?_
    rotate_left
    ·go_simp
     rfl
    refine hK.out _ _ ⟨((cell_far (p:=⟨gb599,_,none⟩) NB598_599.out _).trans (((cell_far (p:=⟨gb599,_,none⟩) NB598_599.out _).trans (hHeld.1)))),((cell_far (p:=⟨gb599,_,none⟩) NB598_599.out _).trans (((cell_far (p:=⟨gb599,_,none⟩) NB598_599.out _).trans (hHeld.2.1)))),((cell_far (p:=⟨gb599,_,none⟩) NB597_599.out _).trans (((cell_far (p:=⟨gb599,_,none⟩) NB597_599.out _).trans (hHeld.2.2.1)))),((cell_far (p:=⟨gb599,_,none⟩) NB597_599.out _).trans (((cell_far (p:=⟨gb599,_,none⟩) NB597_599.out _).trans (hHeld.2.2.2.1)))),((cell_far (p:=⟨gb599,_,none⟩) NB597_599.out _).trans (((cell_far (p:=⟨gb599,_,none⟩) NB597_599.out _).trans (hHeld.2.2.2.2.1)))),((cell_far (p:=⟨gb599,_,none⟩) NB597_599.out _).trans (((cell_far (p:=⟨gb599,_,none⟩) NB597_599.out _).trans (hHeld.2.2.2.2.2))))⟩ (fun hHeld => ?_)
    clear hK K
    refine pZ (i:=20) (N:=some 7) #[Tt,Tt,Tt,Tt,Tt,Tt,Tt,Tt,Tt,Tt,Tt,Tt,Tt,Tt,Tt,Tt,Tt,Tt,Tt,Tt,Tt] ?_
    refine done_ (done_of HT_.out (by kernel_rfl)) ?_
    try go_wp2
    refine bodyPost_ret (results_ct rfl _ _ gb599 84 #[.int .i64 (wrap64 (a1_0 + 1)),.int .i64 a1_1] (0,0) _ rfl (by (with_reducible repeat (first | refine blk_drewN ?_ _ | refine blk_drew ?_ | refine blk_alloc ?_ _)); refine blk_put (cs:=#[.int .i64 (wrap64 (a1_0 + 1)),.int .i64 0]) ?_ 1 _ rfl; (with_reducible repeat (first | refine blk_drewN ?_ _ | refine blk_drew ?_ | refine blk_alloc ?_ _)); refine blk_put (cs:=#[.int .i64 0,.int .i64 0]) ?_ 0 _ rfl; (with_reducible repeat (first | refine blk_drewN ?_ _ | refine blk_drew ?_ | refine blk_alloc ?_ _)); exact BK599.out) Tryd.underlying84 rfl (by kernel_rfl)) rfl ?_
    exact ⟨er_,bl3_ HB.out GE597.out GE598.out GE599.out⟩
  ·rw [if_neg c20] at H
   have c20b0:(a2 == 1) = false:=beq_eq_false_iff_ne.mpr c20
   have c20b1:(a2 != 1) = true:=bne_iff_ne.mpr c20
   by_cases c36:a2 = 2
   ·rw [if_pos c36] at H
    have c36b0:(a2 == 2) = true:=beq_iff_eq.mpr c36
    have c36b1:(a2 != 2) = false:=bne_eq_false_iff_eq.mpr c36
    clear c36
    by_cases c37:a1_1 < a0_1
    ·rw [if_pos c37] at H
     have c37b0:decide (a1_1 < a0_1) = true:=decide_eq_true c37
     clear c37
     replace H:=bi_ H
     obtain ⟨t602,A380,H⟩:=H
     replace H:(some (a1_0,wrap64 (a1_1 + 1),t602)) = some (r1,r2,r3):=H
     have A38:=am_ A380
     clear A380
     simp only [Option.some.injEq,Prod.mk.injEq] at H
     obtain ⟨rfl,rfl,rfl⟩:=H
     go_enter Tryd.func113,Tryd.ntmps113
     try go_wp2_with (first | ((with_reducible refine gate_dst (N:=3) rfl ?_); refine boxE_ (N:=3) (cs:=#[.int .i64 a0_0,.int .i64 a0_1,.slice A0_2 l0_2.length c0_2,.slice A0_3 l0_3.length c0_3]) (t:=36) ?_; intro gb597 hg w39 hbox hb; have n0_:=am_ (below_step (bl0_ HB.out) hb); have n1_:=am_ (hbox); have n2_:=am_ ((bs0_ hg HB.out:w.heap.size ≤ gb597)); have n3_:=am_ ((bs0_ hg HB.out:w.heap.size ≤ gb597)); clear HB; have HB:=n0_; have BK597:=n1_; have GW597:=n2_; have GE597:=n3_; clear n0_ n1_ n2_ n3_; clear hb hbox hg) | ((with_reducible refine gate_dst (N:=4) rfl ?_); refine boxE_ (N:=4) (cs:=#[.int .i64 a1_0,.int .i64 a1_1]) (t:=84) ?_; intro gb598 hg w40 hbox hb; have n0_:=am_ (bb_ BK597.out hb); have n1_:=am_ (below_step (bl1_ HB.out GE597.out) hb); have n2_:=am_ (hbox); have n3_:=am_ ((bs1_ hg HB.out GE597.out:w.heap.size ≤ gb598)); have n4_:=am_ ((bs1_ hg HB.out GE597.out:w.heap.size ≤ gb598)); have n5_:=am_ ((nl_ hg BK597.out:gb597 ≠ gb598)); have n6_:=am_ ((ng_ hg BK597.out:gb598 ≠ gb597)); clear BK597; clear HB; have BK597:=n0_; have HB:=n1_; have BK598:=n2_; have GW598:=n3_; have GE598:=n4_; have NB597_598:=n5_; have NB598_597:=n6_; clear n0_ n1_ n2_ n3_ n4_ n5_ n6_; clear hb hbox hg) | ((with_reducible refine gate_dst (N:=6) rfl ?_); refine boxE_ (N:=6) (cs:=#[.int .i64 0,.int .i64 0]) (t:=84) ?_; intro gb599 hg w41 hbox hb; have n0_:=am_ (bb_ BK597.out hb); have n1_:=am_ (bb_ BK598.out hb); have n2_:=am_ (below_step (bl2_ HB.out GE597.out GE598.out) hb); have n3_:=am_ (hbox); have n4_:=am_ ((bs2_ hg HB.out GE597.out GE598.out:w.heap.size ≤ gb599)); have n5_:=am_ ((bs2_ hg HB.out GE597.out GE598.out:w.heap.size ≤ gb599)); have n6_:=am_ ((nl_ hg BK597.out:gb597 ≠ gb599)); have n7_:=am_ ((ng_ hg BK597.out:gb599 ≠ gb597)); have n8_:=am_ ((nl_ hg BK598.out:gb598 ≠ gb599)); have n9_:=am_ ((ng_ hg BK598.out:gb599 ≠ gb598)); clear BK597; clear BK598; clear HB; have BK597:=n0_; have BK598:=n1_; have HB:=n2_; have BK599:=n3_; have GW599:=n4_; have GE599:=n5_; have NB597_599:=n6_; have NB599_597:=n7_; have NB598_599:=n8_; have NB599_598:=n9_; clear n0_ n1_ n2_ n3_ n4_ n5_ n6_ n7_ n8_ n9_; clear hb hbox hg))
     have n0_:=am_ (blk_drew BK597.out)
     have n1_:=am_ (blk_drew BK598.out)
     have n2_:=am_ (blk_drew BK599.out)
     have n3_:=am_ (below_drew1 HB.out)
     clear BK597
     clear BK598
     clear BK599
     clear HB
     have BK597:=n0_
     have BK598:=n1_
     have BK599:=n2_
     have HB:=n3_
     clear n0_ n1_ n2_ n3_
     refine start_ (n:=21) (S:=fun w' => w'.cell? ⟨gb598,0,none⟩ = some (.int .i64 a1_0) ∧ w'.cell? ⟨gb598,1,none⟩ = some (.int .i64 a1_1) ∧ w'.cell? ⟨gb597,0,none⟩ = some (.int .i64 a0_0) ∧ w'.cell? ⟨gb597,1,none⟩ = some (.int .i64 a0_1) ∧ w'.cell? ⟨gb597,2,none⟩ = some (.slice A0_2 l0_2.length c0_2) ∧ w'.cell? ⟨gb597,3,none⟩ = some (.slice A0_3 l0_3.length c0_3)) (ds:=[]) #[Ff,Ff,Ff,Ff,Ff,Ff,Ff,Ff,Ff,Ff,Ff,Ff,Ff,Ff,Ff,Ff,Ff,Ff,Ff,Ff,Ff] (by kernel_rfl) rfl rfl ⟨(bc_ BK598.out 0).trans rfl,(bc_ BK598.out 1).trans rfl,(bc_ BK597.out 0).trans rfl,(bc_ BK597.out 1).trans rfl,(bc_ BK597.out 2).trans rfl,(bc_ BK597.out 3).trans rfl⟩ (fun hHeld => ?_); refine with_tabW spec_liNext.tab7 spec_liNext.bits7 (fun HT_ HW_ => ?_)
     generalize w41.drew = w42 at BK597 BK598 BK599 HB hHeld ⊢
     refine pZ (i:=0) (N:=some 52) #[Tt,Ff,Ff,Ff,Ff,Ff,Ff,Ff,Ff,Ff,Ff,Ff,Ff,Ff,Ff,Ff,Ff,Ff,Ff,Ff,Ff] ?_
     refine pZ (i:=2) (N:=some 54) #[Tt,Ff,Tt,Ff,Ff,Ff,Ff,Ff,Ff,Ff,Ff,Ff,Ff,Ff,Ff,Ff,Ff,Ff,Ff,Ff,Ff] ?_
     refine pZ (i:=6) (N:=some 58) #[Tt,Ff,Tt,Ff,Ff,Ff,Tt,Ff,Ff,Ff,Ff,Ff,Ff,Ff,Ff,Ff,Ff,Ff,Ff,Ff,Ff] ?_
     refine pZ (i:=8) (N:=some 60) #[Tt,Ff,Tt,Ff,Ff,Ff,Tt,Ff,Tt,Ff,Ff,Ff,Ff,Ff,Ff,Ff,Ff,Ff,Ff,Ff,Ff] ?_
     refine tZ (i:=1) (N:=some 53) #[Tt,Tt,Tt,Ff,Ff,Ff,Tt,Ff,Tt,Ff,Ff,Ff,Ff,Ff,Ff,Ff,Ff,Ff,Ff,Ff,Ff] ?_
     refine tZ (i:=3) (N:=some 55) #[Tt,Tt,Tt,Tt,Ff,Ff,Tt,Ff,Tt,Ff,Ff,Ff,Ff,Ff,Ff,Ff,Ff,Ff,Ff,Ff,Ff] ?_
     refine pZ (i:=4) (N:=some 56) #[Tt,Tt,Tt,Tt,Tt,Ff,Tt,Ff,Tt,Ff,Ff,Ff,Ff,Ff,Ff,Ff,Ff,Ff,Ff,Ff,Ff] ?_
     refine pZ (i:=5) (N:=some 57) #[Tt,Tt,Tt,Tt,Tt,Tt,Tt,Ff,Tt,Ff,Ff,Ff,Ff,Ff,Ff,Ff,Ff,Ff,Ff,Ff,Ff] ?_
     refine tZ (i:=7) (N:=some 59) #[Tt,Tt,Tt,Tt,Tt,Tt,Tt,Tt,Tt,Ff,Ff,Ff,Ff,Ff,Ff,Ff,Ff,Ff,Ff,Ff,Ff] ?_
     refine tZ (i:=9) (N:=some 61) #[Tt,Tt,Tt,Tt,Tt,Tt,Tt,Tt,Tt,Tt,Ff,Ff,Ff,Ff,Ff,Ff,Ff,Ff,Ff,Ff,Ff] ?_
     refine pZ (i:=10) (N:=some 62) #[Tt,Tt,Tt,Tt,Tt,Tt,Tt,Tt,Tt,Tt,Tt,Ff,Ff,Ff,Ff,Ff,Ff,Ff,Ff,Ff,Ff] ?_
     refine pZ (i:=11) (N:=some 63) #[Tt,Tt,Tt,Tt,Tt,Tt,Tt,Tt,Tt,Tt,Tt,Tt,Ff,Ff,Ff,Ff,Ff,Ff,Ff,Ff,Ff] ?_
     refine pZ (i:=13) (N:=some 65) #[Tt,Tt,Tt,Tt,Tt,Tt,Tt,Tt,Tt,Tt,Tt,Tt,Ff,Tt,Ff,Ff,Ff,Ff,Ff,Ff,Ff] ?_
     refine pZ (i:=15) (N:=some 67) #[Tt,Tt,Tt,Tt,Tt,Tt,Tt,Tt,Tt,Tt,Tt,Tt,Ff,Tt,Ff,Tt,Ff,Ff,Ff,Ff,Ff] ?_
     refine tZ (i:=12) (N:=some 64) #[Tt,Tt,Tt,Tt,Tt,Tt,Tt,Tt,Tt,Tt,Tt,Tt,Tt,Tt,Ff,Tt,Ff,Ff,Ff,Ff,Ff] ?_
     refine tZ (i:=14) (N:=some 66) #[Tt,Tt,Tt,Tt,Tt,Tt,Tt,Tt,Tt,Tt,Tt,Tt,Tt,Tt,Tt,Tt,Ff,Ff,Ff,Ff,Ff] ?_
     refine tZ (i:=16) (N:=some 68) #[Tt,Tt,Tt,Tt,Tt,Tt,Tt,Tt,Tt,Tt,Tt,Tt,Tt,Tt,Tt,Tt,Tt,Ff,Ff,Ff,Ff] ?_
     refine one_ (i:=17) (N:=some 69) #[Tt,Tt,Tt,Tt,Tt,Tt,Tt,Tt,Tt,Tt,Tt,Tt,Tt,Tt,Tt,Tt,Tt,Tt,Ff,Ff,Ff] rfl rfl (one_of HT_.out (by kernel_rfl)) (by decide) (fun K hK => ?_)
     refine goes_ Tryd.func122 (by kernel_rfl) rfl #[.agg #[.int .i64 a0_0,.int .i64 a0_1,.slice A0_2 l0_2.length c0_2,.slice A0_3 l0_3.length c0_3],.bool true,.int .i64 a1_0,.int .i64 a1_1] (by rfl) rfl rfl ob_ ?_
     with_reducible refine (spec_fiHas.calls k a0_0 a0_1 _ _ l0_2 _ _ l0_3 true a1_0 a1_1 t602 _ ?side1 ?side2 ?side3 ?side4 A38.out).mono ?_
     (case side1 => exact kc_ (Kd.C_below HR0_2.out HB.out))
     (case side2 => exact HC0_2.out)
     (case side3 => exact kc_ (Kd.C_below HR0_3.out HB.out))
     (case side4 => exact HC0_3.out)
     rintro e w43 ⟨rfl,hb⟩
     refine ⟨_,rfl,?_⟩
     have n0_:=am_ (bb_ BK597.out hb)
     have n1_:=am_ (bb_ BK598.out hb)
     have n2_:=am_ (bb_ BK599.out hb)
     have n3_:=am_ (below_step (bl3_ HB.out GE597.out GE598.out GE599.out) hb)
     clear BK597
     clear BK598
     clear BK599
     clear HB
     have BK597:=n0_
     have BK598:=n1_
     have BK599:=n2_
     have HB:=n3_
     clear n0_ n1_ n2_ n3_
     (try clear hb)
     (try clear hb2)
     (try clear hk)
     (try clear hi)
     refine hK.out _ _ ⟨(bc_ BK598.out 0).trans rfl,(bc_ BK598.out 1).trans rfl,(bc_ BK597.out 0).trans rfl,(bc_ BK597.out 1).trans rfl,(bc_ BK597.out 2).trans rfl,(bc_ BK597.out 3).trans rfl⟩ (fun hHeld => ?_)
     clear hK K
     refine norm_ (a':=_) ap_ ?_
     refine pZ (i:=18) (N:=some 70) #[Tt,Tt,Tt,Tt,Tt,Tt,Tt,Tt,Tt,Tt,Tt,Tt,Tt,Tt,Tt,Tt,Tt,Tt,Tt,Ff,Ff] ?_
     refine one_ (i:=19) (N:=none) #[Tt,Tt,Tt,Tt,Tt,Tt,Tt,Tt,Tt,Tt,Tt,Tt,Tt,Tt,Tt,Tt,Tt,Tt,Tt,Tt,Ff] rfl rfl (one_of HT_.out (by kernel_rfl)) (by decide) (fun K hK => ?_)
     have hs44:w43.cell? ⟨gb599,0,none⟩ = some (.int .i64 0):=(bc_ BK599.out 0).trans rfl
     have hfs44:=bz_ BK599.out 0
     have hns44_0:=NB597_599.out
     have hns44_1:=NB598_599.out
     have hms44_0:=NB599_597.out
     have hms44_1:=NB599_598.out
     have hs45:w43.cell? ⟨gb599,1,none⟩ = some (.int .i64 0):=(bc_ BK599.out 1).trans rfl
     have hfs45:=bz_ BK599.out 1
     have hns45_0:=NB597_599.out
     have hns45_1:=NB598_599.out
     have hms45_0:=NB599_597.out
     have hms45_1:=NB599_598.out
     refine skip_ (w1:=?_) (by rfl) rfl ?_ ?_
     rotate_left
     ·go_simp
      rfl
     refine hK.out _ _ ⟨((cell_far (p:=⟨gb599,_,none⟩) NB598_599.out _).trans (((cell_far (p:=⟨gb599,_,none⟩) NB598_599.out _).trans (hHeld.1)))),((cell_far (p:=⟨gb599,_,none⟩) NB598_599.out _).trans (((cell_far (p:=⟨gb599,_,none⟩) NB598_599.out _).trans (hHeld.2.1)))),((cell_far (p:=⟨gb599,_,none⟩) NB597_599.out _).trans (((cell_far (p:=⟨gb599,_,none⟩) NB597_599.out _).trans (hHeld.2.2.1)))),((cell_far (p:=⟨gb599,_,none⟩) NB597_599.out _).trans (((cell_far (p:=⟨gb599,_,none⟩) NB597_599.out _).trans (hHeld.2.2.2.1)))),((cell_far (p:=⟨gb599,_,none⟩) NB597_599.out _).trans (((cell_far (p:=⟨gb599,_,none⟩) NB597_599.out _).trans (hHeld.2.2.2.2.1)))),((cell_far (p:=⟨gb599,_,none⟩) NB597_599.out _).trans (((cell_far (p:=⟨gb599,_,none⟩) NB597_599.out _).trans (hHeld.2.2.2.2.2))))⟩ (fun hHeld => ?_)
     clear hK K
     refine pZ (i:=20) (N:=some 7) #[Tt,Tt,Tt,Tt,Tt,Tt,Tt,Tt,Tt,Tt,Tt,Tt,Tt,Tt,Tt,Tt,Tt,Tt,Tt,Tt,Tt] ?_
     refine done_ (done_of HT_.out (by kernel_rfl)) ?_
     try go_wp2
     refine bodyPost_ret (results_ct rfl _ _ gb599 84 #[.int .i64 a1_0,.int .i64 (wrap64 (a1_1 + 1))] (0,0) _ rfl (by (with_reducible repeat (first | refine blk_drewN ?_ _ | refine blk_drew ?_ | refine blk_alloc ?_ _)); refine blk_put (cs:=#[.int .i64 a1_0,.int .i64 0]) ?_ 1 _ rfl; (with_reducible repeat (first | refine blk_drewN ?_ _ | refine blk_drew ?_ | refine blk_alloc ?_ _)); refine blk_put (cs:=#[.int .i64 0,.int .i64 0]) ?_ 0 _ rfl; (with_reducible repeat (first | refine blk_drewN ?_ _ | refine blk_drew ?_ | refine blk_alloc ?_ _)); exact BK599.out) Tryd.underlying84 rfl (by kernel_rfl)) rfl ?_
     exact ⟨er_,bl3_ HB.out GE597.out GE598.out GE599.out⟩
    ·rw [if_neg c37] at H
     have c37b0:decide (a1_1 < a0_1) = false:=decide_eq_false c37
     clear c37
     simp only [Option.some.injEq,Prod.mk.injEq] at H
     obtain ⟨rfl,rfl,rfl⟩:=H
     go_enter Tryd.func113,Tryd.ntmps113
     try go_wp2_with (first | ((with_reducible refine gate_dst (N:=3) rfl ?_); refine boxE_ (N:=3) (cs:=#[.int .i64 a0_0,.int .i64 a0_1,.slice A0_2 l0_2.length c0_2,.slice A0_3 l0_3.length c0_3]) (t:=36) ?_; intro gb597 hg w46 hbox hb; have n0_:=am_ (below_step (bl0_ HB.out) hb); have n1_:=am_ (hbox); have n2_:=am_ ((bs0_ hg HB.out:w.heap.size ≤ gb597)); have n3_:=am_ ((bs0_ hg HB.out:w.heap.size ≤ gb597)); clear HB; have HB:=n0_; have BK597:=n1_; have GW597:=n2_; have GE597:=n3_; clear n0_ n1_ n2_ n3_; clear hb hbox hg) | ((with_reducible refine gate_dst (N:=4) rfl ?_); refine boxE_ (N:=4) (cs:=#[.int .i64 a1_0,.int .i64 a1_1]) (t:=84) ?_; intro gb598 hg w47 hbox hb; have n0_:=am_ (bb_ BK597.out hb); have n1_:=am_ (below_step (bl1_ HB.out GE597.out) hb); have n2_:=am_ (hbox); have n3_:=am_ ((bs1_ hg HB.out GE597.out:w.heap.size ≤ gb598)); have n4_:=am_ ((bs1_ hg HB.out GE597.out:w.heap.size ≤ gb598)); have n5_:=am_ ((nl_ hg BK597.out:gb597 ≠ gb598)); have n6_:=am_ ((ng_ hg BK597.out:gb598 ≠ gb597)); clear BK597; clear HB; have BK597:=n0_; have HB:=n1_; have BK598:=n2_; have GW598:=n3_; have GE598:=n4_; have NB597_598:=n5_; have NB598_597:=n6_; clear n0_ n1_ n2_ n3_ n4_ n5_ n6_; clear hb hbox hg) | ((with_reducible refine gate_dst (N:=6) rfl ?_); refine boxE_ (N:=6) (cs:=#[.int .i64 0,.int .i64 0]) (t:=84) ?_; intro gb599 hg w48 hbox hb; have n0_:=am_ (bb_ BK597.out hb); have n1_:=am_ (bb_ BK598.out hb); have n2_:=am_ (below_step (bl2_ HB.out GE597.out GE598.out) hb); have n3_:=am_ (hbox); have n4_:=am_ ((bs2_ hg HB.out GE597.out GE598.out:w.heap.size ≤ gb599)); have n5_:=am_ ((bs2_ hg HB.out GE597.out GE598.out:w.heap.size ≤ gb599)); have n6_:=am_ ((nl_ hg BK597.out:gb597 ≠ gb599)); have n7_:=am_ ((ng_ hg BK597.out:gb599 ≠ gb597)); have n8_:=am_ ((nl_ hg BK598.out:gb598 ≠ gb599)); have n9_:=am_ ((ng_ hg BK598.out:gb599 ≠ gb598)); clear BK597; clear BK598; clear HB; have BK597:=n0_; have BK598:=n1_; have HB:=n2_; have BK599:=n3_; have GW599:=n4_; have GE599:=n5_; have NB597_599:=n6_; have NB599_597:=n7_; have NB598_599:=n8_; have NB599_598:=n9_; clear n0_ n1_ n2_ n3_ n4_ n5_ n6_ n7_ n8_ n9_; clear hb hbox hg))
     have n0_:=am_ (blk_drew BK597.out)
     have n1_:=am_ (blk_drew BK598.out)
     have n2_:=am_ (blk_drew BK599.out)
     have n3_:=am_ (below_drew1 HB.out)
     clear BK597
     clear BK598
     clear BK599
     clear HB
     have BK597:=n0_
     have BK598:=n1_
     have BK599:=n2_
     have HB:=n3_
     clear n0_ n1_ n2_ n3_
     refine start_ (n:=21) (S:=fun w' => w'.cell? ⟨gb598,0,none⟩ = some (.int .i64 a1_0) ∧ w'.cell? ⟨gb598,1,none⟩ = some (.int .i64 a1_1) ∧ w'.cell? ⟨gb597,0,none⟩ = some (.int .i64 a0_0) ∧ w'.cell? ⟨gb597,1,none⟩ = some (.int .i64 a0_1) ∧ w'.cell? ⟨gb597,2,none⟩ = some (.slice A0_2 l0_2.length c0_2) ∧ w'.cell? ⟨gb597,3,none⟩ = some (.slice A0_3 l0_3.length c0_3)) (ds:=[]) #[Ff,Ff,Ff,Ff,Ff,Ff,Ff,Ff,Ff,Ff,Ff,Ff,Ff,Ff,Ff,Ff,Ff,Ff,Ff,Ff,Ff] (by kernel_rfl) rfl rfl ⟨(bc_ BK598.out 0).trans rfl,(bc_ BK598.out 1).trans rfl,(bc_ BK597.out 0).trans rfl,(bc_ BK597.out 1).trans rfl,(bc_ BK597.out 2).trans rfl,(bc_ BK597.out 3).trans rfl⟩ (fun hHeld => ?_); refine with_tabW spec_liNext.tab7 spec_liNext.bits7 (fun HT_ HW_ => ?_)
     generalize w48.drew = w49 at BK597 BK598 BK599 HB hHeld ⊢
     refine pZ (i:=0) (N:=some 52) #[Tt,Ff,Ff,Ff,Ff,Ff,Ff,Ff,Ff,Ff,Ff,Ff,Ff,Ff,Ff,Ff,Ff,Ff,Ff,Ff,Ff] ?_
     refine pZ (i:=2) (N:=some 54) #[Tt,Ff,Tt,Ff,Ff,Ff,Ff,Ff,Ff,Ff,Ff,Ff,Ff,Ff,Ff,Ff,Ff,Ff,Ff,Ff,Ff] ?_
     refine pZ (i:=6) (N:=some 58) #[Tt,Ff,Tt,Ff,Ff,Ff,Tt,Ff,Ff,Ff,Ff,Ff,Ff,Ff,Ff,Ff,Ff,Ff,Ff,Ff,Ff] ?_
     refine pZ (i:=8) (N:=some 60) #[Tt,Ff,Tt,Ff,Ff,Ff,Tt,Ff,Tt,Ff,Ff,Ff,Ff,Ff,Ff,Ff,Ff,Ff,Ff,Ff,Ff] ?_
     refine tZ (i:=1) (N:=some 53) #[Tt,Tt,Tt,Ff,Ff,Ff,Tt,Ff,Tt,Ff,Ff,Ff,Ff,Ff,Ff,Ff,Ff,Ff,Ff,Ff,Ff] ?_
     refine tZ (i:=3) (N:=some 55) #[Tt,Tt,Tt,Tt,Ff,Ff,Tt,Ff,Tt,Ff,Ff,Ff,Ff,Ff,Ff,Ff,Ff,Ff,Ff,Ff,Ff] ?_
     refine pZ (i:=4) (N:=some 56) #[Tt,Tt,Tt,Tt,Tt,Ff,Tt,Ff,Tt,Ff,Ff,Ff,Ff,Ff,Ff,Ff,Ff,Ff,Ff,Ff,Ff] ?_
     refine pZ (i:=5) (N:=some 57) #[Tt,Tt,Tt,Tt,Tt,Tt,Tt,Ff,Tt,Ff,Ff,Ff,Ff,Ff,Ff,Ff,Ff,Ff,Ff,Ff,Ff] ?_
     refine tZ (i:=7) (N:=some 59) #[Tt,Tt,Tt,Tt,Tt,Tt,Tt,Tt,Tt,Ff,Ff,Ff,Ff,Ff,Ff,Ff,Ff,Ff,Ff,Ff,Ff] ?_
     refine tZ (i:=9) (N:=some 61) #[Tt,Tt,Tt,Tt,Tt,Tt,Tt,Tt,Tt,Tt,Ff,Ff,Ff,Ff,Ff,Ff,Ff,Ff,Ff,Ff,Ff] ?_
     refine pZ (i:=10) (N:=some 62) #[Tt,Tt,Tt,Tt,Tt,Tt,Tt,Tt,Tt,Tt,Tt,Ff,Ff,Ff,Ff,Ff,Ff,Ff,Ff,Ff,Ff] ?_
     refine pZ (i:=11) (N:=some 63) #[Tt,Tt,Tt,Tt,Tt,Tt,Tt,Tt,Tt,Tt,Tt,Tt,Ff,Ff,Ff,Ff,Ff,Ff,Ff,Ff,Ff] ?_
     refine pU (i:=12) (N:=some 64) #[Tt,Tt,Tt,Tt,Tt,Tt,Tt,Tt,Tt,Tt,Tt,Tt,Tt,Ff,Ff,Ff,Ff,Ff,Ff,Ff,Ff] ?_
     refine pU (i:=13) (N:=some 65) #[Tt,Tt,Tt,Tt,Tt,Tt,Tt,Tt,Tt,Tt,Tt,Tt,Tt,Tt,Ff,Ff,Ff,Ff,Ff,Ff,Ff] ?_
     refine pU (i:=14) (N:=some 66) #[Tt,Tt,Tt,Tt,Tt,Tt,Tt,Tt,Tt,Tt,Tt,Tt,Tt,Tt,Tt,Ff,Ff,Ff,Ff,Ff,Ff] ?_
     refine pU (i:=15) (N:=some 67) #[Tt,Tt,Tt,Tt,Tt,Tt,Tt,Tt,Tt,Tt,Tt,Tt,Tt,Tt,Tt,Tt,Ff,Ff,Ff,Ff,Ff] ?_
     refine pU (i:=16) (N:=some 68) #[Tt,Tt,Tt,Tt,Tt,Tt,Tt,Tt,Tt,Tt,Tt,Tt,Tt,Tt,Tt,Tt,Tt,Ff,Ff,Ff,Ff] ?_
     refine pU (i:=17) (N:=some 69) #[Tt,Tt,Tt,Tt,Tt,Tt,Tt,Tt,Tt,Tt,Tt,Tt,Tt,Tt,Tt,Tt,Tt,Tt,Ff,Ff,Ff] ?_
     refine pZ (i:=18) (N:=some 70) #[Tt,Tt,Tt,Tt,Tt,Tt,Tt,Tt,Tt,Tt,Tt,Tt,Tt,Tt,Tt,Tt,Tt,Tt,Tt,Ff,Ff] ?_
     refine one_ (i:=19) (N:=none) #[Tt,Tt,Tt,Tt,Tt,Tt,Tt,Tt,Tt,Tt,Tt,Tt,Tt,Tt,Tt,Tt,Tt,Tt,Tt,Tt,Ff] rfl rfl (one_of HT_.out (by kernel_rfl)) (by decide) (fun K hK => ?_)
     have hs50:w49.cell? ⟨gb599,0,none⟩ = some (.int .i64 0):=(bc_ BK599.out 0).trans rfl
     have hfs50:=bz_ BK599.out 0
     have hns50_0:=NB597_599.out
     have hns50_1:=NB598_599.out
     have hms50_0:=NB599_597.out
     have hms50_1:=NB599_598.out
     have hs51:w49.cell? ⟨gb599,1,none⟩ = some (.int .i64 0):=(bc_ BK599.out 1).trans rfl
     have hfs51:=bz_ BK599.out 1
     have hns51_0:=NB597_599.out
     have hns51_1:=NB598_599.out
     have hms51_0:=NB599_597.out
     have hms51_1:=NB599_598.out
     refine skip_ (w1:=?_) (by rfl) rfl ?_ ?_
     rotate_left
     ·go_simp
      rfl
     refine hK.out _ _ ⟨((cell_far (p:=⟨gb599,_,none⟩) NB598_599.out _).trans (((cell_far (p:=⟨gb599,_,none⟩) NB598_599.out _).trans (hHeld.1)))),((cell_far (p:=⟨gb599,_,none⟩) NB598_599.out _).trans (((cell_far (p:=⟨gb599,_,none⟩) NB598_599.out _).trans (hHeld.2.1)))),((cell_far (p:=⟨gb599,_,none⟩) NB597_599.out _).trans (((cell_far (p:=⟨gb599,_,none⟩) NB597_599.out _).trans (hHeld.2.2.1)))),((cell_far (p:=⟨gb599,_,none⟩) NB597_599.out _).trans (((cell_far (p:=⟨gb599,_,none⟩) NB597_599.out _).trans (hHeld.2.2.2.1)))),((cell_far (p:=⟨gb599,_,none⟩) NB597_599.out _).trans (((cell_far (p:=⟨gb599,_,none⟩) NB597_599.out _).trans (hHeld.2.2.2.2.1)))),((cell_far (p:=⟨gb599,_,none⟩) NB597_599.out _).trans (((cell_far (p:=⟨gb599,_,none⟩) NB597_599.out _).trans (hHeld.2.2.2.2.2))))⟩ (fun hHeld => ?_)
     clear hK K
     refine pZ (i:=20) (N:=some 7) #[Tt,Tt,Tt,Tt,Tt,Tt,Tt,Tt,Tt,Tt,Tt,Tt,Tt,Tt,Tt,Tt,Tt,Tt,Tt,Tt,Tt] ?_
     refine done_ (done_of HT_.out (by kernel_rfl)) ?_
     try go_wp2
     refine bodyPost_ret (results_ct rfl _ _ gb599 84 #[.int .i64 a1_0,.int .i64 (wrap64 (a1_1 + 1))] (0,0) _ rfl (by (with_reducible repeat (first | refine blk_drewN ?_ _ | refine blk_drew ?_ | refine blk_alloc ?_ _)); refine blk_put (cs:=#[.int .i64 a1_0,.int .i64 0]) ?_ 1 _ rfl; (with_reducible repeat (first | refine blk_drewN ?_ _ | refine blk_drew ?_ | refine blk_alloc ?_ _)); refine blk_put (cs:=#[.int .i64 0,.int .i64 0]) ?_ 0 _ rfl; (with_reducible repeat (first | refine blk_drewN ?_ _ | refine blk_drew ?_ | refine blk_alloc ?_ _)); exact BK599.out) Tryd.underlying84 rfl (by kernel_rfl)) rfl ?_
     exact ⟨er_,bl3_ HB.out GE597.out GE598.out GE599.out⟩
   ·rw [if_neg c36] at H
    have c36b0:(a2 == 2) = false:=beq_eq_false_iff_ne.mpr c36
    have c36b1:(a2 != 2) = true:=bne_iff_ne.mpr c36
    by_cases c52:a1_0 > 0
    ·rw [if_pos c52] at H
     have c52b0:decide (0 < a1_0) = true:=decide_eq_true c52
     clear c52
     replace H:=bi_ H
     obtain ⟨t603,A530,H⟩:=H
     replace H:(some (wrap64 (a1_0 - 1),a1_1,t603)) = some (r1,r2,r3):=H
     have A53:=am_ A530
     clear A530
     simp only [Option.some.injEq,Prod.mk.injEq] at H
     obtain ⟨rfl,rfl,rfl⟩:=H
     go_enter Tryd.func113,Tryd.ntmps113
     try go_wp2_with (first | ((with_reducible refine gate_dst (N:=3) rfl ?_); refine boxE_ (N:=3) (cs:=#[.int .i64 a0_0,.int .i64 a0_1,.slice A0_2 l0_2.length c0_2,.slice A0_3 l0_3.length c0_3]) (t:=36) ?_; intro gb597 hg w54 hbox hb; have n0_:=am_ (below_step (bl0_ HB.out) hb); have n1_:=am_ (hbox); have n2_:=am_ ((bs0_ hg HB.out:w.heap.size ≤ gb597)); have n3_:=am_ ((bs0_ hg HB.out:w.heap.size ≤ gb597)); clear HB; have HB:=n0_; have BK597:=n1_; have GW597:=n2_; have GE597:=n3_; clear n0_ n1_ n2_ n3_; clear hb hbox hg) | ((with_reducible refine gate_dst (N:=4) rfl ?_); refine boxE_ (N:=4) (cs:=#[.int .i64 a1_0,.int .i64 a1_1]) (t:=84) ?_; intro gb598 hg w55 hbox hb; have n0_:=am_ (bb_ BK597.out hb); have n1_:=am_ (below_step (bl1_ HB.out GE597.out) hb); have n2_:=am_ (hbox); have n3_:=am_ ((bs1_ hg HB.out GE597.out:w.heap.size ≤ gb598)); have n4_:=am_ ((bs1_ hg HB.out GE597.out:w.heap.size ≤ gb598)); have n5_:=am_ ((nl_ hg BK597.out:gb597 ≠ gb598)); have n6_:=am_ ((ng_ hg BK597.out:gb598 ≠ gb597)); clear BK597; clear HB; have BK597:=n0_; have HB:=n1_; have BK598:=n2_; have GW598:=n3_; have GE598:=n4_; have NB597_598:=n5_; have NB598_597:=n6_; clear n0_ n1_ n2_ n3_ n4_ n5_ n6_; clear hb hbox hg) | ((with_reducible refine gate_dst (N:=6) rfl ?_); refine boxE_ (N:=6) (cs:=#[.int .i64 0,.int .i64 0]) (t:=84) ?_; intro gb599 hg w56 hbox hb; have n0_:=am_ (bb_ BK597.out hb); have n1_:=am_ (bb_ BK598.out hb); have n2_:=am_ (below_step (bl2_ HB.out GE597.out GE598.out) hb); have n3_:=am_ (hbox); have n4_:=am_ ((bs2_ hg HB.out GE597.out GE598.out:w.heap.size ≤ gb599)); have n5_:=am_ ((bs2_ hg HB.out GE597.out GE598.out:w.heap.size ≤ gb599)); have n6_:=am_ ((nl_ hg BK597.out:gb597 ≠ gb599)); have n7_:=am_ ((ng_ hg BK597.out:gb599 ≠ gb597)); have n8_:=am_ ((nl_ hg BK598.out:gb598 ≠ gb599)); have n9_:=am_ ((ng_ hg BK598.out:gb599 ≠ gb598)); clear BK597; clear BK598; clear HB; have BK597:=n0_; have BK598:=n1_; have HB:=n2_; have BK599:=n3_; have GW599:=n4_; have GE599:=n5_; have NB597_599:=n6_; have NB599_597:=n7_; have NB598_599:=n8_; have NB599_598:=n9_; clear n0_ n1_ n2_ n3_ n4_ n5_ n6_ n7_ n8_ n9_; clear hb hbox hg))
     have n0_:=am_ (blk_drew BK597.out)
     have n1_:=am_ (blk_drew BK598.out)
     have n2_:=am_ (blk_drew BK599.out)
     have n3_:=am_ (below_drew1 HB.out)
     clear BK597
     clear BK598
     clear BK599
     clear HB
     have BK597:=n0_
     have BK598:=n1_
     have BK599:=n2_
     have HB:=n3_
     clear n0_ n1_ n2_ n3_
     refine start_ (n:=20) (S:=fun w' => w'.cell? ⟨gb598,0,none⟩ = some (.int .i64 a1_0) ∧ w'.cell? ⟨gb598,1,none⟩ = some (.int .i64 a1_1) ∧ w'.cell? ⟨gb597,0,none⟩ = some (.int .i64 a0_0) ∧ w'.cell? ⟨gb597,1,none⟩ = some (.int .i64 a0_1) ∧ w'.cell? ⟨gb597,2,none⟩ = some (.slice A0_2 l0_2.length c0_2) ∧ w'.cell? ⟨gb597,3,none⟩ = some (.slice A0_3 l0_3.length c0_3)) (ds:=[]) #[Ff,Ff,Ff,Ff,Ff,Ff,Ff,Ff,Ff,Ff,Ff,Ff,Ff,Ff,Ff,Ff,Ff,Ff,Ff,Ff] (by kernel_rfl) rfl rfl ⟨(bc_ BK598.out 0).trans rfl,(bc_ BK598.out 1).trans rfl,(bc_ BK597.out 0).trans rfl,(bc_ BK597.out 1).trans rfl,(bc_ BK597.out 2).trans rfl,(bc_ BK597.out 3).trans rfl⟩ (fun hHeld => ?_); refine with_tabW spec_liNext.tab8 spec_liNext.bits8 (fun HT_ HW_ => ?_)
     generalize w56.drew = w57 at BK597 BK598 BK599 HB hHeld ⊢
     refine pZ (i:=0) (N:=some 71) #[Tt,Ff,Ff,Ff,Ff,Ff,Ff,Ff,Ff,Ff,Ff,Ff,Ff,Ff,Ff,Ff,Ff,Ff,Ff,Ff] ?_
     refine pZ (i:=3) (N:=some 74) #[Tt,Ff,Ff,Tt,Ff,Ff,Ff,Ff,Ff,Ff,Ff,Ff,Ff,Ff,Ff,Ff,Ff,Ff,Ff,Ff] ?_
     refine pZ (i:=6) (N:=some 77) #[Tt,Ff,Ff,Tt,Ff,Ff,Tt,Ff,Ff,Ff,Ff,Ff,Ff,Ff,Ff,Ff,Ff,Ff,Ff,Ff] ?_
     refine tZ (i:=1) (N:=some 72) #[Tt,Tt,Ff,Tt,Ff,Ff,Tt,Ff,Ff,Ff,Ff,Ff,Ff,Ff,Ff,Ff,Ff,Ff,Ff,Ff] ?_
     refine pZ (i:=2) (N:=some 73) #[Tt,Tt,Tt,Tt,Ff,Ff,Tt,Ff,Ff,Ff,Ff,Ff,Ff,Ff,Ff,Ff,Ff,Ff,Ff,Ff] ?_
     refine tZ (i:=4) (N:=some 75) #[Tt,Tt,Tt,Tt,Tt,Ff,Tt,Ff,Ff,Ff,Ff,Ff,Ff,Ff,Ff,Ff,Ff,Ff,Ff,Ff] ?_
     refine pZ (i:=5) (N:=some 76) #[Tt,Tt,Tt,Tt,Tt,Tt,Tt,Ff,Ff,Ff,Ff,Ff,Ff,Ff,Ff,Ff,Ff,Ff,Ff,Ff] ?_
     refine tZ (i:=7) (N:=some 78) #[Tt,Tt,Tt,Tt,Tt,Tt,Tt,Tt,Ff,Ff,Ff,Ff,Ff,Ff,Ff,Ff,Ff,Ff,Ff,Ff] ?_
     refine pZ (i:=8) (N:=some 79) #[Tt,Tt,Tt,Tt,Tt,Tt,Tt,Tt,Tt,Ff,Ff,Ff,Ff,Ff,Ff,Ff,Ff,Ff,Ff,Ff] ?_
     refine pZ (i:=9) (N:=some 80) #[Tt,Tt,Tt,Tt,Tt,Tt,Tt,Tt,Tt,Tt,Ff,Ff,Ff,Ff,Ff,Ff,Ff,Ff,Ff,Ff] ?_
     refine pZ (i:=11) (N:=some 82) #[Tt,Tt,Tt,Tt,Tt,Tt,Tt,Tt,Tt,Tt,Ff,Tt,Ff,Ff,Ff,Ff,Ff,Ff,Ff,Ff] ?_
     refine pZ (i:=14) (N:=some 85) #[Tt,Tt,Tt,Tt,Tt,Tt,Tt,Tt,Tt,Tt,Ff,Tt,Ff,Ff,Tt,Ff,Ff,Ff,Ff,Ff] ?_
     refine tZ (i:=10) (N:=some 81) #[Tt,Tt,Tt,Tt,Tt,Tt,Tt,Tt,Tt,Tt,Tt,Tt,Ff,Ff,Tt,Ff,Ff,Ff,Ff,Ff] ?_
     refine tZ (i:=12) (N:=some 83) #[Tt,Tt,Tt,Tt,Tt,Tt,Tt,Tt,Tt,Tt,Tt,Tt,Tt,Ff,Tt,Ff,Ff,Ff,Ff,Ff] ?_
     refine pZ (i:=13) (N:=some 84) #[Tt,Tt,Tt,Tt,Tt,Tt,Tt,Tt,Tt,Tt,Tt,Tt,Tt,Tt,Tt,Ff,Ff,Ff,Ff,Ff] ?_
     refine tZ (i:=15) (N:=some 86) #[Tt,Tt,Tt,Tt,Tt,Tt,Tt,Tt,Tt,Tt,Tt,Tt,Tt,Tt,Tt,Tt,Ff,Ff,Ff,Ff] ?_
     refine one_ (i:=16) (N:=some 87) #[Tt,Tt,Tt,Tt,Tt,Tt,Tt,Tt,Tt,Tt,Tt,Tt,Tt,Tt,Tt,Tt,Tt,Ff,Ff,Ff] rfl rfl (one_of HT_.out (by kernel_rfl)) (by decide) (fun K hK => ?_)
     refine goes_ Tryd.func122 (by kernel_rfl) rfl #[.agg #[.int .i64 a0_0,.int .i64 a0_1,.slice A0_2 l0_2.length c0_2,.slice A0_3 l0_3.length c0_3],.bool false,.int .i64 (wrap64 (a1_0 - 1)),.int .i64 a1_1] (by rfl) rfl rfl ob_ ?_
     with_reducible refine (spec_fiHas.calls k a0_0 a0_1 _ _ l0_2 _ _ l0_3 false (wrap64 (a1_0 - 1)) a1_1 t603 _ ?side1 ?side2 ?side3 ?side4 A53.out).mono ?_
     (case side1 => exact kc_ (Kd.C_below HR0_2.out HB.out))
     (case side2 => exact HC0_2.out)
     (case side3 => exact kc_ (Kd.C_below HR0_3.out HB.out))
     (case side4 => exact HC0_3.out)
     rintro e w58 ⟨rfl,hb⟩
     refine ⟨_,rfl,?_⟩
     have n0_:=am_ (bb_ BK597.out hb)
     have n1_:=am_ (bb_ BK598.out hb)
     have n2_:=am_ (bb_ BK599.out hb)
     have n3_:=am_ (below_step (bl3_ HB.out GE597.out GE598.out GE599.out) hb)
     clear BK597
     clear BK598
     clear BK599
     clear HB
     have BK597:=n0_
     have BK598:=n1_
     have BK599:=n2_
     have HB:=n3_
     clear n0_ n1_ n2_ n3_
     (try clear hb)
     (try clear hb2)
     (try clear hk)
     (try clear hi)
     refine hK.out _ _ ⟨(bc_ BK598.out 0).trans rfl,(bc_ BK598.out 1).trans rfl,(bc_ BK597.out 0).trans rfl,(bc_ BK597.out 1).trans rfl,(bc_ BK597.out 2).trans rfl,(bc_ BK597.out 3).trans rfl⟩ (fun hHeld => ?_)
     clear hK K
     refine norm_ (a':=_) ap_ ?_
     refine pZ (i:=17) (N:=some 88) #[Tt,Tt,Tt,Tt,Tt,Tt,Tt,Tt,Tt,Tt,Tt,Tt,Tt,Tt,Tt,Tt,Tt,Tt,Ff,Ff] ?_
     refine one_ (i:=18) (N:=none) #[Tt,Tt,Tt,Tt,Tt,Tt,Tt,Tt,Tt,Tt,Tt,Tt,Tt,Tt,Tt,Tt,Tt,Tt,Tt,Ff] rfl rfl (one_of HT_.out (by kernel_rfl)) (by decide) (fun K hK => ?_)
     have hs59:w58.cell? ⟨gb599,0,none⟩ = some (.int .i64 0):=(bc_ BK599.out 0).trans rfl
     have hfs59:=bz_ BK599.out 0
     have hns59_0:=NB597_599.out
     have hns59_1:=NB598_599.out
     have hms59_0:=NB599_597.out
     have hms59_1:=NB599_598.out
     have hs60:w58.cell? ⟨gb599,1,none⟩ = some (.int .i64 0):=(bc_ BK599.out 1).trans rfl
     have hfs60:=bz_ BK599.out 1
     have hns60_0:=NB597_599.out
     have hns60_1:=NB598_599.out
     have hms60_0:=NB599_597.out
     have hms60_1:=NB599_598.out
     refine skip_ (w1:=?_) (by rfl) rfl ?_ ?_
     rotate_left
     ·go_simp
      rfl
     refine hK.out _ _ ⟨((cell_far (p:=⟨gb599,_,none⟩) NB598_599.out _).trans (((cell_far (p:=⟨gb599,_,none⟩) NB598_599.out _).trans (hHeld.1)))),((cell_far (p:=⟨gb599,_,none⟩) NB598_599.out _).trans (((cell_far (p:=⟨gb599,_,none⟩) NB598_599.out _).trans (hHeld.2.1)))),((cell_far (p:=⟨gb599,_,none⟩) NB597_599.out _).trans (((cell_far (p:=⟨gb599,_,none⟩) NB597_599.out _).trans (hHeld.2.2.1)))),((cell_far (p:=⟨gb599,_,none⟩) NB597_599.out _).trans (((cell_far (p:=⟨gb599,_,none⟩) NB597_599.out _).trans (hHeld.2.2.2.1)))),((cell_far (p:=⟨gb599,_,none⟩) NB597_599.out _).trans (((cell_far (p:=⟨gb599,_,none⟩) NB597_599.out _).trans (hHeld.2.2.2.2.1)))),((cell_far (p:=⟨gb599,_,none⟩) NB597_599.out _).trans (((cell_far (p:=⟨gb599,_,none⟩) NB597_599.out _).trans (hHeld.2.2.2.2.2))))⟩ (fun hHeld => ?_)
     clear hK K
     refine pZ (i:=19) (N:=some 7) #[Tt,Tt,Tt,Tt,Tt,Tt,Tt,Tt,Tt,Tt,Tt,Tt,Tt,Tt,Tt,Tt,Tt,Tt,Tt,Tt] ?_
     refine done_ (done_of HT_.out (by kernel_rfl)) ?_
     try go_wp2
     refine bodyPost_ret (results_ct rfl _ _ gb599 84 #[.int .i64 (wrap64 (a1_0 - 1)),.int .i64 a1_1] (0,0) _ rfl (by (with_reducible repeat (first | refine blk_drewN ?_ _ | refine blk_drew ?_ | refine blk_alloc ?_ _)); refine blk_put (cs:=#[.int .i64 (wrap64 (a1_0 - 1)),.int .i64 0]) ?_ 1 _ rfl; (with_reducible repeat (first | refine blk_drewN ?_ _ | refine blk_drew ?_ | refine blk_alloc ?_ _)); refine blk_put (cs:=#[.int .i64 0,.int .i64 0]) ?_ 0 _ rfl; (with_reducible repeat (first | refine blk_drewN ?_ _ | refine blk_drew ?_ | refine blk_alloc ?_ _)); exact BK599.out) Tryd.underlying84 rfl (by kernel_rfl)) rfl ?_
     exact ⟨er_,bl3_ HB.out GE597.out GE598.out GE599.out⟩
    ·rw [if_neg c52] at H
     have c52b0:decide (0 < a1_0) = false:=decide_eq_false c52
     clear c52
     simp only [Option.some.injEq,Prod.mk.injEq] at H
     obtain ⟨rfl,rfl,rfl⟩:=H
     go_enter Tryd.func113,Tryd.ntmps113
     try go_wp2_with (first | ((with_reducible refine gate_dst (N:=3) rfl ?_); refine boxE_ (N:=3) (cs:=#[.int .i64 a0_0,.int .i64 a0_1,.slice A0_2 l0_2.length c0_2,.slice A0_3 l0_3.length c0_3]) (t:=36) ?_; intro gb597 hg w61 hbox hb; have n0_:=am_ (below_step (bl0_ HB.out) hb); have n1_:=am_ (hbox); have n2_:=am_ ((bs0_ hg HB.out:w.heap.size ≤ gb597)); have n3_:=am_ ((bs0_ hg HB.out:w.heap.size ≤ gb597)); clear HB; have HB:=n0_; have BK597:=n1_; have GW597:=n2_; have GE597:=n3_; clear n0_ n1_ n2_ n3_; clear hb hbox hg) | ((with_reducible refine gate_dst (N:=4) rfl ?_); refine boxE_ (N:=4) (cs:=#[.int .i64 a1_0,.int .i64 a1_1]) (t:=84) ?_; intro gb598 hg w62 hbox hb; have n0_:=am_ (bb_ BK597.out hb); have n1_:=am_ (below_step (bl1_ HB.out GE597.out) hb); have n2_:=am_ (hbox); have n3_:=am_ ((bs1_ hg HB.out GE597.out:w.heap.size ≤ gb598)); have n4_:=am_ ((bs1_ hg HB.out GE597.out:w.heap.size ≤ gb598)); have n5_:=am_ ((nl_ hg BK597.out:gb597 ≠ gb598)); have n6_:=am_ ((ng_ hg BK597.out:gb598 ≠ gb597)); clear BK597; clear HB; have BK597:=n0_; have HB:=n1_; have BK598:=n2_; have GW598:=n3_; have GE598:=n4_; have NB597_598:=n5_; have NB598_597:=n6_; clear n0_ n1_ n2_ n3_ n4_ n5_ n6_; clear hb hbox hg) | ((with_reducible refine gate_dst (N:=6) rfl ?_); refine boxE_ (N:=6) (cs:=#[.int .i64 0,.int .i64 0]) (t:=84) ?_; intro gb599 hg w63 hbox hb; have n0_:=am_ (bb_ BK597.out hb); have n1_:=am_ (bb_ BK598.out hb); have n2_:=am_ (below_step (bl2_ HB.out GE597.out GE598.out) hb); have n3_:=am_ (hbox); have n4_:=am_ ((bs2_ hg HB.out GE597.out GE598.out:w.heap.size ≤ gb599)); have n5_:=am_ ((bs2_ hg HB.out GE597.out GE598.out:w.heap.size ≤ gb599)); have n6_:=am_ ((nl_ hg BK597.out:gb597 ≠ gb599)); have n7_:=am_ ((ng_ hg BK597.out:gb599 ≠ gb597)); have n8_:=am_ ((nl_ hg BK598.out:gb598 ≠ gb599)); have n9_:=am_ ((ng_ hg BK598.out:gb599 ≠ gb598)); clear BK597; clear BK598; clear HB; have BK597:=n0_; have BK598:=n1_; have HB:=n2_; have BK599:=n3_; have GW599:=n4_; have GE599:=n5_; have NB597_599:=n6_; have NB599_597:=n7_; have NB598_599:=n8_; have NB599_598:=n9_; clear n0_ n1_ n2_ n3_ n4_ n5_ n6_ n7_ n8_ n9_; clear hb hbox hg))
     have n0_:=am_ (blk_drew BK597.out)
     have n1_:=am_ (blk_drew BK598.out)
     have n2_:=am_ (blk_drew BK599.out)
     have n3_:=am_ (below_drew1 HB.out)
     clear BK597
     clear BK598
     clear BK599
     clear HB
     have BK597:=n0_
     have BK598:=n1_
     have BK599:=n2_
     have HB:=n3_
     clear n0_ n1_ n2_ n3_
     refine start_ (n:=20) (S:=fun w' => w'.cell? ⟨gb598,0,none⟩ = some (.int .i64 a1_0) ∧ w'.cell? ⟨gb598,1,none⟩ = some (.int .i64 a1_1)) (ds:=[]) #[Ff,Ff,Ff,Ff,Ff,Ff,Ff,Ff,Ff,Ff,Ff,Ff,Ff,Ff,Ff,Ff,Ff,Ff,Ff,Ff] (by kernel_rfl) rfl rfl ⟨(bc_ BK598.out 0).trans rfl,(bc_ BK598.out 1).trans rfl⟩ (fun hHeld => ?_); refine with_tabW spec_liNext.tab8 spec_liNext.bits8 (fun HT_ HW_ => ?_)
     generalize w63.drew = w64 at BK597 BK598 BK599 HB hHeld ⊢
     refine pZ (i:=0) (N:=some 71) #[Tt,Ff,Ff,Ff,Ff,Ff,Ff,Ff,Ff,Ff,Ff,Ff,Ff,Ff,Ff,Ff,Ff,Ff,Ff,Ff] ?_
     refine pZ (i:=3) (N:=some 74) #[Tt,Ff,Ff,Tt,Ff,Ff,Ff,Ff,Ff,Ff,Ff,Ff,Ff,Ff,Ff,Ff,Ff,Ff,Ff,Ff] ?_
     refine pZ (i:=6) (N:=some 77) #[Tt,Ff,Ff,Tt,Ff,Ff,Tt,Ff,Ff,Ff,Ff,Ff,Ff,Ff,Ff,Ff,Ff,Ff,Ff,Ff] ?_
     refine tZ (i:=1) (N:=some 72) #[Tt,Tt,Ff,Tt,Ff,Ff,Tt,Ff,Ff,Ff,Ff,Ff,Ff,Ff,Ff,Ff,Ff,Ff,Ff,Ff] ?_
     refine pZ (i:=2) (N:=some 73) #[Tt,Tt,Tt,Tt,Ff,Ff,Tt,Ff,Ff,Ff,Ff,Ff,Ff,Ff,Ff,Ff,Ff,Ff,Ff,Ff] ?_
     refine tZ (i:=4) (N:=some 75) #[Tt,Tt,Tt,Tt,Tt,Ff,Tt,Ff,Ff,Ff,Ff,Ff,Ff,Ff,Ff,Ff,Ff,Ff,Ff,Ff] ?_
     refine pZ (i:=5) (N:=some 76) #[Tt,Tt,Tt,Tt,Tt,Tt,Tt,Ff,Ff,Ff,Ff,Ff,Ff,Ff,Ff,Ff,Ff,Ff,Ff,Ff] ?_
     refine tZ (i:=7) (N:=some 78) #[Tt,Tt,Tt,Tt,Tt,Tt,Tt,Tt,Ff,Ff,Ff,Ff,Ff,Ff,Ff,Ff,Ff,Ff,Ff,Ff] ?_
     refine pZ (i:=8) (N:=some 79) #[Tt,Tt,Tt,Tt,Tt,Tt,Tt,Tt,Tt,Ff,Ff,Ff,Ff,Ff,Ff,Ff,Ff,Ff,Ff,Ff] ?_
     refine pZ (i:=9) (N:=some 80) #[Tt,Tt,Tt,Tt,Tt,Tt,Tt,Tt,Tt,Tt,Ff,Ff,Ff,Ff,Ff,Ff,Ff,Ff,Ff,Ff] ?_
     refine pU (i:=10) (N:=some 81) #[Tt,Tt,Tt,Tt,Tt,Tt,Tt,Tt,Tt,Tt,Tt,Ff,Ff,Ff,Ff,Ff,Ff,Ff,Ff,Ff] ?_
     refine pU (i:=11) (N:=some 82) #[Tt,Tt,Tt,Tt,Tt,Tt,Tt,Tt,Tt,Tt,Tt,Tt,Ff,Ff,Ff,Ff,Ff,Ff,Ff,Ff] ?_
     refine pU (i:=12) (N:=some 83) #[Tt,Tt,Tt,Tt,Tt,Tt,Tt,Tt,Tt,Tt,Tt,Tt,Tt,Ff,Ff,Ff,Ff,Ff,Ff,Ff] ?_
     refine pU (i:=13) (N:=some 84) #[Tt,Tt,Tt,Tt,Tt,Tt,Tt,Tt,Tt,Tt,Tt,Tt,Tt,Tt,Ff,Ff,Ff,Ff,Ff,Ff] ?_
     refine pU (i:=14) (N:=some 85) #[Tt,Tt,Tt,Tt,Tt,Tt,Tt,Tt,Tt,Tt,Tt,Tt,Tt,Tt,Tt,Ff,Ff,Ff,Ff,Ff] ?_
     refine pU (i:=15) (N:=some 86) #[Tt,Tt,Tt,Tt,Tt,Tt,Tt,Tt,Tt,Tt,Tt,Tt,Tt,Tt,Tt,Tt,Ff,Ff,Ff,Ff] ?_
     refine pU (i:=16) (N:=some 87) #[Tt,Tt,Tt,Tt,Tt,Tt,Tt,Tt,Tt,Tt,Tt,Tt,Tt,Tt,Tt,Tt,Tt,Ff,Ff,Ff] ?_
     refine pZ (i:=17) (N:=some 88) #[Tt,Tt,Tt,Tt,Tt,Tt,Tt,Tt,Tt,Tt,Tt,Tt,Tt,Tt,Tt,Tt,Tt,Tt,Ff,Ff] ?_
     refine one_ (i:=18) (N:=none) #[Tt,Tt,Tt,Tt,Tt,Tt,Tt,Tt,Tt,Tt,Tt,Tt,Tt,Tt,Tt,Tt,Tt,Tt,Tt,Ff] rfl rfl (one_of HT_.out (by kernel_rfl)) (by decide) (fun K hK => ?_)
     have hs65:w64.cell? ⟨gb599,0,none⟩ = some (.int .i64 0):=(bc_ BK599.out 0).trans rfl
     have hfs65:=bz_ BK599.out 0
     have hns65_0:=NB597_599.out
     have hns65_1:=NB598_599.out
     have hms65_0:=NB599_597.out
     have hms65_1:=NB599_598.out
     have hs66:w64.cell? ⟨gb599,1,none⟩ = some (.int .i64 0):=(bc_ BK599.out 1).trans rfl
     have hfs66:=bz_ BK599.out 1
     have hns66_0:=NB597_599.out
     have hns66_1:=NB598_599.out
     have hms66_0:=NB599_597.out
     have hms66_1:=NB599_598.out
     refine skip_ (w1:=?_) (by rfl) rfl ?_ ?_
     rotate_left
     ·go_simp
      rfl
     refine hK.out _ _ ⟨((cell_far (p:=⟨gb599,_,none⟩) NB598_599.out _).trans (((cell_far (p:=⟨gb599,_,none⟩) NB598_599.out _).trans (hHeld.1)))),((cell_far (p:=⟨gb599,_,none⟩) NB598_599.out _).trans (((cell_far (p:=⟨gb599,_,none⟩) NB598_599.out _).trans (hHeld.2))))⟩ (fun hHeld => ?_)
     clear hK K
     refine pZ (i:=19) (N:=some 7) #[Tt,Tt,Tt,Tt,Tt,Tt,Tt,Tt,Tt,Tt,Tt,Tt,Tt,Tt,Tt,Tt,Tt,Tt,Tt,Tt] ?_
     refine done_ (done_of HT_.out (by kernel_rfl)) ?_
     try go_wp2
     refine bodyPost_ret (results_ct rfl _ _ gb599 84 #[.int .i64 (wrap64 (a1_0 - 1)),.int .i64 a1_1] (0,0) _ rfl (by (with_reducible repeat (first | refine blk_drewN ?_ _ | refine blk_drew ?_ | refine blk_alloc ?_ _)); refine blk_put (cs:=#[.int .i64 (wrap64 (a1_0 - 1)),.int .i64 0]) ?_ 1 _ rfl; (with_reducible repeat (first | refine blk_drewN ?_ _ | refine blk_drew ?_ | refine blk_alloc ?_ _)); refine blk_put (cs:=#[.int .i64 0,.int .i64 0]) ?_ 0 _ rfl; (with_reducible repeat (first | refine blk_drewN ?_ _ | refine blk_drew ?_ | refine blk_alloc ?_ _)); exact BK599.out) Tryd.underlying84 rfl (by kernel_rfl)) rfl ?_
     exact ⟨er_,bl3_ HB.out GE597.out GE598.out GE599.out⟩


def spec_fiThose.l0:Nat → List Int → Bool → List Int → List Int → Int → Int → Option (List Int)
 | 0,_,_,_,_,_,_ => none
 | k + 1,x1,x2,x7,x10,x11,x12 => if x12 < x11 then (if 0 ≤ x12 then (if x12 < (x10.length:Int) then ((spec_l1Has.f k x1 (rd x10 x12)).bind fun t605 => (if (t605 == x2) = true then (if x7.length < 17592186044416 then (spec_fiThose.l0 k x1 x2 (x7 ++ [rd x10 x12]) x10 x11 (wrap64 (x12 + 1))) else (none)) else (spec_fiThose.l0 k x1 x2 x7 x10 x11 (wrap64 (x12 + 1))))) else (none)) else (none)) else (some x7)
def spec_fiThose.f (k:Nat) (l0:List Int) (l1:List Int) (a2:Bool):Option (List Int):=spec_fiThose.l0 k l1 a2 ([]:List Int) l0 (l0.length:Int) 0
theorem spec_fiThose.mono_l:∀ k,(∀ y0 y1 y2 y3 y4 y5,LeO (spec_fiThose.l0 k y0 y1 y2 y3 y4 y5) (spec_fiThose.l0 (k + 1) y0 y1 y2 y3 y4 y5))
 | 0 => fun _ _ _ _ _ _ r h => by simp [spec_fiThose.l0] at h
 | k + 1 => by
  have ih0:=spec_fiThose.mono_l k
  ·intro y0 y1 y2 y3 y4 y5
   unfold spec_fiThose.l0
   repeat' first | (with_reducible first | exact ih0 _ _ _ _ _ _ | exact spec_l1Has.mono _ _ _ | exact LeO.refl _ | exact LeO.none _ | refine LeO.ite ?_ ?_ | refine LeO.bind ?_ (fun _ => ?_)) | exact ih0 _ _ _ _ _ _ | exact spec_l1Has.mono _ _ _
theorem spec_fiThose.mono:∀ a0 a1 a2 k,LeO (spec_fiThose.f k a0 a1 a2) (spec_fiThose.f (k + 1) a0 a1 a2):=by
 intro a0 a1 a2 k
 have ih0:=spec_fiThose.mono_l k
 unfold spec_fiThose.f
 repeat' first | (with_reducible first | exact ih0 _ _ _ _ _ _ | exact spec_l1Has.mono _ _ _ | exact LeO.refl _ | exact LeO.none _ | refine LeO.ite ?_ ?_ | refine LeO.bind ?_ (fun _ => ?_)) | exact ih0 _ _ _ _ _ _ | exact spec_l1Has.mono _ _ _
set_option maxHeartbeats 8000000 in
set_option maxRecDepth 100000 in
theorem spec_fiThose.calls (k:Nat) (A0:Option Addr) (c0:Nat) (l0:List Int) (A1:Option Addr) (c1:Nat) (l1:List Int) (a2:Bool) (r:List Int) (w:World) (hr0:Kd.C (Kd.int .i64) w A0 l0.length l0) (hc0:l0.length ≤ c0) (hr1:Kd.C (Kd.int .i64) w A1 l1.length l1) (hc1:l1.length ≤ c1) (h:spec_fiThose.f k l0 l1 a2 = some r) :
  Calls Tryd.prog 137 #[.slice A0 l0.length c0,.slice A1 l1.length c1,.bool a2] w fun e w' => ∃ v0_:Value,e = .returned (v0_) ∧ Kd.R (Kd.int .i64) 3 w' w.heap.size (fun _ => True) v0_ r ∧ Below w.heap.size w w':=by
 have HR0:=am_ hr0
 have HC0:=am_ hc0
 clear hr0 hc0
 have HR1:=am_ hr1
 have HC1:=am_ hc1
 clear hr1 hc1
 have HB:=am_ (Below.refl w.heap.size w)
 have H:(spec_fiThose.l0 k l1 a2 ([]:List Int) l0 (l0.length:Int) 0) = some r:=h
 clear h
 have H':=am_ H
 clear H
 go_enter Tryd.func137,Tryd.ntmps137
 go_wp2
 go_loopg [7,12] k (fun kq v7 v12 w' => ∃ (x7_1:List Int) (x12_1:Int),v12 = .int .i64 x12_1 ∧ Aside0 (spec_fiThose.l0 kq l1 a2 x7_1 l0 (l0.length:Int) x12_1 = some r) ∧ Aside0 (kq ≤ k) ∧ Aside0 (Kd.R (Kd.int .i64) 3 w' w.heap.size (fun _ => True) v7 x7_1) ∧ Aside0 (Below w.heap.size w w'))
 case atStart => exact ⟨(([]:List Int)),(0),rs_,H',⟨Nat.le_refl _⟩,⟨by first | exact Kd.R_nil _ _ _ _ _ | exact Kd.N_nil _ _ _ _ _ | exact Kd.V_nil _ _ _ _ _ | exact Kd.Q_nil _ _ _ _ _ | exact Kd.S_nil _ _ _ _ _⟩,⟨bl0_ HB.out⟩⟩
 case round =>
  clear H'
  try clear c1
  try clear p2
  obtain ⟨x7_1,x12_1,rfl,HA,HK1,HO_7,HB⟩:=hrel
  cases gk with
  | zero => exact absurd HA.out (by simp [spec_fiThose.l0])
  | succ k1 =>
   have H:=HA.out
   clear HA
   simp only [spec_fiThose.l0] at H
   by_cases c4:x12_1 < (l0.length:Int)
   ·rw [if_pos c4] at H
    have c4b0:decide (x12_1 < (l0.length:Int)) = true:=decide_eq_true c4
    clear c4
    by_cases c5:0 ≤ x12_1
    ·rw [if_pos c5] at H
     have c5b0:decide (0 ≤ x12_1) = true:=decide_eq_true c5
     clear c5
     by_cases c6:x12_1 < (l0.length:Int)
     ·rw [if_pos c6] at H
      have c6b0:decide (x12_1 < (l0.length:Int)) = true:=decide_eq_true c6
      clear c6
      replace H:=bi_ H
      obtain ⟨t605,A70,H⟩:=H
      replace H:(if (t605 == a2) = true then (if x7_1.length < 17592186044416 then (spec_fiThose.l0 k1 l1 a2 (x7_1 ++ [rd l0 x12_1]) l0 (l0.length:Int) (wrap64 (x12_1 + 1))) else (none)) else (spec_fiThose.l0 k1 l1 a2 x7_1 l0 (l0.length:Int) (wrap64 (x12_1 + 1)))) = some r:=H
      have A7:=am_ A70
      clear A70
      by_cases c8:(t605 == a2) = true
      ·rw [if_pos c8] at H
       have c8b0:(t605 == a2) = true:=c8
       (try (have c8b1:decide (t605 = a2) = true:=by simpa using c8))
       (try (have c8b2:(t605 == a2) = true:=by simpa using c8))
       clear c8
       by_cases c9:x7_1.length < 17592186044416
       ·rw [if_pos c9] at H
        have LMc9:=am_ c9
        clear c9
        obtain ⟨y606,hy606⟩:∃ y_:List Int,y_ = (x7_1 ++ [rd l0 x12_1]):=⟨_,rfl⟩
        replace H:(spec_fiThose.l0 k1 l1 a2 y606 l0 (l0.length:Int) (wrap64 (x12_1 + 1))) = some r:=by first | (rw [hy606]; with_reducible exact H) | (have H2_:=(Option.bind_some _ _).symm.trans H; rw [hy606]; with_reducible exact H2_) | (have H2_:=(Option.bind_some _ _).symm.trans H; with_reducible exact H2_) | with_reducible exact H | (rw [hy606]; exact H) | exact H
        have Ny606:=am_ hy606
        clear hy606
        have H':=am_ H
        clear H
        have p604:0 ≤ (x12_1:Int):=of_decide_eq_true as_
        have q604:x12_1 < (l0.length:Int):=of_decide_eq_true as_
        obtain ⟨ad604,e604,hx604_0⟩:=Kd.at_int HR0.out x12_1 p604 q604
        cases e604
        replace hx604_0:=(HB.out.cell (wl_ w _ hx604_0)).trans hx604_0
        replace p604:=eq_true p604
        replace q604:=eq_true q604
        go_wp2_with (first | ((with_reducible refine gate_callee (f:=151) rfl ?_); refine goesL_ (some 18) rfl rfl Tryd.func151 (by kernel_rfl) rfl #[.slice A1 l1.length c1,.int .i64 (rd l0 x12_1)] rfl ob_ ?_; (with_reducible refine (spec_l1Has.calls k1 _ _ l1 (rd l0 x12_1) t605 _ ?side1 ?side2 A7.out).mono ?_); (case side1 => exact kc_ (Kd.C_below HR1.out HB.out)); (case side2 => exact HC1.out); rintro e w' ⟨rfl,⟨nd,rfl⟩⟩; refine ⟨_,rfl,?_⟩) | ((with_reducible refine gate_builtin (b:=.append) (xs:=#[.tmp 21,.tmp 23]) rfl ?_); at_builtin; refine Kd.R_append (Kd.int .i64) (w0:=w) w.heap.size rfl (.tmp 21) (.tmp 23) 22 3 (.int .i64 0) 8 rfl Tryd.underlying22 info3 rfl (by decide) (by omega) u7 x7_1 (rd l0 x12_1) [.int .i64 (rd l0 x12_1)] (fun _ => True) (fun _ => False) rfl rfl ?aP (fun _ hk => hk.elim) ?aF ?aO ?aB ?aS ?aL ?_; (case aP => exact rfl); (case aB => exact (bl0_ HB.out)); (case aF => exact (fun _ _ => trivial)); (case aO => exact (kr_ HO_7.out)); (case aS => exact (below_size (bl0_ HB.out))); (case aL => have:=LMc9.out; omega); intro v607 w10 ho hb hg hat; rw [← Ny606.out] at ho; have n0_:=am_ (hb); have n1_:=am_ (ho); clear HB; clear HO_7; have HB:=n0_; have HO608:=n1_; clear n0_ n1_; clear ho hb hg hat))
        go_roundg k1
        case measure => have:=HK1.out; omega
        case rel => exact ⟨(y606),(wrap64 (x12_1 + 1)),rs_,H',⟨by have:=HK1.out; omega⟩,⟨kr_ HO608.out⟩,⟨bl0_ HB.out⟩⟩
       ·rw [if_neg c9] at H
        exact absurd H (by simp)
      ·rw [if_neg c8] at H
       have c8b0:(t605 == a2) = false:=by simpa using c8
       (try (have c8b1:decide (t605 = a2) = false:=by simpa using c8))
       (try (have c8b2:(t605 == a2) = false:=by simpa using c8))
       (try (have c8b3:¬ (t605 = a2):=by simpa using c8))
       clear c8
       have H':=am_ H
       clear H
       have p604:0 ≤ (x12_1:Int):=of_decide_eq_true as_
       have q604:x12_1 < (l0.length:Int):=of_decide_eq_true as_
       obtain ⟨ad604,e604,hx604_0⟩:=Kd.at_int HR0.out x12_1 p604 q604
       cases e604
       replace hx604_0:=(HB.out.cell (wl_ w _ hx604_0)).trans hx604_0
       replace p604:=eq_true p604
       replace q604:=eq_true q604
       go_wp2_with (first | ((with_reducible refine gate_callee (f:=151) rfl ?_); refine goesL_ (some 18) rfl rfl Tryd.func151 (by kernel_rfl) rfl #[.slice A1 l1.length c1,.int .i64 (rd l0 x12_1)] rfl ob_ ?_; (with_reducible refine (spec_l1Has.calls k1 _ _ l1 (rd l0 x12_1) t605 _ ?side1 ?side2 A7.out).mono ?_); (case side1 => exact kc_ (Kd.C_below HR1.out HB.out)); (case side2 => exact HC1.out); rintro e w' ⟨rfl,⟨nd,rfl⟩⟩; refine ⟨_,rfl,?_⟩))
       go_roundg k1
       case measure => have:=HK1.out; omega
       case rel => exact ⟨(x7_1),(wrap64 (x12_1 + 1)),rs_,H',⟨by have:=HK1.out; omega⟩,⟨kr_ HO_7.out⟩,⟨bl0_ HB.out⟩⟩
     ·rw [if_neg c6] at H
      exact absurd H (by simp)
    ·rw [if_neg c5] at H
     exact absurd H (by simp)
   ·rw [if_neg c4] at H
    have c4b0:decide (x12_1 < (l0.length:Int)) = false:=decide_eq_false c4
    clear c4
    obtain rfl:=Option.some.inj H
    go_wp2
    go_ret
    exact ⟨_,er_,by (with_reducible repeat (first | apply Kd.R_alloc | apply Kd.R_drewN | apply Kd.R_drew)); exact HO_7.out,bl0_ HB.out⟩


def spec_fiLess.f (k:Nat) (a0_0:Int) (a0_1:Int) (l0_2:List Int) (l0_3:List Int) (a1_0:Int) (a1_1:Int) (l1_2:List Int) (l1_3:List Int):Option (Int × Int × List Int × List Int):=(spec_fiThose.f k l0_2 l1_2 false).bind fun t612 => ((spec_fiThose.f k l0_3 l1_3 false).bind fun t615 => (some (a0_0,a0_1,t612,t615)))
theorem spec_fiLess.mono:∀ a0 a1 a2 a3 a4 a5 a6 a7 k,LeO (spec_fiLess.f k a0 a1 a2 a3 a4 a5 a6 a7) (spec_fiLess.f (k + 1) a0 a1 a2 a3 a4 a5 a6 a7):=by
 intro a0 a1 a2 a3 a4 a5 a6 a7 k
 unfold spec_fiLess.f
 repeat' first | (with_reducible first | exact spec_fiThose.mono _ _ _ _ | exact LeO.refl _ | exact LeO.none _ | refine LeO.ite ?_ ?_ | refine LeO.bind ?_ (fun _ => ?_)) | exact spec_fiThose.mono _ _ _ _
def spec_fiLess.T1:Bool × List (List Nat × List Nat):=(true,[([],[]),([0],[0]),([],[]),([2],[2]),([],[]),([4],[4]),([],[]),([6],[6]),([5,7],[5,7]),([],[]),([9],[9]),([],[]),([11],[11]),([10,12,8],[10,12]),([1,3,8,13],[1,3,8,13]),([14,13,0,1,2,3,4,5,6,7,8,9,10,11,12,13,14],[14])])
def spec_fiLess.B1:List Nat:=[0,1,0,4,0,16,0,64,240,0,512,0,2048,8176,16383,32767]
theorem spec_fiLess.tab1:rtab .any (opsOf Tryd.f115 1) = spec_fiLess.T1:=by kernel_rfl
theorem spec_fiLess.bits1:waitsOk spec_fiLess.T1.2 spec_fiLess.B1 = true:=by kernel_rfl
set_option maxHeartbeats 8000000 in
set_option maxRecDepth 100000 in
theorem spec_fiLess.calls (k:Nat) (a0_0:Int) (a0_1:Int) (A0_2:Option Addr) (c0_2:Nat) (l0_2:List Int) (A0_3:Option Addr) (c0_3:Nat) (l0_3:List Int) (a1_0:Int) (a1_1:Int) (A1_2:Option Addr) (c1_2:Nat) (l1_2:List Int) (A1_3:Option Addr) (c1_3:Nat) (l1_3:List Int) (r1:Int) (r2:Int) (r3:List Int) (r4:List Int) (w:World) (hr0_2:Kd.C (Kd.int .i64) w A0_2 l0_2.length l0_2) (hc0_2:l0_2.length ≤ c0_2) (hr0_3:Kd.C (Kd.int .i64) w A0_3 l0_3.length l0_3) (hc0_3:l0_3.length ≤ c0_3) (hr1_2:Kd.C (Kd.int .i64) w A1_2 l1_2.length l1_2) (hc1_2:l1_2.length ≤ c1_2) (hr1_3:Kd.C (Kd.int .i64) w A1_3 l1_3.length l1_3) (hc1_3:l1_3.length ≤ c1_3) (h:spec_fiLess.f k a0_0 a0_1 l0_2 l0_3 a1_0 a1_1 l1_2 l1_3 = some (r1,r2,r3,r4)) :
  Calls Tryd.prog 115 #[.agg #[.int .i64 a0_0,.int .i64 a0_1,.slice A0_2 l0_2.length c0_2,.slice A0_3 l0_3.length c0_3],.agg #[.int .i64 a1_0,.int .i64 a1_1,.slice A1_2 l1_2.length c1_2,.slice A1_3 l1_3.length c1_3]] w fun e w' => ∃ v2_ v3_:Value,e = .returned (.agg #[.int .i64 r1,.int .i64 r2,v2_,v3_]) ∧ Kd.R (Kd.int .i64) 3 w' w.heap.size (fun k_ => some k_ ≠ (v3_:Value).ownBlock) v2_ r3 ∧ Kd.R (Kd.int .i64) 3 w' w.heap.size (fun k_ => some k_ ≠ (v2_:Value).ownBlock) v3_ r4 ∧ Below w.heap.size w w':=by
 have hu36:=Tryd.underlying36
 have HR0_2:=am_ hr0_2
 have HC0_2:=am_ hc0_2
 clear hr0_2 hc0_2
 have HR0_3:=am_ hr0_3
 have HC0_3:=am_ hc0_3
 clear hr0_3 hc0_3
 have HR1_2:=am_ hr1_2
 have HC1_2:=am_ hc1_2
 clear hr1_2 hc1_2
 have HR1_3:=am_ hr1_3
 have HC1_3:=am_ hc1_3
 clear hr1_3 hc1_3
 have HB:=am_ (Below.refl w.heap.size w)
 have H:((spec_fiThose.f k l0_2 l1_2 false).bind fun t612 => ((spec_fiThose.f k l0_3 l1_3 false).bind fun t615 => (some (a0_0,a0_1,t612,t615)))) = some (r1,r2,r3,r4):=h
 clear h
 replace H:=bi_ H
 obtain ⟨t612,A30,H⟩:=H
 replace H:((spec_fiThose.f k l0_3 l1_3 false).bind fun t615 => (some (a0_0,a0_1,t612,t615))) = some (r1,r2,r3,r4):=H
 have A3:=am_ A30
 clear A30
 replace H:=bi_ H
 obtain ⟨t615,A40,H⟩:=H
 replace H:(some (a0_0,a0_1,t612,t615)) = some (r1,r2,r3,r4):=H
 have A4:=am_ A40
 clear A40
 simp only [Option.some.injEq,Prod.mk.injEq] at H
 obtain ⟨rfl,rfl,rfl,rfl⟩:=H
 go_enter Tryd.func115,Tryd.ntmps115
 try go_wp2_with (first | ((with_reducible refine gate_dst (N:=2) rfl ?_); refine boxE_ (N:=2) (cs:=#[.int .i64 a0_0,.int .i64 a0_1,.slice A0_2 l0_2.length c0_2,.slice A0_3 l0_3.length c0_3]) (t:=36) ?_; intro gb609 hg w5 hbox hb; have n0_:=am_ (below_step (bl0_ HB.out) hb); have n1_:=am_ (hbox); have n2_:=am_ ((bs0_ hg HB.out:w.heap.size ≤ gb609)); have n3_:=am_ ((bs0_ hg HB.out:w.heap.size ≤ gb609)); clear HB; have HB:=n0_; have BK609:=n1_; have GW609:=n2_; have GE609:=n3_; clear n0_ n1_ n2_ n3_; clear hb hbox hg) | ((with_reducible refine gate_dst (N:=3) rfl ?_); refine boxE_ (N:=3) (cs:=#[.int .i64 a1_0,.int .i64 a1_1,.slice A1_2 l1_2.length c1_2,.slice A1_3 l1_3.length c1_3]) (t:=36) ?_; intro gb610 hg w6 hbox hb; have n0_:=am_ (bb_ BK609.out hb); have n1_:=am_ (below_step (bl1_ HB.out GE609.out) hb); have n2_:=am_ (hbox); have n3_:=am_ ((bs1_ hg HB.out GE609.out:w.heap.size ≤ gb610)); have n4_:=am_ ((bs1_ hg HB.out GE609.out:w.heap.size ≤ gb610)); have n5_:=am_ ((nl_ hg BK609.out:gb609 ≠ gb610)); have n6_:=am_ ((ng_ hg BK609.out:gb610 ≠ gb609)); clear BK609; clear HB; have BK609:=n0_; have HB:=n1_; have BK610:=n2_; have GW610:=n3_; have GE610:=n4_; have NB609_610:=n5_; have NB610_609:=n6_; clear n0_ n1_ n2_ n3_ n4_ n5_ n6_; clear hb hbox hg) | ((with_reducible refine gate_dst (N:=4) rfl ?_); refine boxE_ (N:=4) (cs:=#[.int .i64 0,.int .i64 0,.slice none 0 0,.slice none 0 0]) (t:=36) ?_; intro gb611 hg w7 hbox hb; have n0_:=am_ (bb_ BK609.out hb); have n1_:=am_ (bb_ BK610.out hb); have n2_:=am_ (below_step (bl2_ HB.out GE609.out GE610.out) hb); have n3_:=am_ (hbox); have n4_:=am_ ((bs2_ hg HB.out GE609.out GE610.out:w.heap.size ≤ gb611)); have n5_:=am_ ((bs2_ hg HB.out GE609.out GE610.out:w.heap.size ≤ gb611)); have n6_:=am_ ((nl_ hg BK609.out:gb609 ≠ gb611)); have n7_:=am_ ((ng_ hg BK609.out:gb611 ≠ gb609)); have n8_:=am_ ((nl_ hg BK610.out:gb610 ≠ gb611)); have n9_:=am_ ((ng_ hg BK610.out:gb611 ≠ gb610)); clear BK609; clear BK610; clear HB; have BK609:=n0_; have BK610:=n1_; have HB:=n2_; have BK611:=n3_; have GW611:=n4_; have GE611:=n5_; have NB609_611:=n6_; have NB611_609:=n7_; have NB610_611:=n8_; have NB611_610:=n9_; clear n0_ n1_ n2_ n3_ n4_ n5_ n6_ n7_ n8_ n9_; clear hb hbox hg))
 have n0_:=am_ (blk_drew BK609.out)
 have n1_:=am_ (blk_drew BK610.out)
 have n2_:=am_ (blk_drew BK611.out)
 have n3_:=am_ (below_drew1 HB.out)
 clear BK609
 clear BK610
 clear BK611
 clear HB
 have BK609:=n0_
 have BK610:=n1_
 have BK611:=n2_
 have HB:=n3_
 clear n0_ n1_ n2_ n3_
 refine start_ (n:=16) (S:=fun w' => w'.cell? ⟨gb609,0,none⟩ = some (.int .i64 a0_0) ∧ w'.cell? ⟨gb609,1,none⟩ = some (.int .i64 a0_1) ∧ w'.cell? ⟨gb609,2,none⟩ = some (.slice A0_2 l0_2.length c0_2) ∧ w'.cell? ⟨gb609,3,none⟩ = some (.slice A0_3 l0_3.length c0_3) ∧ w'.cell? ⟨gb610,0,none⟩ = some (.int .i64 a1_0) ∧ w'.cell? ⟨gb610,1,none⟩ = some (.int .i64 a1_1) ∧ w'.cell? ⟨gb610,2,none⟩ = some (.slice A1_2 l1_2.length c1_2) ∧ w'.cell? ⟨gb610,3,none⟩ = some (.slice A1_3 l1_3.length c1_3)) (ds:=[]) #[false,false,false,false,false,false,false,false,false,false,false,false,false,false,false,false] (by kernel_rfl) rfl rfl ⟨(bc_ BK609.out 0).trans rfl,(bc_ BK609.out 1).trans rfl,(bc_ BK609.out 2).trans rfl,(bc_ BK609.out 3).trans rfl,(bc_ BK610.out 0).trans rfl,(bc_ BK610.out 1).trans rfl,(bc_ BK610.out 2).trans rfl,(bc_ BK610.out 3).trans rfl⟩ (fun hHeld => ?_); refine with_tabW spec_fiLess.tab1 spec_fiLess.bits1 (fun HT_ HW_ => ?_)
 generalize w7.drew = w8 at BK609 BK610 BK611 HB hHeld ⊢
 refine pure_ (i:=0) (N:=some 5) (v:=?_) (a':=?_) #[true,false,false,false,false,false,false,false,false,false,false,false,false,false,false,false] rfl rfl (any_of HT_.out (by kernel_rfl)) (fun _ _ _ h => h) (Or.inl ⟨by rfl,?_⟩) ?_ ?_
 rotate_left
 ·intro w'
  go_simp
  with_reducible rfl
 rotate_left
 ·simp only [Act.put,List.setIfInBounds_toArray,List.set_cons_zero,List.set_cons_succ,i64_w,i32_w]
  rfl
 refine pure_ (i:=2) (N:=some 7) (v:=?_) (a':=?_) #[true,false,true,false,false,false,false,false,false,false,false,false,false,false,false,false] rfl rfl (any_of HT_.out (by kernel_rfl)) (fun _ _ _ h => h) (Or.inl ⟨by rfl,?_⟩) ?_ ?_
 rotate_left
 ·intro w'
  go_simp
  with_reducible rfl
 rotate_left
 ·simp only [Act.put,List.setIfInBounds_toArray,List.set_cons_zero,List.set_cons_succ,i64_w,i32_w]
  rfl
 refine pure_ (i:=4) (N:=some 9) (v:=?_) (a':=?_) #[true,false,true,false,true,false,false,false,false,false,false,false,false,false,false,false] rfl rfl (any_of HT_.out (by kernel_rfl)) (fun _ _ _ h => h) (Or.inl ⟨by rfl,?_⟩) ?_ ?_
 rotate_left
 ·intro w'
  go_simp
  with_reducible rfl
 rotate_left
 ·simp only [Act.put,List.setIfInBounds_toArray,List.set_cons_zero,List.set_cons_succ,i64_w,i32_w]
  rfl
 refine pure_ (i:=6) (N:=some 11) (v:=?_) (a':=?_) #[true,false,true,false,true,false,true,false,false,false,false,false,false,false,false,false] rfl rfl (any_of HT_.out (by kernel_rfl)) (fun _ _ _ h => h) (Or.inl ⟨by rfl,?_⟩) ?_ ?_
 rotate_left
 ·intro w'
  go_simp
  with_reducible rfl
 rotate_left
 ·simp only [Act.put,List.setIfInBounds_toArray,List.set_cons_zero,List.set_cons_succ,i64_w,i32_w]
  rfl
 refine pure_ (i:=9) (N:=some 14) (v:=?_) (a':=?_) #[true,false,true,false,true,false,true,false,false,true,false,false,false,false,false,false] rfl rfl (any_of HT_.out (by kernel_rfl)) (fun _ _ _ h => h) (Or.inl ⟨by rfl,?_⟩) ?_ ?_
 rotate_left
 ·intro w'
  go_simp
  with_reducible rfl
 rotate_left
 ·simp only [Act.put,List.setIfInBounds_toArray,List.set_cons_zero,List.set_cons_succ,i64_w,i32_w]
  rfl
 refine pure_ (i:=11) (N:=some 16) (v:=?_) (a':=?_) #[true,false,true,false,true,false,true,false,false,true,false,true,false,false,false,false] rfl rfl (any_of HT_.out (by kernel_rfl)) (fun _ _ _ h => h) (Or.inl ⟨by rfl,?_⟩) ?_ ?_
 rotate_left
 ·intro w'
  go_simp
  with_reducible rfl
 rotate_left
 ·simp only [Act.put,List.setIfInBounds_toArray,List.set_cons_zero,List.set_cons_succ,i64_w,i32_w]
  rfl
 refine take_ (i:=1) (N:=some 6) (v:=?_) (a':=?_) #[true,true,true,false,true,false,true,false,false,true,false,true,false,false,false,false] rfl rfl (take_ofW HT_.out HW_.out (by kernel_rfl)) (fun _ _ _ h => h) (Or.inl ⟨by rfl,?_⟩) hHeld ?_ ?_
 rotate_left
 ·rintro w' ⟨s0,s1,s2,s3,s4,s5,s6,s7⟩
  go_simp
  with_reducible rfl
 rotate_left
 ·simp only [Act.put,List.setIfInBounds_toArray,List.set_cons_zero,List.set_cons_succ,i64_w,i32_w]
  rfl
 refine take_ (i:=3) (N:=some 8) (v:=?_) (a':=?_) #[true,true,true,true,true,false,true,false,false,true,false,true,false,false,false,false] rfl rfl (take_ofW HT_.out HW_.out (by kernel_rfl)) (fun _ _ _ h => h) (Or.inl ⟨by rfl,?_⟩) hHeld ?_ ?_
 rotate_left
 ·rintro w' ⟨s0,s1,s2,s3,s4,s5,s6,s7⟩
  go_simp
  with_reducible rfl
 rotate_left
 ·simp only [Act.put,List.setIfInBounds_toArray,List.set_cons_zero,List.set_cons_succ,i64_w,i32_w]
  rfl
 refine take_ (i:=5) (N:=some 10) (v:=?_) (a':=?_) #[true,true,true,true,true,true,true,false,false,true,false,true,false,false,false,false] rfl rfl (take_ofW HT_.out HW_.out (by kernel_rfl)) (fun _ _ _ h => h) (Or.inl ⟨by rfl,?_⟩) hHeld ?_ ?_
 rotate_left
 ·rintro w' ⟨s0,s1,s2,s3,s4,s5,s6,s7⟩
  go_simp
  with_reducible rfl
 rotate_left
 ·simp only [Act.put,List.setIfInBounds_toArray,List.set_cons_zero,List.set_cons_succ,i64_w,i32_w]
  rfl
 refine take_ (i:=7) (N:=some 12) (v:=?_) (a':=?_) #[true,true,true,true,true,true,true,true,false,true,false,true,false,false,false,false] rfl rfl (take_ofW HT_.out HW_.out (by kernel_rfl)) (fun _ _ _ h => h) (Or.inl ⟨by rfl,?_⟩) hHeld ?_ ?_
 rotate_left
 ·rintro w' ⟨s0,s1,s2,s3,s4,s5,s6,s7⟩
  go_simp
  with_reducible rfl
 rotate_left
 ·simp only [Act.put,List.setIfInBounds_toArray,List.set_cons_zero,List.set_cons_succ,i64_w,i32_w]
  rfl
 refine take_ (i:=10) (N:=some 15) (v:=?_) (a':=?_) #[true,true,true,true,true,true,true,true,false,true,true,true,false,false,false,false] rfl rfl (take_ofW HT_.out HW_.out (by kernel_rfl)) (fun _ _ _ h => h) (Or.inl ⟨by rfl,?_⟩) hHeld ?_ ?_
 rotate_left
 ·rintro w' ⟨s0,s1,s2,s3,s4,s5,s6,s7⟩
  go_simp
  with_reducible rfl
 rotate_left
 ·simp only [Act.put,List.setIfInBounds_toArray,List.set_cons_zero,List.set_cons_succ,i64_w,i32_w]
  rfl
 refine take_ (i:=12) (N:=some 17) (v:=?_) (a':=?_) #[true,true,true,true,true,true,true,true,false,true,true,true,true,false,false,false] rfl rfl (take_ofW HT_.out HW_.out (by kernel_rfl)) (fun _ _ _ h => h) (Or.inl ⟨by rfl,?_⟩) hHeld ?_ ?_
 rotate_left
 ·rintro w' ⟨s0,s1,s2,s3,s4,s5,s6,s7⟩
  go_simp
  with_reducible rfl
 rotate_left
 ·simp only [Act.put,List.setIfInBounds_toArray,List.set_cons_zero,List.set_cons_succ,i64_w,i32_w]
  rfl
 refine one_ (i:=8) (N:=some 13) #[true,true,true,true,true,true,true,true,true,true,true,true,true,false,false,false] rfl rfl (one_of HT_.out (by kernel_rfl)) (by decide) (fun K hK => ?_)
 refine goes_ Tryd.func137 (by kernel_rfl) rfl #[.slice A0_2 l0_2.length c0_2,.slice A1_2 l1_2.length c1_2,.bool false] (by rfl) rfl rfl ob_ ?_
 with_reducible refine (spec_fiThose.calls k _ _ l0_2 _ _ l1_2 false t612 _ ?side1 ?side2 ?side3 ?side4 A3.out).mono ?_
 (case side1 => exact kc_ (Kd.C_below HR0_2.out HB.out))
 (case side2 => exact HC0_2.out)
 (case side3 => exact kc_ (Kd.C_below HR1_2.out HB.out))
 (case side4 => exact HC1_2.out)
 rintro e w9 ⟨v613,rfl,ho0,hb⟩
 refine ⟨_,rfl,?_⟩
 have n0_:=am_ (Kd.R_lower ho0 (below_size (bl3_ HB.out GE609.out GE610.out GE611.out)))
 have n1_:=am_ (bb_ BK609.out hb)
 have n2_:=am_ (bb_ BK610.out hb)
 have n3_:=am_ (bb_ BK611.out hb)
 have n4_:=am_ (below_step (bl3_ HB.out GE609.out GE610.out GE611.out) hb)
 clear BK609
 clear BK610
 clear BK611
 clear HB
 have HO614:=n0_
 have BK609:=n1_
 have BK610:=n2_
 have BK611:=n3_
 have HB:=n4_
 clear n0_ n1_ n2_ n3_ n4_
 (try clear hb)
 (try clear hb2)
 (try clear hk)
 (try clear hi)
 (try clear ho0)
 refine hK.out _ _ ⟨(bc_ BK609.out 0).trans rfl,(bc_ BK609.out 1).trans rfl,(bc_ BK609.out 2).trans rfl,(bc_ BK609.out 3).trans rfl,(bc_ BK610.out 0).trans rfl,(bc_ BK610.out 1).trans rfl,(bc_ BK610.out 2).trans rfl,(bc_ BK610.out 3).trans rfl⟩ (fun hHeld => ?_)
 clear hK K
 refine norm_ (a':=?_) ?_ ?_
 rotate_left
 ·show Act.put _ (some 13) _ = _
  simp only [Act.put,List.setIfInBounds_toArray,List.set_cons_zero,List.set_cons_succ,i64_w,i32_w]
  rfl
 refine one_ (i:=13) (N:=some 18) #[true,true,true,true,true,true,true,true,true,true,true,true,true,true,false,false] rfl rfl (one_of HT_.out (by kernel_rfl)) (by decide) (fun K hK => ?_)
 refine goes_ Tryd.func137 (by kernel_rfl) rfl #[.slice A0_3 l0_3.length c0_3,.slice A1_3 l1_3.length c1_3,.bool false] (by rfl) rfl rfl ob_ ?_
 with_reducible refine (spec_fiThose.calls k _ _ l0_3 _ _ l1_3 false t615 _ ?side1 ?side2 ?side3 ?side4 A4.out).mono ?_
 (case side1 => exact kc_ (Kd.C_below HR0_3.out HB.out))
 (case side2 => exact HC0_3.out)
 (case side3 => exact kc_ (Kd.C_below HR1_3.out HB.out))
 (case side4 => exact HC1_3.out)
 rintro e w10 ⟨v616,rfl,ho0,hb⟩
 refine ⟨_,rfl,?_⟩
 have n0_:=am_ (Kd.R_elder' (kr_ HO614.out) (Kd.R_base ho0) hb)
 have n1_:=am_ (Kd.R_lower (Kd.R_new' ho0 (Kd.R_lt (kr_ HO614.out))) (below_size (bl3_ HB.out GE609.out GE610.out GE611.out)))
 have n2_:=am_ (bb_ BK609.out hb)
 have n3_:=am_ (bb_ BK610.out hb)
 have n4_:=am_ (bb_ BK611.out hb)
 have n5_:=am_ (below_step (bl3_ HB.out GE609.out GE610.out GE611.out) hb)
 clear HO614
 clear BK609
 clear BK610
 clear BK611
 clear HB
 have HO614:=n0_
 have HO617:=n1_
 have BK609:=n2_
 have BK610:=n3_
 have BK611:=n4_
 have HB:=n5_
 clear n0_ n1_ n2_ n3_ n4_ n5_
 (try clear hb)
 (try clear hb2)
 (try clear hk)
 (try clear hi)
 (try clear ho0)
 obtain ⟨Ao11,co11,eo11⟩:=Kd.R_slice HO617.out
 (first | subst eo11 | (injection eo11 with f1_ f2_ f3_; have f4_:=f1_.symm; have f5_:=f3_.symm; clear f1_ f2_ f3_; subst f4_; subst f5_))
 obtain ⟨Ao12,co12,eo12⟩:=Kd.R_slice HO614.out
 (first | subst eo12 | (injection eo12 with f1_ f2_ f3_; have f4_:=f1_.symm; have f5_:=f3_.symm; clear f1_ f2_ f3_; subst f4_; subst f5_))
 refine hK.out _ _ ⟨(bc_ BK609.out 0).trans rfl,(bc_ BK609.out 1).trans rfl,(bc_ BK609.out 2).trans rfl,(bc_ BK609.out 3).trans rfl,(bc_ BK610.out 0).trans rfl,(bc_ BK610.out 1).trans rfl,(bc_ BK610.out 2).trans rfl,(bc_ BK610.out 3).trans rfl⟩ (fun hHeld => ?_)
 clear hK K
 refine norm_ (a':=?_) ?_ ?_
 rotate_left
 ·show Act.put _ (some 18) _ = _
  simp only [Act.put,List.setIfInBounds_toArray,List.set_cons_zero,List.set_cons_succ,i64_w,i32_w]
  rfl
 refine pure_ (i:=14) (N:=some 19) (v:=?_) (a':=?_) #[true,true,true,true,true,true,true,true,true,true,true,true,true,true,true,false] rfl rfl (any_of HT_.out (by kernel_rfl)) (fun _ _ _ h => h) (Or.inl ⟨by rfl,?_⟩) ?_ ?_
 rotate_left
 ·intro w'
  go_simp
  with_reducible rfl
 rotate_left
 ·simp only [Act.put,List.setIfInBounds_toArray,List.set_cons_zero,List.set_cons_succ,i64_w,i32_w]
  rfl
 refine one_ (i:=15) (N:=none) #[true,true,true,true,true,true,true,true,true,true,true,true,true,true,true,true] rfl rfl (one_of HT_.out (by kernel_rfl)) (by decide) (fun K hK => ?_)
 have hs13:w10.cell? ⟨gb611,0,none⟩ = some (.int .i64 0):=(bc_ BK611.out 0).trans rfl
 have hfs13:=bz_ BK611.out 0
 have hns13_0:=NB609_611.out
 have hns13_1:=NB610_611.out
 have hms13_0:=NB611_609.out
 have hms13_1:=NB611_610.out
 have hs14:w10.cell? ⟨gb611,1,none⟩ = some (.int .i64 0):=(bc_ BK611.out 1).trans rfl
 have hfs14:=bz_ BK611.out 1
 have hns14_0:=NB609_611.out
 have hns14_1:=NB610_611.out
 have hms14_0:=NB611_609.out
 have hms14_1:=NB611_610.out
 have hs15:w10.cell? ⟨gb611,2,none⟩ = some (.slice none 0 0):=(bc_ BK611.out 2).trans rfl
 have hfs15:=bz_ BK611.out 2
 have hns15_0:=NB609_611.out
 have hns15_1:=NB610_611.out
 have hms15_0:=NB611_609.out
 have hms15_1:=NB611_610.out
 have hs16:w10.cell? ⟨gb611,3,none⟩ = some (.slice none 0 0):=(bc_ BK611.out 3).trans rfl
 have hfs16:=bz_ BK611.out 3
 have hns16_0:=NB609_611.out
 have hns16_1:=NB610_611.out
 have hms16_0:=NB611_609.out
 have hms16_1:=NB611_610.out
 refine skip_ (w1:=?_) (by rfl) rfl ?_ ?_
 rotate_left
 ·go_simp
  rfl
 refine hK.out _ _ ⟨((cell_far (p:=⟨gb611,_,none⟩) NB609_611.out _).trans (((cell_far (p:=⟨gb611,_,none⟩) NB609_611.out _).trans (((cell_far (p:=⟨gb611,_,none⟩) NB609_611.out _).trans (((cell_far (p:=⟨gb611,_,none⟩) NB609_611.out _).trans (hHeld.1)))))))),((cell_far (p:=⟨gb611,_,none⟩) NB609_611.out _).trans (((cell_far (p:=⟨gb611,_,none⟩) NB609_611.out _).trans (((cell_far (p:=⟨gb611,_,none⟩) NB609_611.out _).trans (((cell_far (p:=⟨gb611,_,none⟩) NB609_611.out _).trans (hHeld.2.1)))))))),((cell_far (p:=⟨gb611,_,none⟩) NB609_611.out _).trans (((cell_far (p:=⟨gb611,_,none⟩) NB609_611.out _).trans (((cell_far (p:=⟨gb611,_,none⟩) NB609_611.out _).trans (((cell_far (p:=⟨gb611,_,none⟩) NB609_611.out _).trans (hHeld.2.2.1)))))))),((cell_far (p:=⟨gb611,_,none⟩) NB609_611.out _).trans (((cell_far (p:=⟨gb611,_,none⟩) NB609_611.out _).trans (((cell_far (p:=⟨gb611,_,none⟩) NB609_611.out _).trans (((cell_far (p:=⟨gb611,_,none⟩) NB609_611.out _).trans (hHeld.2.2.2.1)))))))),((cell_far (p:=⟨gb611,_,none⟩) NB610_611.out _).trans (((cell_far (p:=⟨gb611,_,none⟩) NB610_611.out _).trans (((cell_far (p:=⟨gb611,_,none⟩) NB610_611.out _).trans (((cell_far (p:=⟨gb611,_,none⟩) NB610_611.out _).trans (hHeld.2.2.2.2.1)))))))),((cell_far (p:=⟨gb611,_,none⟩) NB610_611.out _).trans (((cell_far (p:=⟨gb611,_,none⟩) NB610_611.out _).trans (((cell_far (p:=⟨gb611,_,none⟩) NB610_611.out _).trans (((cell_far (p:=⟨gb611,_,none⟩) NB610_611.out _).trans (hHeld.2.2.2.2.2.1)))))))),((cell_far (p:=⟨gb611,_,none⟩) NB610_611.out _).trans (((cell_far (p:=⟨gb611,_,none⟩) NB610_611.out _).trans (((cell_far (p:=⟨gb611,_,none⟩) NB610_611.out _).trans (((cell_far (p:=⟨gb611,_,none⟩) NB610_611.out _).trans (hHeld.2.2.2.2.2.2.1)))))))),((cell_far (p:=⟨gb611,_,none⟩) NB610_611.out _).trans (((cell_far (p:=⟨gb611,_,none⟩) NB610_611.out _).trans (((cell_far (p:=⟨gb611,_,none⟩) NB610_611.out _).trans (((cell_far (p:=⟨gb611,_,none⟩) NB610_611.out _).trans (hHeld.2.2.2.2.2.2.2))))))))⟩ (fun hHeld => ?_)
 clear hK K
 refine done_ (done_of HT_.out (by kernel_rfl)) ?_
 try go_wp2
 refine bodyPost_ret (results_cell_row rfl _ _ gb611 36 #[.int .i64 a0_0,.int .i64 a0_1,.slice Ao12 t612.length co12,.slice Ao11 t615.length co11] (0,0) _ rfl (by (with_reducible repeat (first | refine blk_drewN ?_ _ | refine blk_drew ?_ | refine blk_alloc ?_ _)); refine blk_put (cs:=#[.int .i64 a0_0,.int .i64 a0_1,.slice Ao12 t612.length co12,.slice none 0 0]) ?_ 3 _ rfl; (with_reducible repeat (first | refine blk_drewN ?_ _ | refine blk_drew ?_ | refine blk_alloc ?_ _)); refine blk_put (cs:=#[.int .i64 a0_0,.int .i64 a0_1,.slice none 0 0,.slice none 0 0]) ?_ 2 _ rfl; (with_reducible repeat (first | refine blk_drewN ?_ _ | refine blk_drew ?_ | refine blk_alloc ?_ _)); refine blk_put (cs:=#[.int .i64 a0_0,.int .i64 0,.slice none 0 0,.slice none 0 0]) ?_ 1 _ rfl; (with_reducible repeat (first | refine blk_drewN ?_ _ | refine blk_drew ?_ | refine blk_alloc ?_ _)); refine blk_put (cs:=#[.int .i64 0,.int .i64 0,.slice none 0 0,.slice none 0 0]) ?_ 0 _ rfl; (with_reducible repeat (first | refine blk_drewN ?_ _ | refine blk_drew ?_ | refine blk_alloc ?_ _)); exact BK611.out) Tryd.underlying36 rfl (by kernel_rfl)) rfl ?_
 exact ⟨_,_,er_,by (with_reducible repeat (first | apply Kd.R_alloc | apply Kd.R_drewN | apply Kd.R_drew)); exact Kd.R_mono (Kd.R_far (p:=⟨gb611,3,none⟩) (Kd.R_far (p:=⟨gb611,2,none⟩) (Kd.R_far (p:=⟨gb611,1,none⟩) (Kd.R_far (p:=⟨gb611,0,none⟩) (Kd.R_types HO614.out BK611.out (by decide)) (fun _ hk => hk.2) (.int .i64 a0_0)) (fun _ hk => hk.2) (.int .i64 a0_1)) (fun _ hk => hk.2) (.slice Ao12 t612.length co12)) (fun _ hk => hk.2) (.slice Ao11 t615.length co11)) (fun _ hk => hk.1.2),by (with_reducible repeat (first | apply Kd.R_alloc | apply Kd.R_drewN | apply Kd.R_drew)); exact Kd.R_mono (Kd.R_far (p:=⟨gb611,3,none⟩) (Kd.R_far (p:=⟨gb611,2,none⟩) (Kd.R_far (p:=⟨gb611,1,none⟩) (Kd.R_far (p:=⟨gb611,0,none⟩) (Kd.R_types HO617.out BK611.out (by decide)) (fun _ hk => hk.2) (.int .i64 a0_0)) (fun _ hk => hk.2) (.int .i64 a0_1)) (fun _ hk => hk.2) (.slice Ao12 t612.length co12)) (fun _ hk => hk.2) (.slice Ao11 t615.length co11)) (fun _ hk => hk.1.2),bl3_ HB.out GE609.out GE610.out GE611.out⟩


def spec_fiMissing.f (k:Nat) (a0_0:Int) (a0_1:Int) (l0_2:List Int) (l0_3:List Int):Option (Int × Int × List Int × List Int):=(spec_fiFull.f k a0_0 a0_1).bind fun bt620 => ((spec_fiLess.f k bt620.1 bt620.2.1 bt620.2.2.1 bt620.2.2.2 a0_0 a0_1 l0_2 l0_3).bind fun bt628 => (some (bt628.1,bt628.2.1,bt628.2.2.1,bt628.2.2.2)))
theorem spec_fiMissing.mono:∀ a0 a1 a2 a3 k,LeO (spec_fiMissing.f k a0 a1 a2 a3) (spec_fiMissing.f (k + 1) a0 a1 a2 a3):=by
 intro a0 a1 a2 a3 k
 unfold spec_fiMissing.f
 repeat' first | (with_reducible first | exact spec_fiFull.mono _ _ _ | exact spec_fiLess.mono _ _ _ _ _ _ _ _ _ | exact LeO.refl _ | exact LeO.none _ | refine LeO.ite ?_ ?_ | refine LeO.bind ?_ (fun _ => ?_)) | exact spec_fiFull.mono _ _ _ | exact spec_fiLess.mono _ _ _ _ _ _ _ _ _
def spec_fiMissing.T1:Bool × List (List Nat × List Nat):=(true,[([],[]),([0],[0]),([],[]),([2],[2]),([1,3],[1,3]),([],[]),([4,5,4],[4,5]),([6,6,0,1,2,3,4,5,6],[6])])
def spec_fiMissing.B1:List Nat:=[0,1,0,4,15,0,63,127]
theorem spec_fiMissing.tab1:rtab .any (opsOf Tryd.f114 1) = spec_fiMissing.T1:=by kernel_rfl
theorem spec_fiMissing.bits1:waitsOk spec_fiMissing.T1.2 spec_fiMissing.B1 = true:=by kernel_rfl
set_option maxHeartbeats 8000000 in
set_option maxRecDepth 100000 in
theorem spec_fiMissing.calls (k:Nat) (a0_0:Int) (a0_1:Int) (A0_2:Option Addr) (c0_2:Nat) (l0_2:List Int) (A0_3:Option Addr) (c0_3:Nat) (l0_3:List Int) (r1:Int) (r2:Int) (r3:List Int) (r4:List Int) (w:World) (hr0_2:Kd.C (Kd.int .i64) w A0_2 l0_2.length l0_2) (hc0_2:l0_2.length ≤ c0_2) (hr0_3:Kd.C (Kd.int .i64) w A0_3 l0_3.length l0_3) (hc0_3:l0_3.length ≤ c0_3) (h:spec_fiMissing.f k a0_0 a0_1 l0_2 l0_3 = some (r1,r2,r3,r4)) :
  Calls Tryd.prog 114 #[.agg #[.int .i64 a0_0,.int .i64 a0_1,.slice A0_2 l0_2.length c0_2,.slice A0_3 l0_3.length c0_3]] w fun e w' => ∃ v2_ v3_:Value,e = .returned (.agg #[.int .i64 r1,.int .i64 r2,v2_,v3_]) ∧ Kd.R (Kd.int .i64) 3 w' w.heap.size (fun k_ => some k_ ≠ (v3_:Value).ownBlock) v2_ r3 ∧ Kd.R (Kd.int .i64) 3 w' w.heap.size (fun k_ => some k_ ≠ (v2_:Value).ownBlock) v3_ r4 ∧ Below w.heap.size w w':=by
 have hu36:=Tryd.underlying36
 have HR0_2:=am_ hr0_2
 have HC0_2:=am_ hc0_2
 clear hr0_2 hc0_2
 have HR0_3:=am_ hr0_3
 have HC0_3:=am_ hc0_3
 clear hr0_3 hc0_3
 have HB:=am_ (Below.refl w.heap.size w)
 have H:((spec_fiFull.f k a0_0 a0_1).bind fun bt620 => ((spec_fiLess.f k bt620.1 bt620.2.1 bt620.2.2.1 bt620.2.2.2 a0_0 a0_1 l0_2 l0_3).bind fun bt628 => (some (bt628.1,bt628.2.1,bt628.2.2.1,bt628.2.2.2)))) = some (r1,r2,r3,r4):=h
 clear h
 replace H:=bi_ H
 obtain ⟨⟨t620,t621,t622,t625⟩,A20,H⟩:=H
 replace H:((spec_fiLess.f k t620 t621 t622 t625 a0_0 a0_1 l0_2 l0_3).bind fun bt628 => (some (bt628.1,bt628.2.1,bt628.2.2.1,bt628.2.2.2))) = some (r1,r2,r3,r4):=H
 have A2:=am_ A20
 clear A20
 replace H:=bi_ H
 obtain ⟨⟨t628,t629,t630,t633⟩,A30,H⟩:=H
 replace H:(some (t628,t629,t630,t633)) = some (r1,r2,r3,r4):=H
 have A3:=am_ A30
 clear A30
 simp only [Option.some.injEq,Prod.mk.injEq] at H
 obtain ⟨rfl,rfl,rfl,rfl⟩:=H
 go_enter Tryd.func114,Tryd.ntmps114
 try go_wp2_with (first | ((with_reducible refine gate_dst (N:=1) rfl ?_); refine boxE_ (N:=1) (cs:=#[.int .i64 a0_0,.int .i64 a0_1,.slice A0_2 l0_2.length c0_2,.slice A0_3 l0_3.length c0_3]) (t:=36) ?_; intro gb618 hg w4 hbox hb; have n0_:=am_ (below_step (bl0_ HB.out) hb); have n1_:=am_ (hbox); have n2_:=am_ ((bs0_ hg HB.out:w.heap.size ≤ gb618)); have n3_:=am_ ((bs0_ hg HB.out:w.heap.size ≤ gb618)); clear HB; have HB:=n0_; have BK618:=n1_; have GW618:=n2_; have GE618:=n3_; clear n0_ n1_ n2_ n3_; clear hb hbox hg) | ((with_reducible refine gate_dst (N:=2) rfl ?_); refine boxE_ (N:=2) (cs:=#[.int .i64 0,.int .i64 0,.slice none 0 0,.slice none 0 0]) (t:=36) ?_; intro gb619 hg w5 hbox hb; have n0_:=am_ (bb_ BK618.out hb); have n1_:=am_ (below_step (bl1_ HB.out GE618.out) hb); have n2_:=am_ (hbox); have n3_:=am_ ((bs1_ hg HB.out GE618.out:w.heap.size ≤ gb619)); have n4_:=am_ ((bs1_ hg HB.out GE618.out:w.heap.size ≤ gb619)); have n5_:=am_ ((nl_ hg BK618.out:gb618 ≠ gb619)); have n6_:=am_ ((ng_ hg BK618.out:gb619 ≠ gb618)); clear BK618; clear HB; have BK618:=n0_; have HB:=n1_; have BK619:=n2_; have GW619:=n3_; have GE619:=n4_; have NB618_619:=n5_; have NB619_618:=n6_; clear n0_ n1_ n2_ n3_ n4_ n5_ n6_; clear hb hbox hg))
 have n0_:=am_ (blk_drew BK618.out)
 have n1_:=am_ (blk_drew BK619.out)
 have n2_:=am_ (below_drew1 HB.out)
 clear BK618
 clear BK619
 clear HB
 have BK618:=n0_
 have BK619:=n1_
 have HB:=n2_
 clear n0_ n1_ n2_
 refine start_ (n:=8) (S:=fun w' => w'.cell? ⟨gb618,0,none⟩ = some (.int .i64 a0_0) ∧ w'.cell? ⟨gb618,1,none⟩ = some (.int .i64 a0_1) ∧ w'.cell? ⟨gb618,2,none⟩ = some (.slice A0_2 l0_2.length c0_2) ∧ w'.cell? ⟨gb618,3,none⟩ = some (.slice A0_3 l0_3.length c0_3)) (ds:=[]) #[false,false,false,false,false,false,false,false] (by kernel_rfl) rfl rfl ⟨(bc_ BK618.out 0).trans rfl,(bc_ BK618.out 1).trans rfl,(bc_ BK618.out 2).trans rfl,(bc_ BK618.out 3).trans rfl⟩ (fun hHeld => ?_); refine with_tabW spec_fiMissing.tab1 spec_fiMissing.bits1 (fun HT_ HW_ => ?_)
 generalize w5.drew = w6 at BK618 BK619 HB hHeld ⊢
 refine pure_ (i:=0) (N:=some 3) (v:=?_) (a':=?_) #[true,false,false,false,false,false,false,false] rfl rfl (any_of HT_.out (by kernel_rfl)) (fun _ _ _ h => h) (Or.inl ⟨by rfl,?_⟩) ?_ ?_
 rotate_left
 ·intro w'
  go_simp
  with_reducible rfl
 rotate_left
 ·simp only [Act.put,List.setIfInBounds_toArray,List.set_cons_zero,List.set_cons_succ,i64_w,i32_w]
  rfl
 refine pure_ (i:=2) (N:=some 5) (v:=?_) (a':=?_) #[true,false,true,false,false,false,false,false] rfl rfl (any_of HT_.out (by kernel_rfl)) (fun _ _ _ h => h) (Or.inl ⟨by rfl,?_⟩) ?_ ?_
 rotate_left
 ·intro w'
  go_simp
  with_reducible rfl
 rotate_left
 ·simp only [Act.put,List.setIfInBounds_toArray,List.set_cons_zero,List.set_cons_succ,i64_w,i32_w]
  rfl
 refine take_ (i:=1) (N:=some 4) (v:=?_) (a':=?_) #[true,true,true,false,false,false,false,false] rfl rfl (take_ofW HT_.out HW_.out (by kernel_rfl)) (fun _ _ _ h => h) (Or.inl ⟨by rfl,?_⟩) hHeld ?_ ?_
 rotate_left
 ·rintro w' ⟨s0,s1,s2,s3⟩
  go_simp
  with_reducible rfl
 rotate_left
 ·simp only [Act.put,List.setIfInBounds_toArray,List.set_cons_zero,List.set_cons_succ,i64_w,i32_w]
  rfl
 refine take_ (i:=3) (N:=some 6) (v:=?_) (a':=?_) #[true,true,true,true,false,false,false,false] rfl rfl (take_ofW HT_.out HW_.out (by kernel_rfl)) (fun _ _ _ h => h) (Or.inl ⟨by rfl,?_⟩) hHeld ?_ ?_
 rotate_left
 ·rintro w' ⟨s0,s1,s2,s3⟩
  go_simp
  with_reducible rfl
 rotate_left
 ·simp only [Act.put,List.setIfInBounds_toArray,List.set_cons_zero,List.set_cons_succ,i64_w,i32_w]
  rfl
 refine take_ (i:=5) (N:=some 8) (v:=?_) (a':=?_) #[true,true,true,true,false,true,false,false] rfl rfl (take_ofW HT_.out HW_.out (by kernel_rfl)) (fun _ _ _ h => h) (Or.inl ⟨by rfl,?_⟩) hHeld ?_ ?_
 rotate_left
 ·rintro w' ⟨s0,s1,s2,s3⟩
  go_simp
  with_reducible rfl
 rotate_left
 ·simp only [Act.put,List.setIfInBounds_toArray,List.set_cons_zero,List.set_cons_succ,i64_w,i32_w]
  rfl
 refine one_ (i:=4) (N:=some 7) #[true,true,true,true,true,true,false,false] rfl rfl (one_of HT_.out (by kernel_rfl)) (by decide) (fun K hK => ?_)
 refine goes_ Tryd.func111 (by kernel_rfl) rfl #[.int .i64 a0_0,.int .i64 a0_1] (by rfl) rfl rfl ob_ ?_
 with_reducible refine (spec_fiFull.calls k a0_0 a0_1 t620 t621 t622 t625 _ A2.out).mono ?_
 rintro e w7 ⟨v623,v626,rfl,ho0,ho1,hb⟩
 refine ⟨_,rfl,?_⟩
 have n0_:=am_ (Kd.R_lower ho0 (below_size (bl2_ HB.out GE618.out GE619.out)))
 have n1_:=am_ (Kd.R_lower ho1 (below_size (bl2_ HB.out GE618.out GE619.out)))
 have n2_:=am_ (bb_ BK618.out hb)
 have n3_:=am_ (bb_ BK619.out hb)
 have n4_:=am_ (below_step (bl2_ HB.out GE618.out GE619.out) hb)
 clear BK618
 clear BK619
 clear HB
 have HO624:=n0_
 have HO627:=n1_
 have BK618:=n2_
 have BK619:=n3_
 have HB:=n4_
 clear n0_ n1_ n2_ n3_ n4_
 (try clear hb)
 (try clear hb2)
 (try clear hk)
 (try clear hi)
 (try clear ho0)
 (try clear ho1)
 obtain ⟨Ao8,co8,eo8⟩:=Kd.R_slice HO624.out
 (first | subst eo8 | (injection eo8 with f1_ f2_ f3_; have f4_:=f1_.symm; have f5_:=f3_.symm; clear f1_ f2_ f3_; subst f4_; subst f5_))
 obtain ⟨Ao9,co9,eo9⟩:=Kd.R_slice HO627.out
 (first | subst eo9 | (injection eo9 with f1_ f2_ f3_; have f4_:=f1_.symm; have f5_:=f3_.symm; clear f1_ f2_ f3_; subst f4_; subst f5_))
 refine hK.out _ _ ⟨(bc_ BK618.out 0).trans rfl,(bc_ BK618.out 1).trans rfl,(bc_ BK618.out 2).trans rfl,(bc_ BK618.out 3).trans rfl⟩ (fun hHeld => ?_)
 clear hK K
 refine norm_ (a':=?_) ?_ ?_
 rotate_left
 ·show Act.put _ (some 7) _ = _
  simp only [Act.put,List.setIfInBounds_toArray,List.set_cons_zero,List.set_cons_succ,i64_w,i32_w]
  rfl
 refine one_ (i:=6) (N:=some 9) #[true,true,true,true,true,true,true,false] rfl rfl (one_of HT_.out (by kernel_rfl)) (by decide) (fun K hK => ?_)
 refine goes_ Tryd.func115 (by kernel_rfl) rfl #[.agg #[.int .i64 t620,.int .i64 t621,.slice Ao8 t622.length co8,.slice Ao9 t625.length co9],.agg #[.int .i64 a0_0,.int .i64 a0_1,.slice A0_2 l0_2.length c0_2,.slice A0_3 l0_3.length c0_3]] (by rfl) rfl rfl ob_ ?_
 with_reducible refine (spec_fiLess.calls k t620 t621 _ _ t622 _ _ t625 a0_0 a0_1 _ _ l0_2 _ _ l0_3 t628 t629 t630 t633 _ ?side1 ?side2 ?side3 ?side4 ?side5 ?side6 ?side7 ?side8 A3.out).mono ?_
 (case side1 => repeat (first | exact (Kd.R_reads' HO624.out).2.2 | (with_reducible refine Kd.C_alloc ?_ _) | (with_reducible refine Kd.C_drewN ?_ _) | (with_reducible refine Kd.C_drew ?_)))
 (case side2 => exact (Kd.R_reads' HO624.out).2.1)
 (case side3 => repeat (first | exact (Kd.R_reads' HO627.out).2.2 | (with_reducible refine Kd.C_alloc ?_ _) | (with_reducible refine Kd.C_drewN ?_ _) | (with_reducible refine Kd.C_drew ?_)))
 (case side4 => exact (Kd.R_reads' HO627.out).2.1)
 (case side5 => exact kc_ (Kd.C_below HR0_2.out HB.out))
 (case side6 => exact HC0_2.out)
 (case side7 => exact kc_ (Kd.C_below HR0_3.out HB.out))
 (case side8 => exact HC0_3.out)
 rintro e w10 ⟨v631,v634,rfl,ho0,ho1,hb⟩
 refine ⟨_,rfl,?_⟩
 have n0_:=am_ (Kd.R_mono (Kd.R_told (Kd.R_told (Kd.R_old (kr_ HO624.out) hb) (Kd.R_base ho0)) (Kd.R_base ho1)) (fun _ h_ => h_.1))
 have n1_:=am_ (Kd.R_mono (Kd.R_told (Kd.R_told (Kd.R_old (kr_ HO627.out) hb) (Kd.R_base ho0)) (Kd.R_base ho1)) (fun _ h_ => h_.1))
 have n2_:=am_ (Kd.R_lower (Kd.R_new' (Kd.R_new' ho0 (Kd.R_lt (kr_ HO624.out))) (Kd.R_lt (kr_ HO627.out))) (below_size (bl2_ HB.out GE618.out GE619.out)))
 have n3_:=am_ (Kd.R_lower (Kd.R_new' (Kd.R_new' ho1 (Kd.R_lt (kr_ HO624.out))) (Kd.R_lt (kr_ HO627.out))) (below_size (bl2_ HB.out GE618.out GE619.out)))
 have n4_:=am_ (bb_ BK618.out hb)
 have n5_:=am_ (bb_ BK619.out hb)
 have n6_:=am_ (below_step (bl2_ HB.out GE618.out GE619.out) hb)
 clear HO624
 clear HO627
 clear BK618
 clear BK619
 clear HB
 have HO624:=n0_
 have HO627:=n1_
 have HO632:=n2_
 have HO635:=n3_
 have BK618:=n4_
 have BK619:=n5_
 have HB:=n6_
 clear n0_ n1_ n2_ n3_ n4_ n5_ n6_
 (try clear hb)
 (try clear hb2)
 (try clear hk)
 (try clear hi)
 (try clear ho0)
 (try clear ho1)
 obtain ⟨Ao13,co13,eo13⟩:=Kd.R_slice HO632.out
 (first | subst eo13 | (injection eo13 with f1_ f2_ f3_; have f4_:=f1_.symm; have f5_:=f3_.symm; clear f1_ f2_ f3_; subst f4_; subst f5_))
 obtain ⟨Ao15,co15,eo15⟩:=Kd.R_slice HO635.out
 (first | subst eo15 | (injection eo15 with f1_ f2_ f3_; have f4_:=f1_.symm; have f5_:=f3_.symm; clear f1_ f2_ f3_; subst f4_; subst f5_))
 refine hK.out _ _ ⟨(bc_ BK618.out 0).trans rfl,(bc_ BK618.out 1).trans rfl,(bc_ BK618.out 2).trans rfl,(bc_ BK618.out 3).trans rfl⟩ (fun hHeld => ?_)
 clear hK K
 refine norm_ (a':=?_) ?_ ?_
 rotate_left
 ·show Act.put _ (some 9) _ = _
  simp only [Act.put,List.setIfInBounds_toArray,List.set_cons_zero,List.set_cons_succ,i64_w,i32_w]
  rfl
 refine one_ (i:=7) (N:=none) #[true,true,true,true,true,true,true,true] rfl rfl (one_of HT_.out (by kernel_rfl)) (by decide) (fun K hK => ?_)
 have hs11:w10.cell? ⟨gb619,0,none⟩ = some (.int .i64 0):=(bc_ BK619.out 0).trans rfl
 have hfs11:=bz_ BK619.out 0
 have hns11_0:=NB618_619.out
 have hms11_0:=NB619_618.out
 have hs12:w10.cell? ⟨gb619,1,none⟩ = some (.int .i64 0):=(bc_ BK619.out 1).trans rfl
 have hfs12:=bz_ BK619.out 1
 have hns12_0:=NB618_619.out
 have hms12_0:=NB619_618.out
 have hs14:w10.cell? ⟨gb619,2,none⟩ = some (.slice none 0 0):=(bc_ BK619.out 2).trans rfl
 have hfs14:=bz_ BK619.out 2
 have hns14_0:=NB618_619.out
 have hms14_0:=NB619_618.out
 have hs16:w10.cell? ⟨gb619,3,none⟩ = some (.slice none 0 0):=(bc_ BK619.out 3).trans rfl
 have hfs16:=bz_ BK619.out 3
 have hns16_0:=NB618_619.out
 have hms16_0:=NB619_618.out
 refine skip_ (w1:=?_) (by rfl) rfl ?_ ?_
 rotate_left
 ·go_simp
  rfl
 refine hK.out _ _ ⟨((cell_far (p:=⟨gb619,_,none⟩) NB618_619.out _).trans (((cell_far (p:=⟨gb619,_,none⟩) NB618_619.out _).trans (((cell_far (p:=⟨gb619,_,none⟩) NB618_619.out _).trans (((cell_far (p:=⟨gb619,_,none⟩) NB618_619.out _).trans (hHeld.1)))))))),((cell_far (p:=⟨gb619,_,none⟩) NB618_619.out _).trans (((cell_far (p:=⟨gb619,_,none⟩) NB618_619.out _).trans (((cell_far (p:=⟨gb619,_,none⟩) NB618_619.out _).trans (((cell_far (p:=⟨gb619,_,none⟩) NB618_619.out _).trans (hHeld.2.1)))))))),((cell_far (p:=⟨gb619,_,none⟩) NB618_619.out _).trans (((cell_far (p:=⟨gb619,_,none⟩) NB618_619.out _).trans (((cell_far (p:=⟨gb619,_,none⟩) NB618_619.out _).trans (((cell_far (p:=⟨gb619,_,none⟩) NB618_619.out _).trans (hHeld.2.2.1)))))))),((cell_far (p:=⟨gb619,_,none⟩) NB618_619.out _).trans (((cell_far (p:=⟨gb619,_,none⟩) NB618_619.out _).trans (((cell_far (p:=⟨gb619,_,none⟩) NB618_619.out _).trans (((cell_far (p:=⟨gb619,_,none⟩) NB618_619.out _).trans (hHeld.2.2.2))))))))⟩ (fun hHeld => ?_)
 clear hK K
 refine done_ (done_of HT_.out (by kernel_rfl)) ?_
 try go_wp2
 refine bodyPost_ret (results_cell_row rfl _ _ gb619 36 #[.int .i64 t628,.int .i64 t629,.slice Ao13 t630.length co13,.slice Ao15 t633.length co15] (0,0) _ rfl (by (with_reducible repeat (first | refine blk_drewN ?_ _ | refine blk_drew ?_ | refine blk_alloc ?_ _)); refine blk_put (cs:=#[.int .i64 t628,.int .i64 t629,.slice Ao13 t630.length co13,.slice none 0 0]) ?_ 3 _ rfl; (with_reducible repeat (first | refine blk_drewN ?_ _ | refine blk_drew ?_ | refine blk_alloc ?_ _)); refine blk_put (cs:=#[.int .i64 t628,.int .i64 t629,.slice none 0 0,.slice none 0 0]) ?_ 2 _ rfl; (with_reducible repeat (first | refine blk_drewN ?_ _ | refine blk_drew ?_ | refine blk_alloc ?_ _)); refine blk_put (cs:=#[.int .i64 t628,.int .i64 0,.slice none 0 0,.slice none 0 0]) ?_ 1 _ rfl; (with_reducible repeat (first | refine blk_drewN ?_ _ | refine blk_drew ?_ | refine blk_alloc ?_ _)); refine blk_put (cs:=#[.int .i64 0,.int .i64 0,.slice none 0 0,.slice none 0 0]) ?_ 0 _ rfl; (with_reducible repeat (first | refine blk_drewN ?_ _ | refine blk_drew ?_ | refine blk_alloc ?_ _)); exact BK619.out) Tryd.underlying36 rfl (by kernel_rfl)) rfl ?_
 exact ⟨_,_,er_,by (with_reducible repeat (first | apply Kd.R_alloc | apply Kd.R_drewN | apply Kd.R_drew)); exact Kd.R_mono (Kd.R_far (p:=⟨gb619,3,none⟩) (Kd.R_far (p:=⟨gb619,2,none⟩) (Kd.R_far (p:=⟨gb619,1,none⟩) (Kd.R_far (p:=⟨gb619,0,none⟩) (Kd.R_types HO632.out BK619.out (by decide)) (fun _ hk => hk.2) (.int .i64 t628)) (fun _ hk => hk.2) (.int .i64 t629)) (fun _ hk => hk.2) (.slice Ao13 t630.length co13)) (fun _ hk => hk.2) (.slice Ao15 t633.length co15)) (fun _ hk => hk.1.1.1),by (with_reducible repeat (first | apply Kd.R_alloc | apply Kd.R_drewN | apply Kd.R_drew)); exact Kd.R_mono (Kd.R_far (p:=⟨gb619,3,none⟩) (Kd.R_far (p:=⟨gb619,2,none⟩) (Kd.R_far (p:=⟨gb619,1,none⟩) (Kd.R_far (p:=⟨gb619,0,none⟩) (Kd.R_types HO635.out BK619.out (by decide)) (fun _ hk => hk.2) (.int .i64 t628)) (fun _ hk => hk.2) (.int .i64 t629)) (fun _ hk => hk.2) (.slice Ao13 t630.length co13)) (fun _ hk => hk.2) (.slice Ao15 t633.length co15)) (fun _ hk => hk.1.1.1),bl2_ HB.out GE618.out GE619.out⟩


def spec_l1Own.f (l0:List Int):Option (List Int):=(some (([]:List Int):List Int)).bind fun y636 => (if y636.length + l0.length < 17592186044416 then (some (y636 ++ l0)) else (none))
set_option maxHeartbeats 8000000 in
set_option maxRecDepth 100000 in
theorem spec_l1Own.calls (A0:Option Addr) (c0:Nat) (l0:List Int) (r:List Int) (w:World) (hr0:Kd.C (Kd.int .i64) w A0 l0.length l0) (hc0:l0.length ≤ c0) (h:spec_l1Own.f l0 = some r) :
    Calls Tryd.prog 178 #[.slice A0 l0.length c0] w fun e w' => ∃ v0_:Value,e = .returned (v0_) ∧ Kd.R (Kd.int .i64) 3 w' w.heap.size (fun _ => True) v0_ r ∧ Below w.heap.size w w':=by
  have HR0:=am_ hr0
  have HC0:=am_ hc0
  clear hr0 hc0
  have HB:=am_ (Below.refl w.heap.size w)
  have H:((some (([]:List Int):List Int)).bind fun y636 => (if y636.length + l0.length < 17592186044416 then (some (y636 ++ l0)) else (none))) = some r:=h
  clear h
  obtain ⟨y636,hy636⟩:∃ y_:List Int,y_ = (([]:List Int)):=⟨_,rfl⟩
  replace H:(if y636.length + l0.length < 17592186044416 then (some (y636 ++ l0)) else (none)) = some r:=by first | (rw [hy636]; with_reducible exact H) | (have H2_:=(Option.bind_some _ _).symm.trans H; rw [hy636]; with_reducible exact H2_) | (have H2_:=(Option.bind_some _ _).symm.trans H; with_reducible exact H2_) | with_reducible exact H | (rw [hy636]; exact H) | exact H
  have Ny636:=am_ hy636
  clear hy636
  by_cases c2:y636.length + l0.length < 17592186044416
  · rw [if_pos c2] at H
    have LMc2:=am_ c2
    clear c2
    obtain ⟨y639,hy639⟩:∃ y_:List Int,y_ = (y636 ++ l0):=⟨_,rfl⟩
    replace H:(some y639) = some r:=by first | (rw [hy639]; with_reducible exact H) | (have H2_:=(Option.bind_some _ _).symm.trans H; rw [hy639]; with_reducible exact H2_) | (have H2_:=(Option.bind_some _ _).symm.trans H; with_reducible exact H2_) | with_reducible exact H | (rw [hy639]; exact H) | exact H
    have Ny639:=am_ hy639
    clear hy639
    obtain rfl:=Option.some.inj H
    go_enter Tryd.func178,Tryd.ntmps178
    go_wp2_with (first | ((with_reducible refine gate_dst (N:=3) rfl ?_); refine Kd.R_lit (Kd.int .i64) _ 3 ?hg (N:=3) ?hd (xs:=([]:List Int)) (inner:=[]) (ok:=fun _ => True) (okp:=fun _ => True) ?hr ?hp (fun _ hk => hk) trivial (Below.refl _ _) (Nat.le_refl _) (by simp) ?_; (case hd => rfl); (case hg => rfl); (case hr => first | (go_simp; done) | (go_simp; rfl)); (case hp => exact (Reps.none _ _)); intro v637 w3 ho4 hb hg_ hnew_; clear hg_ hnew_; (first | rw [← Ny636.out] at ho4 | (simp only [Int.reduceToNat] at ho4; rw [← Ny636.out] at ho4)); have n0_:=am_ (Kd.R_lower ho4 (below_size (bl0_ HB.out))); have n1_:=am_ (below_step (bl0_ HB.out) hb); clear HB; have HO638:=n0_; have HB:=n1_; clear n0_ n1_; clear hb ho4) | ((with_reducible refine gate_builtin (b:=.append) (xs:=#[.tmp 3,.tmp 4]) rfl ?_); at_builtin; refine Kd.R_append_rows (Kd.int .i64) (w0:=w) w.heap.size rfl (.tmp 3) (.tmp 4) 22 3 (.int .i64 0) 8 rfl Tryd.underlying22 info3 rfl (by decide) (by omega) v637 y636 l0 _ _ _ (fun _ => True) (fun _ => False) rfl rfl ?aO ?aR (fun _ _ h => h) (fun _ h => h.elim) ?aF ?aB ?aS ?aL ?_; (case aR => exact kc_ (Kd.C_below HR0.out HB.out)); (case aB => exact (bl0_ HB.out)); (case aF => exact (fun _ _ => trivial)); (case aO => exact (kr_ HO638.out)); (case aS => exact (below_size (bl0_ HB.out))); (case aL => have:=LMc2.out; omega); intro v640 w5 ho hb hg hat; rw [← Ny639.out] at ho; have n0_:=am_ (hb); have n1_:=am_ (ho); clear HB; clear HO638; have HB:=n0_; have HO641:=n1_; clear n0_ n1_; clear ho hb hg hat))
    go_ret
    exact ⟨_,er_,by (with_reducible repeat (first | apply Kd.R_alloc | apply Kd.R_drewN | apply Kd.R_drew)); exact HO641.out,bl0_ HB.out⟩
  · rw [if_neg c2] at H
    exact absurd H (by simp)


def spec_fiOwn.f (a0_0:Int) (a0_1:Int) (l0_2:List Int) (l0_3:List Int):Option (Int × Int × List Int × List Int):=(spec_l1Own.f l0_2).bind fun t644 => ((spec_l1Own.f l0_3).bind fun t647 => (some (a0_0,a0_1,t644,t647)))
set_option maxHeartbeats 8000000 in
set_option maxRecDepth 100000 in
theorem spec_fiOwn.calls (a0_0:Int) (a0_1:Int) (A0_2:Option Addr) (c0_2:Nat) (l0_2:List Int) (A0_3:Option Addr) (c0_3:Nat) (l0_3:List Int) (r1:Int) (r2:Int) (r3:List Int) (r4:List Int) (w:World) (hr0_2:Kd.C (Kd.int .i64) w A0_2 l0_2.length l0_2) (hc0_2:l0_2.length ≤ c0_2) (hr0_3:Kd.C (Kd.int .i64) w A0_3 l0_3.length l0_3) (hc0_3:l0_3.length ≤ c0_3) (h:spec_fiOwn.f a0_0 a0_1 l0_2 l0_3 = some (r1,r2,r3,r4)) :
  Calls Tryd.prog 164 #[.agg #[.int .i64 a0_0,.int .i64 a0_1,.slice A0_2 l0_2.length c0_2,.slice A0_3 l0_3.length c0_3]] w fun e w' => ∃ v2_ v3_:Value,e = .returned (.agg #[.int .i64 r1,.int .i64 r2,v2_,v3_]) ∧ Kd.R (Kd.int .i64) 3 w' w.heap.size (fun k_ => some k_ ≠ (v3_:Value).ownBlock) v2_ r3 ∧ Kd.R (Kd.int .i64) 3 w' w.heap.size (fun k_ => some k_ ≠ (v2_:Value).ownBlock) v3_ r4 ∧ Below w.heap.size w w':=by
 have hu36:=Tryd.underlying36
 have HR0_2:=am_ hr0_2
 have HC0_2:=am_ hc0_2
 clear hr0_2 hc0_2
 have HR0_3:=am_ hr0_3
 have HC0_3:=am_ hc0_3
 clear hr0_3 hc0_3
 have HB:=am_ (Below.refl w.heap.size w)
 have H:((spec_l1Own.f l0_2).bind fun t644 => ((spec_l1Own.f l0_3).bind fun t647 => (some (a0_0,a0_1,t644,t647)))) = some (r1,r2,r3,r4):=h
 clear h
 replace H:=bi_ H
 obtain ⟨t644,A20,H⟩:=H
 replace H:((spec_l1Own.f l0_3).bind fun t647 => (some (a0_0,a0_1,t644,t647))) = some (r1,r2,r3,r4):=H
 have A2:=am_ A20
 clear A20
 replace H:=bi_ H
 obtain ⟨t647,A30,H⟩:=H
 replace H:(some (a0_0,a0_1,t644,t647)) = some (r1,r2,r3,r4):=H
 have A3:=am_ A30
 clear A30
 simp only [Option.some.injEq,Prod.mk.injEq] at H
 obtain ⟨rfl,rfl,rfl,rfl⟩:=H
 go_enter Tryd.func164,Tryd.ntmps164
 go_wp2_with (first | ((with_reducible refine gate_dst (N:=1) rfl ?_); refine boxE_ (N:=1) (cs:=#[.int .i64 a0_0,.int .i64 a0_1,.slice A0_2 l0_2.length c0_2,.slice A0_3 l0_3.length c0_3]) (t:=36) ?_; intro gb642 hg w4 hbox hb; have n0_:=am_ (below_step (bl0_ HB.out) hb); have n1_:=am_ (hbox); have n2_:=am_ ((bs0_ hg HB.out:w.heap.size ≤ gb642)); have n3_:=am_ ((bs0_ hg HB.out:w.heap.size ≤ gb642)); clear HB; have HB:=n0_; have BK642:=n1_; have GW642:=n2_; have GE642:=n3_; clear n0_ n1_ n2_ n3_; clear hb hbox hg) | ((with_reducible refine gate_dst (N:=2) rfl ?_); refine boxE_ (N:=2) (cs:=#[.int .i64 0,.int .i64 0,.slice none 0 0,.slice none 0 0]) (t:=36) ?_; intro gb643 hg w5 hbox hb; have n0_:=am_ (bb_ BK642.out hb); have n1_:=am_ (below_step (bl1_ HB.out GE642.out) hb); have n2_:=am_ (hbox); have n3_:=am_ ((bs1_ hg HB.out GE642.out:w.heap.size ≤ gb643)); have n4_:=am_ ((bs1_ hg HB.out GE642.out:w.heap.size ≤ gb643)); have n5_:=am_ ((nl_ hg BK642.out:gb642 ≠ gb643)); have n6_:=am_ ((ng_ hg BK642.out:gb643 ≠ gb642)); clear BK642; clear HB; have BK642:=n0_; have HB:=n1_; have BK643:=n2_; have GW643:=n3_; have GE643:=n4_; have NB642_643:=n5_; have NB643_642:=n6_; clear n0_ n1_ n2_ n3_ n4_ n5_ n6_; clear hb hbox hg; have hnb6:=NB642_643.out; have hnc6:=NB643_642.out; have hcz7_0:w5.cell? ⟨gb642,0,none⟩ = some (.int .i64 a0_0):=(bc_ BK642.out 0).trans rfl; have hcz7_1:w5.cell? ⟨gb642,1,none⟩ = some (.int .i64 a0_1):=(bc_ BK642.out 1).trans rfl; have hcz7_2:w5.cell? ⟨gb642,2,none⟩ = some (.slice A0_2 l0_2.length c0_2):=(bc_ BK642.out 2).trans rfl; have hcz7_3:w5.cell? ⟨gb642,3,none⟩ = some (.slice A0_3 l0_3.length c0_3):=(bc_ BK642.out 3).trans rfl; have hfz7_0:=bz_ BK642.out 0; have hfz7_1:=bz_ BK642.out 1; have hfz7_2:=bz_ BK642.out 2; have hfz7_3:=bz_ BK642.out 3) | ((with_reducible refine gate_callee (f:=178) rfl ?_); refine goesL_ (some 5) rfl rfl Tryd.func178 (by kernel_rfl) rfl #[.slice A0_2 l0_2.length c0_2] rfl ob_ ?_; (with_reducible refine (spec_l1Own.calls _ _ l0_2 t644 _ ?side1 ?side2 A2.out).mono ?_); (case side1 => exact kc_ (Kd.C_below HR0_2.out HB.out)); (case side2 => exact HC0_2.out); rintro e w8 ⟨v645,rfl,ho0,hb⟩; refine ⟨_,rfl,?_⟩; have n0_:=am_ (Kd.R_lower ho0 (below_size (bl2_ HB.out GE642.out GE643.out))); have n1_:=am_ (bb_ BK642.out hb); have n2_:=am_ (bb_ BK643.out hb); have n3_:=am_ (below_step (bl2_ HB.out GE642.out GE643.out) hb); clear BK642; clear BK643; clear HB; have HO646:=n0_; have BK642:=n1_; have BK643:=n2_; have HB:=n3_; clear n0_ n1_ n2_ n3_; (try clear hb); (try clear hb2); (try clear hk); (try clear hi); (try clear ho0); obtain ⟨Ao9,co9,eo9⟩:=Kd.R_slice HO646.out; subst eo9; have hcz10_0:w8.cell? ⟨gb642,0,none⟩ = some (.int .i64 a0_0):=(bc_ BK642.out 0).trans rfl; have hcz10_1:w8.cell? ⟨gb642,1,none⟩ = some (.int .i64 a0_1):=(bc_ BK642.out 1).trans rfl; have hcz10_2:w8.cell? ⟨gb642,2,none⟩ = some (.slice A0_2 l0_2.length c0_2):=(bc_ BK642.out 2).trans rfl; have hcz10_3:w8.cell? ⟨gb642,3,none⟩ = some (.slice A0_3 l0_3.length c0_3):=(bc_ BK642.out 3).trans rfl; have hfz10_0:=bz_ BK642.out 0; have hfz10_1:=bz_ BK642.out 1; have hfz10_2:=bz_ BK642.out 2; have hfz10_3:=bz_ BK642.out 3) | ((with_reducible refine gate_callee (f:=178) rfl ?_); refine goesL_ (some 9) rfl rfl Tryd.func178 (by kernel_rfl) rfl #[.slice A0_3 l0_3.length c0_3] rfl ob_ ?_; (with_reducible refine (spec_l1Own.calls _ _ l0_3 t647 _ ?side1 ?side2 A3.out).mono ?_); (case side1 => exact Kd.C_below HR0_3.out (bl2_ HB.out GE642.out GE643.out)); (case side2 => exact HC0_3.out); rintro e w11 ⟨v648,rfl,ho0,hb⟩; refine ⟨_,rfl,?_⟩; have n0_:=am_ (Kd.R_elder' (by (with_reducible repeat (first | apply Kd.R_alloc | apply Kd.R_drewN | apply Kd.R_drew)); exact (Kd.R_mono (Kd.R_far (p:=⟨gb642,2,none⟩) (Kd.R_types HO646.out BK642.out (by decide)) (fun _ hk => hk.2) (.slice Ao9 t644.length co9)) (fun _ h_ => h_.1))) (Kd.R_base ho0) hb); have n1_:=am_ (Kd.R_lower (Kd.R_new' ho0 (Kd.R_lt (by (with_reducible repeat (first | apply Kd.R_alloc | apply Kd.R_drewN | apply Kd.R_drew)); exact (Kd.R_mono (Kd.R_far (p:=⟨gb642,2,none⟩) (Kd.R_types HO646.out BK642.out (by decide)) (fun _ hk => hk.2) (.slice Ao9 t644.length co9)) (fun _ h_ => h_.1))))) (below_size (bl2_ HB.out GE642.out GE643.out))); have n2_:=am_ (blk_below (g:=gb642) (o:=.cells #[.int .i64 a0_0,.int .i64 a0_1,.slice Ao9 t644.length co9,.slice A0_3 l0_3.length c0_3] 36 (0,0)) (by (with_reducible repeat (first | refine blk_drewN ?_ _ | refine blk_drew ?_ | refine blk_alloc ?_ _)); refine blk_put (cs:=#[.int .i64 a0_0,.int .i64 a0_1,.slice A0_2 l0_2.length c0_2,.slice A0_3 l0_3.length c0_3]) ?_ 2 _ rfl; (with_reducible repeat (first | refine blk_drewN ?_ _ | refine blk_drew ?_ | refine blk_alloc ?_ _)); exact BK642.out) hb); have n3_:=am_ (blk_below (g:=gb643) (o:=.cells #[.int .i64 0,.int .i64 0,.slice none 0 0,.slice none 0 0] 36 (0,0)) (bf1_ NB643_642.out BK643.out) hb); have n4_:=am_ (below_step (bl2_ HB.out GE642.out GE643.out) hb); clear HO646; clear BK642; clear BK643; clear HB; have HO646:=n0_; have HO649:=n1_; have BK642:=n2_; have BK643:=n3_; have HB:=n4_; clear n0_ n1_ n2_ n3_ n4_; (try clear hb); (try clear hb2); (try clear hk); (try clear hi); (try clear ho0); obtain ⟨Ao12,co12,eo12⟩:=Kd.R_slice HO649.out; subst eo12; have hcz13_0:w11.cell? ⟨gb642,0,none⟩ = some (.int .i64 a0_0):=(bc_ BK642.out 0).trans rfl; have hcz13_1:w11.cell? ⟨gb642,1,none⟩ = some (.int .i64 a0_1):=(bc_ BK642.out 1).trans rfl; have hcz13_2:w11.cell? ⟨gb642,2,none⟩ = some (.slice Ao9 t644.length co9):=(bc_ BK642.out 2).trans rfl; have hcz13_3:w11.cell? ⟨gb642,3,none⟩ = some (.slice A0_3 l0_3.length c0_3):=(bc_ BK642.out 3).trans rfl; have hfz13_0:=bz_ BK642.out 0; have hfz13_1:=bz_ BK642.out 1; have hfz13_2:=bz_ BK642.out 2; have hfz13_3:=bz_ BK642.out 3; have hcz14_0:w11.cell? ⟨gb643,0,none⟩ = some (.int .i64 0):=(bc_ BK643.out 0).trans rfl; have hcz14_1:w11.cell? ⟨gb643,1,none⟩ = some (.int .i64 0):=(bc_ BK643.out 1).trans rfl; have hcz14_2:w11.cell? ⟨gb643,2,none⟩ = some (.slice none 0 0):=(bc_ BK643.out 2).trans rfl; have hcz14_3:w11.cell? ⟨gb643,3,none⟩ = some (.slice none 0 0):=(bc_ BK643.out 3).trans rfl; have hfz14_0:=bz_ BK643.out 0; have hfz14_1:=bz_ BK643.out 1; have hfz14_2:=bz_ BK643.out 2; have hfz14_3:=bz_ BK643.out 3))
 refine bodyPost_ret (results_cell_row rfl _ _ gb643 36 #[.int .i64 a0_0,.int .i64 a0_1,.slice Ao9 t644.length co9,.slice Ao12 t647.length co12] (0,0) _ rfl (by (with_reducible repeat (first | refine blk_drewN ?_ _ | refine blk_drew ?_ | refine blk_alloc ?_ _)); refine blk_put (cs:=#[.int .i64 a0_0,.int .i64 a0_1,.slice Ao9 t644.length co9,.slice none 0 0]) ?_ 3 _ rfl; (with_reducible repeat (first | refine blk_drewN ?_ _ | refine blk_drew ?_ | refine blk_alloc ?_ _)); refine blk_put (cs:=#[.int .i64 a0_0,.int .i64 a0_1,.slice none 0 0,.slice none 0 0]) ?_ 2 _ rfl; (with_reducible repeat (first | refine blk_drewN ?_ _ | refine blk_drew ?_ | refine blk_alloc ?_ _)); refine blk_put (cs:=#[.int .i64 a0_0,.int .i64 0,.slice none 0 0,.slice none 0 0]) ?_ 1 _ rfl; (with_reducible repeat (first | refine blk_drewN ?_ _ | refine blk_drew ?_ | refine blk_alloc ?_ _)); refine blk_put (cs:=#[.int .i64 0,.int .i64 0,.slice none 0 0,.slice none 0 0]) ?_ 0 _ rfl; (with_reducible repeat (first | refine blk_drewN ?_ _ | refine blk_drew ?_ | refine blk_alloc ?_ _)); refine blk_far ?_ NB643_642.out _; (with_reducible repeat (first | refine blk_drewN ?_ _ | refine blk_drew ?_ | refine blk_alloc ?_ _)); exact BK643.out) Tryd.underlying36 rfl (by kernel_rfl)) rfl ?_
 exact ⟨_,_,er_,by (with_reducible repeat (first | apply Kd.R_alloc | apply Kd.R_drewN | apply Kd.R_drew)); exact Kd.R_mono (Kd.R_far (p:=⟨gb643,3,none⟩) (Kd.R_far (p:=⟨gb643,2,none⟩) (Kd.R_far (p:=⟨gb643,1,none⟩) (Kd.R_far (p:=⟨gb643,0,none⟩) (Kd.R_far (p:=⟨gb642,3,none⟩) (Kd.R_types (Kd.R_types HO646.out BK642.out (by decide)) BK643.out (by decide)) (fun _ hk => hk.1.2) (.slice Ao12 t647.length co12)) (fun _ hk => hk.2) (.int .i64 a0_0)) (fun _ hk => hk.2) (.int .i64 a0_1)) (fun _ hk => hk.2) (.slice Ao9 t644.length co9)) (fun _ hk => hk.2) (.slice Ao12 t647.length co12)) (fun _ hk => hk.1.1.2),by (with_reducible repeat (first | apply Kd.R_alloc | apply Kd.R_drewN | apply Kd.R_drew)); exact Kd.R_mono (Kd.R_far (p:=⟨gb643,3,none⟩) (Kd.R_far (p:=⟨gb643,2,none⟩) (Kd.R_far (p:=⟨gb643,1,none⟩) (Kd.R_far (p:=⟨gb643,0,none⟩) (Kd.R_far (p:=⟨gb642,3,none⟩) (Kd.R_types (Kd.R_types HO649.out BK642.out (by decide)) BK643.out (by decide)) (fun _ hk => hk.1.2) (.slice Ao12 t647.length co12)) (fun _ hk => hk.2) (.int .i64 a0_0)) (fun _ hk => hk.2) (.int .i64 a0_1)) (fun _ hk => hk.2) (.slice Ao9 t644.length co9)) (fun _ hk => hk.2) (.slice Ao12 t647.length co12)) (fun _ hk => hk.1.1.2),bl2_ HB.out GE642.out GE643.out⟩


def spec_l1Put.l0:Nat → List Int → Int → Int → Option (List Int)
 | 0,_,_,_ => none
 | k + 1,x0,x1,x5 => if x5 < (x0.length:Int) then (if 0 ≤ x5 then (if (rd x0 x5) < x1 then (spec_l1Put.l0 k x0 x1 (wrap64 (x5 + 1))) else (if (rd x0 x5) = x1 then (some x0) else ((some (([]:List Int):List Int)).bind fun y652 => (if x5 ≤ (x0.length:Int) then ((some (x0.take (x5:Int).toNat:List Int)).bind fun y655 => (if y652.length + y655.length < 17592186044416 then ((some (y652 ++ y655:List Int)).bind fun y659 => (if y659.length < 17592186044416 then ((some (y659 ++ [x1]:List Int)).bind fun y662 => ((some (x0.drop (x5:Int).toNat:List Int)).bind fun y665 => (if y662.length + y665.length < 17592186044416 then (some (y662 ++ y665)) else (none)))) else (none))) else (none))) else (none))))) else (none)) else ((some (([]:List Int):List Int)).bind fun y672 => (if 0 ≤ x5 then (if x5 ≤ (x0.length:Int) then ((some (x0.take (x5:Int).toNat:List Int)).bind fun y675 => (if y672.length + y675.length < 17592186044416 then ((some (y672 ++ y675:List Int)).bind fun y679 => (if y679.length < 17592186044416 then ((some (y679 ++ [x1]:List Int)).bind fun y682 => ((some (x0.drop (x5:Int).toNat:List Int)).bind fun y685 => (if y682.length + y685.length < 17592186044416 then (some (y682 ++ y685)) else (none)))) else (none))) else (none))) else (none)) else (none)))
def spec_l1Put.f (k:Nat) (l0:List Int) (a1:Int):Option (List Int):=spec_l1Put.l0 k l0 a1 0
theorem spec_l1Put.mono_l:∀ k,(∀ y0 y1 y2,LeO (spec_l1Put.l0 k y0 y1 y2) (spec_l1Put.l0 (k + 1) y0 y1 y2))
 | 0 => fun _ _ _ r h => by simp [spec_l1Put.l0] at h
 | k + 1 => by
  have ih0:=spec_l1Put.mono_l k
  ·intro y0 y1 y2
   unfold spec_l1Put.l0
   repeat' first | (with_reducible first | exact ih0 _ _ _ | exact LeO.refl _ | exact LeO.none _ | refine LeO.ite ?_ ?_ | refine LeO.bind ?_ (fun _ => ?_)) | exact ih0 _ _ _
theorem spec_l1Put.mono:∀ a0 a1 k,LeO (spec_l1Put.f k a0 a1) (spec_l1Put.f (k + 1) a0 a1):=by
 intro a0 a1 k
 have ih0:=spec_l1Put.mono_l k
 unfold spec_l1Put.f
 repeat' first | (with_reducible first | exact ih0 _ _ _ | exact LeO.refl _ | exact LeO.none _ | refine LeO.ite ?_ ?_ | refine LeO.bind ?_ (fun _ => ?_)) | exact ih0 _ _ _
set_option maxHeartbeats 8000000 in
set_option maxRecDepth 100000 in
theorem spec_l1Put.calls (k:Nat) (P0_:Nat → Prop) (u9000_:Value) (l0:List Int) (a1:Int) (r:List Int) (w0 w:World) (hB:Below w0.heap.size w0 w) (ho0:Kd.R (Kd.int .i64) 3 w w0.heap.size P0_ u9000_ l0) (h:spec_l1Put.f k l0 a1 = some r) :
  Calls Tryd.prog 165 #[u9000_,.int .i64 a1] w fun e w' => ∃ v0_:Value,e = .returned (v0_) ∧ Kd.R (Kd.int .i64) 3 w' w0.heap.size (fun k_ => (P0_ k_ ∨ w.heap.size ≤ k_)) v0_ r ∧ Below w0.heap.size w0 w' ∧ Kept w w' (fun k_ => P0_ k_):=by
 have HO0:=am_ (show Kd.R (Kd.int .i64) 3 w w0.heap.size (fun k_ => (P0_ k_ ∨ w.heap.size ≤ k_)) u9000_ l0 from Kd.R_mono ho0 (fun k_ hk => (.inl hk)))
 have HK:=am_ (Kept.refl w (fun k_ => P0_ k_))
 have HW0:=am_ hB.size
 have HB:=am_ hB
 clear hB
 have H:(spec_l1Put.l0 k l0 a1 0) = some r:=h
 clear h
 have H':=am_ H
 clear H
 go_enter Tryd.func165,Tryd.ntmps165
 go_wp2
 go_loopg [5] k (fun kq v5 w' => ∃ (x5_1:Int),v5 = .int .i64 x5_1 ∧ Aside0 (spec_l1Put.l0 kq l0 a1 x5_1 = some r) ∧ Aside0 (kq ≤ k) ∧ Aside0 (Kd.R (Kd.int .i64) 3 w' w0.heap.size (fun k_ => (P0_ k_ ∨ w.heap.size ≤ k_)) u9000_ l0) ∧ Aside0 (Kept w w' (fun k_ => P0_ k_)) ∧ Aside0 (Below w0.heap.size w0 w'))
 case atStart => exact ⟨(0),rs_,H',⟨Nat.le_refl _⟩,⟨kr_ HO0.out⟩,⟨by repeat (first | (with_reducible first | exact HK.out | apply Kept.alloc | apply Kept.drewN | apply Kept.drew) | exact HK.out)⟩,⟨bl0_ HB.out⟩⟩
 case round =>
  clear H'
  try clear c1
  try clear p2
  obtain ⟨x5_1,rfl,HA,HK1,HO_0,HK,HB⟩:=hrel
  cases gk with
  | zero => exact absurd HA.out (by simp [spec_l1Put.l0])
  | succ k1 =>
   have H:=HA.out
   clear HA
   simp only [spec_l1Put.l0] at H
   by_cases c3:x5_1 < (l0.length:Int)
   ·rw [if_pos c3] at H
    have c3b0:decide (x5_1 < (l0.length:Int)) = true:=decide_eq_true c3
    clear c3
    by_cases c4:0 ≤ x5_1
    ·rw [if_pos c4] at H
     have c4b0:decide (0 ≤ x5_1) = true:=decide_eq_true c4
     clear c4
     by_cases c5:(rd l0 x5_1) < a1
     ·rw [if_pos c5] at H
      have c5b0:decide ((rd l0 x5_1) < a1) = true:=decide_eq_true c5
      clear c5
      have H':=am_ H
      clear H
      obtain ⟨Ao6,co6,eo6⟩:=Kd.R_slice HO_0.out
      subst eo6
      have p650:0 ≤ (x5_1:Int):=of_decide_eq_true as_
      have q650:x5_1 < (l0.length:Int):=of_decide_eq_true as_
      obtain ⟨ad650,e650,hx650_0⟩:=Kd.at_int (Kd.R_reads' HO_0.out).2.2 x5_1 p650 q650
      cases e650
      replace p650:=eq_true p650
      replace q650:=eq_true q650
      go_wp2
      go_roundg k1
      case measure => have:=HK1.out; omega
      case rel => exact ⟨(wrap64 (x5_1 + 1)),rs_,H',⟨by have:=HK1.out; omega⟩,⟨kr_ HO_0.out⟩,⟨by repeat (first | (with_reducible first | exact HK.out | apply Kept.alloc | apply Kept.drewN | apply Kept.drew) | exact HK.out)⟩,⟨bl0_ HB.out⟩⟩
     ·rw [if_neg c5] at H
      have c5b0:decide ((rd l0 x5_1) < a1) = false:=decide_eq_false c5
      clear c5
      by_cases c7:(rd l0 x5_1) = a1
      ·rw [if_pos c7] at H
       have c7b0:((rd l0 x5_1) == a1) = true:=beq_iff_eq.mpr c7
       have c7b1:((rd l0 x5_1) != a1) = false:=bne_eq_false_iff_eq.mpr c7
       clear c7
       obtain rfl:=Option.some.inj H
       obtain ⟨Ao8,co8,eo8⟩:=Kd.R_slice HO_0.out
       subst eo8
       have p650:0 ≤ (x5_1:Int):=of_decide_eq_true as_
       have q650:x5_1 < (l0.length:Int):=of_decide_eq_true as_
       obtain ⟨ad650,e650,hx650_0⟩:=Kd.at_int (Kd.R_reads' HO_0.out).2.2 x5_1 p650 q650
       cases e650
       replace p650:=eq_true p650
       replace q650:=eq_true q650
       have p651:0 ≤ (x5_1:Int):=of_decide_eq_true as_
       have q651:x5_1 < (l0.length:Int):=of_decide_eq_true as_
       obtain ⟨ad651,e651,hx651_0⟩:=Kd.at_int (Kd.R_reads' HO_0.out).2.2 x5_1 p651 q651
       obtain rfl:ad650 = ad651:=(by injection e651)
       replace p651:=eq_true p651
       replace q651:=eq_true q651
       go_wp2
       go_ret
       exact ⟨_,er_,by (with_reducible repeat (first | apply Kd.R_alloc | apply Kd.R_drewN | apply Kd.R_drew)); exact HO_0.out,bl0_ HB.out,by repeat (first | (with_reducible first | exact HK.out | apply Kept.alloc | apply Kept.drewN | apply Kept.drew) | exact HK.out)⟩
      ·rw [if_neg c7] at H
       have c7b0:((rd l0 x5_1) == a1) = false:=beq_eq_false_iff_ne.mpr c7
       have c7b1:((rd l0 x5_1) != a1) = true:=bne_iff_ne.mpr c7
       obtain ⟨y652,hy652⟩:∃ y_:List Int,y_ = (([]:List Int)):=⟨_,rfl⟩
       replace H:(if x5_1 ≤ (l0.length:Int) then ((some (l0.take (x5_1:Int).toNat:List Int)).bind fun y655 => (if y652.length + y655.length < 17592186044416 then ((some (y652 ++ y655:List Int)).bind fun y659 => (if y659.length < 17592186044416 then ((some (y659 ++ [a1]:List Int)).bind fun y662 => ((some (l0.drop (x5_1:Int).toNat:List Int)).bind fun y665 => (if y662.length + y665.length < 17592186044416 then (some (y662 ++ y665)) else (none)))) else (none))) else (none))) else (none)) = some r:=by first | (rw [hy652]; with_reducible exact H) | (have H2_:=(Option.bind_some _ _).symm.trans H; rw [hy652]; with_reducible exact H2_) | (have H2_:=(Option.bind_some _ _).symm.trans H; with_reducible exact H2_) | with_reducible exact H | (rw [hy652]; exact H) | exact H
       have Ny652:=am_ hy652
       clear hy652
       have c9b0:=eq_true (of_decide_eq_true as_:0 ≤ x5_1)
       by_cases c10:x5_1 ≤ (l0.length:Int)
       ·rw [if_pos c10] at H
        have c10b0:=eq_true c10
        have c10b1:decide (x5_1 ≤ (l0.length:Int)) = true:=decide_eq_true c10
        clear c10
        obtain ⟨y655,hy655⟩:∃ y_:List Int,y_ = (l0.take (x5_1:Int).toNat):=⟨_,rfl⟩
        replace H:(if y652.length + y655.length < 17592186044416 then ((some (y652 ++ y655:List Int)).bind fun y659 => (if y659.length < 17592186044416 then ((some (y659 ++ [a1]:List Int)).bind fun y662 => ((some (l0.drop (x5_1:Int).toNat:List Int)).bind fun y665 => (if y662.length + y665.length < 17592186044416 then (some (y662 ++ y665)) else (none)))) else (none))) else (none)) = some r:=by first | (rw [hy655]; with_reducible exact H) | (have H2_:=(Option.bind_some _ _).symm.trans H; rw [hy655]; with_reducible exact H2_) | (have H2_:=(Option.bind_some _ _).symm.trans H; with_reducible exact H2_) | with_reducible exact H | (rw [hy655]; exact H) | exact H
        have Ny655:=am_ hy655
        clear hy655
        by_cases c11:y652.length + y655.length < 17592186044416
        ·rw [if_pos c11] at H
         have LMc11:=am_ c11
         clear c11
         obtain ⟨y659,hy659⟩:∃ y_:List Int,y_ = (y652 ++ y655):=⟨_,rfl⟩
         replace H:(if y659.length < 17592186044416 then ((some (y659 ++ [a1]:List Int)).bind fun y662 => ((some (l0.drop (x5_1:Int).toNat:List Int)).bind fun y665 => (if y662.length + y665.length < 17592186044416 then (some (y662 ++ y665)) else (none)))) else (none)) = some r:=by first | (rw [hy659]; with_reducible exact H) | (have H2_:=(Option.bind_some _ _).symm.trans H; rw [hy659]; with_reducible exact H2_) | (have H2_:=(Option.bind_some _ _).symm.trans H; with_reducible exact H2_) | with_reducible exact H | (rw [hy659]; exact H) | exact H
         have Ny659:=am_ hy659
         clear hy659
         by_cases c12:y659.length < 17592186044416
         ·rw [if_pos c12] at H
          have LMc12:=am_ c12
          clear c12
          obtain ⟨y662,hy662⟩:∃ y_:List Int,y_ = (y659 ++ [a1]):=⟨_,rfl⟩
          replace H:((some (l0.drop (x5_1:Int).toNat:List Int)).bind fun y665 => (if y662.length + y665.length < 17592186044416 then (some (y662 ++ y665)) else (none))) = some r:=by first | (rw [hy662]; with_reducible exact H) | (have H2_:=(Option.bind_some _ _).symm.trans H; rw [hy662]; with_reducible exact H2_) | (have H2_:=(Option.bind_some _ _).symm.trans H; with_reducible exact H2_) | with_reducible exact H | (rw [hy662]; exact H) | exact H
          have Ny662:=am_ hy662
          clear hy662
          have c13b0:=eq_true (of_decide_eq_true as_:0 ≤ x5_1)
          have c14b0:=eq_true (of_decide_eq_true as_:x5_1 ≤ (l0.length:Int))
          obtain ⟨y665,hy665⟩:∃ y_:List Int,y_ = (l0.drop (x5_1:Int).toNat):=⟨_,rfl⟩
          replace H:(if y662.length + y665.length < 17592186044416 then (some (y662 ++ y665)) else (none)) = some r:=by first | (rw [hy665]; with_reducible exact H) | (have H2_:=(Option.bind_some _ _).symm.trans H; rw [hy665]; with_reducible exact H2_) | (have H2_:=(Option.bind_some _ _).symm.trans H; with_reducible exact H2_) | with_reducible exact H | (rw [hy665]; exact H) | exact H
          have Ny665:=am_ hy665
          clear hy665
          by_cases c15:y662.length + y665.length < 17592186044416
          ·rw [if_pos c15] at H
           have LMc15:=am_ c15
           clear c15
           obtain ⟨y669,hy669⟩:∃ y_:List Int,y_ = (y662 ++ y665):=⟨_,rfl⟩
           replace H:(some y669) = some r:=by first | (rw [hy669]; with_reducible exact H) | (have H2_:=(Option.bind_some _ _).symm.trans H; rw [hy669]; with_reducible exact H2_) | (have H2_:=(Option.bind_some _ _).symm.trans H; with_reducible exact H2_) | with_reducible exact H | (rw [hy669]; exact H) | exact H
           have Ny669:=am_ hy669
           clear hy669
           obtain rfl:=Option.some.inj H
           obtain ⟨Ao16,co16,eo16⟩:=Kd.R_slice HO_0.out
           subst eo16
           have p650:0 ≤ (x5_1:Int):=of_decide_eq_true as_
           have q650:x5_1 < (l0.length:Int):=of_decide_eq_true as_
           obtain ⟨ad650,e650,hx650_0⟩:=Kd.at_int (Kd.R_reads' HO_0.out).2.2 x5_1 p650 q650
           cases e650
           replace p650:=eq_true p650
           replace q650:=eq_true q650
           have p651:0 ≤ (x5_1:Int):=of_decide_eq_true as_
           have q651:x5_1 < (l0.length:Int):=of_decide_eq_true as_
           obtain ⟨ad651,e651,hx651_0⟩:=Kd.at_int (Kd.R_reads' HO_0.out).2.2 x5_1 p651 q651
           obtain rfl:ad650 = ad651:=(by injection e651)
           replace p651:=eq_true p651
           replace q651:=eq_true q651
           go_wp2_with (first | ((with_reducible refine gate_dst (N:=34) rfl ?_); refine Kd.R_lit (Kd.int .i64) _ 3 ?hg (N:=34) ?hd (xs:=([]:List Int)) (inner:=[]) (ok:=fun _ => True) (okp:=fun _ => True) ?hr ?hp (fun _ hk => hk) trivial (Below.refl _ _) (Nat.le_refl _) (by simp) ?_; (case hd => rfl); (case hg => rfl); (case hr => first | (go_simp; done) | (go_simp; rfl)); (case hp => exact (Reps.none _ _)); intro v653 w17 ho18 hb hg_ hnew_; clear hg_ hnew_; (first | rw [← Ny652.out] at ho18 | (simp only [Int.reduceToNat] at ho18; rw [← Ny652.out] at ho18)); have n0_:=am_ (Kd.R_elder' (kr_ HO_0.out) (Kd.R_base ho18) hb); have n1_:=am_ (Kd.R_lower (Kd.R_new' (Kd.R_newM (M:=fun k_ => (P0_ k_ ∨ w.heap.size ≤ k_)) ho18 (by first | exact HK.out.1 | exact (show Kept w _ (fun k_ => P0_ k_) from by repeat (first | (with_reducible first | exact HK.out | apply Kept.alloc | apply Kept.drewN | apply Kept.drew) | exact HK.out)).1) (fun k_ h_ => .inr h_)) (Kd.R_lt (kr_ HO_0.out))) (below_size (bl0_ HB.out))); have n2_:=am_ (Kept.below (S:=(fun k_ => P0_ k_)) (by repeat (first | (with_reducible first | exact HK.out | apply Kept.alloc | apply Kept.drewN | apply Kept.drew) | exact HK.out)) hb); have n3_:=am_ (below_step (bl0_ HB.out) hb); clear HO_0; clear HK; clear HB; have HO_0:=n0_; have HO654:=n1_; have HK:=n2_; have HB:=n3_; clear n0_ n1_ n2_ n3_; clear hb ho18; have q19:(x5_1:Int) ≤ ((l0.length:Int):Int):=of_decide_eq_true as_; obtain ⟨i019,hi019,_,hsz19,_⟩:=info_parts info3; have hroom19:l0.length ≤ co16:=(Kd.R_reads' HO_0.out).2.1; have hC19:Kd.C (Kd.int .i64) _ (some ad650) l0.length l0:=(Kd.R_reads' HO_0.out).2.2; have hcut19:=cut_to (P:=Tryd.prog) 22 3 .i64 Tryd.underlying22 hi019 (some ad650) l0.length co16 x5_1 (of_decide_eq_true as_) q19 hroom19; have hr19:=Kd.C_take (m:=(x5_1:Int).toNat) hC19 (by omega); have hy19:y655.length = (x5_1:Int).toNat:=(by rw [Ny655.out,List.length_take]; omega); rw [← Ny655.out] at hr19; rw [← hy19] at hcut19; have HR658:=am_ hr19; have HC658:=am_ (show y655.length ≤ co16 from by omega); clear hr19 hC19 hroom19 hi019 hsz19; have KY19:=am_ hy19; clear hy19; have KL19:=am_ (show (x5_1:Int).toNat ≤ l0.length from by omega); replace q19:=eq_true q19) | ((with_reducible refine gate_builtin (b:=.append) (xs:=#[.tmp 34,.tmp 37]) rfl ?_); at_builtin; refine Kd.R_append_rows (Kd.int .i64) (w0:=w0) w0.heap.size rfl (.tmp 34) (.tmp 37) 22 3 (.int .i64 0) 8 rfl Tryd.underlying22 info3 rfl (by decide) (by omega) v653 y652 y655 _ _ _ (fun k_ => (P0_ k_ ∨ w.heap.size ≤ k_) ∧ some k_ ≠ (.slice (some ad650) l0.length co16:Value).ownBlock) (fun _ => False) rfl rfl ?aO ?aR (fun _ _ h => h) (fun _ h => h.elim) ?aF ?aB ?aS ?aL ?_; (case aR => repeat (first | exact (by repeat (first | (with_reducible exact HR658.out) | (with_reducible refine Kd.C_alloc ?_ _) | (with_reducible refine Kd.C_drewN ?_ _) | (with_reducible refine Kd.C_drew ?_) | exact HR658.out)) | (with_reducible refine Kd.C_alloc ?_ _) | (with_reducible refine Kd.C_drewN ?_ _) | (with_reducible refine Kd.C_drew ?_))); (case aB => exact (bl0_ HB.out)); (case aF => exact (fun k_ hk => ⟨(.inr (Nat.le_trans (by first | exact HK.out.1 | exact (show Kept w _ (fun k_ => P0_ k_) from by repeat (first | (with_reducible first | exact HK.out | apply Kept.alloc | apply Kept.drewN | apply Kept.drew) | exact HK.out)).1) hk)),Kd.fresh' (Kd.R_lt (kr_ HO_0.out)) k_ hk⟩)); (case aO => exact (by (with_reducible repeat (first | apply Kd.R_alloc | apply Kd.R_drewN | apply Kd.R_drew)); exact Kd.R_mono HO654.out (fun _ hk => ⟨hk.1.1,hk.2⟩))); (case aS => exact (below_size (bl0_ HB.out))); (case aL => have:=LMc11.out; omega); intro v660 w20 ho hb hg hat; rw [← Ny659.out] at ho; have n0_:=am_ (Kd.R_after (ok:=(fun k_ => (P0_ k_ ∨ w.heap.size ≤ k_))) (kr_ HO_0.out) hg hat); have n1_:=am_ (hb); have n2_:=am_ (Kept.of_grown (S:=(fun k_ => P0_ k_)) hg (by repeat (first | (with_reducible first | exact HK.out | apply Kept.alloc | apply Kept.drewN | apply Kept.drew) | exact HK.out)) (fun k_ e_ => (HO654.out.1 k_ e_).1.1)); have n3_:=am_ ((show Kd.C (Kd.int .i64) w20 (some ad650) y655.length y655 from by rw [Ny655.out]; exact Kd.C_take (m:=(x5_1:Int).toNat) ((Kd.R_reads' (Kd.R_after (ok:=(fun k_ => (P0_ k_ ∨ w.heap.size ≤ k_))) (kr_ HO_0.out) hg hat)).2.2) KL19.out)); have n4_:=am_ (ho); clear HO_0; clear HB; clear HK; clear HR658; clear HO654; have HO_0:=n0_; have HB:=n1_; have HK:=n2_; have HR658:=n3_; have HO661:=n4_; clear n0_ n1_ n2_ n3_ n4_; clear ho hb hg hat) | ((with_reducible refine gate_builtin (b:=.append) (xs:=#[.tmp 39,.tmp 41]) rfl ?_); at_builtin; refine Kd.R_append (Kd.int .i64) (w0:=w0) w0.heap.size rfl (.tmp 39) (.tmp 41) 22 3 (.int .i64 0) 8 rfl Tryd.underlying22 info3 rfl (by decide) (by omega) v660 y659 a1 [.int .i64 a1] (fun k_ => (P0_ k_ ∨ w.heap.size ≤ k_) ∧ some k_ ≠ (.slice (some ad650) l0.length co16:Value).ownBlock) (fun _ => False) rfl rfl ?aP (fun _ hk => hk.elim) ?aF ?aO ?aB ?aS ?aL ?_; (case aP => exact rfl); (case aB => exact (bl0_ HB.out)); (case aF => exact (fun k_ hk => ⟨(.inr (Nat.le_trans (by first | exact HK.out.1 | exact (show Kept w _ (fun k_ => P0_ k_) from by repeat (first | (with_reducible first | exact HK.out | apply Kept.alloc | apply Kept.drewN | apply Kept.drew) | exact HK.out)).1) hk)),Kd.fresh' (Kd.R_lt (kr_ HO_0.out)) k_ hk⟩)); (case aO => exact (kr_ HO661.out)); (case aS => exact (below_size (bl0_ HB.out))); (case aL => have:=LMc12.out; omega); intro v663 w21 ho hb hg hat; rw [← Ny662.out] at ho; have n0_:=am_ (Kd.R_after (ok:=(fun k_ => (P0_ k_ ∨ w.heap.size ≤ k_))) (kr_ HO_0.out) hg hat); have n1_:=am_ (hb); have n2_:=am_ (Kept.of_grown (S:=(fun k_ => P0_ k_)) hg (by repeat (first | (with_reducible first | exact HK.out | apply Kept.alloc | apply Kept.drewN | apply Kept.drew) | exact HK.out)) (fun k_ e_ => (HO661.out.1 k_ e_).1)); have n3_:=am_ ((show Kd.C (Kd.int .i64) w21 (some ad650) y655.length y655 from by rw [Ny655.out]; exact Kd.C_take (m:=(x5_1:Int).toNat) ((Kd.R_reads' (Kd.R_after (ok:=(fun k_ => (P0_ k_ ∨ w.heap.size ≤ k_))) (kr_ HO_0.out) hg hat)).2.2) KL19.out)); have n4_:=am_ (ho); clear HO_0; clear HB; clear HK; clear HR658; clear HO661; have HO_0:=n0_; have HB:=n1_; have HK:=n2_; have HR658:=n3_; have HO664:=n4_; clear n0_ n1_ n2_ n3_ n4_; clear ho hb hg hat; have q22:(x5_1:Int) ≤ ((l0.length:Int):Int):=of_decide_eq_true as_; obtain ⟨i022,hi022,_,hsz22,_⟩:=info_parts info3; have hroom22:l0.length ≤ co16:=(Kd.R_reads' HO_0.out).2.1; have hC22:Kd.C (Kd.int .i64) _ (some ad650) l0.length l0:=(Kd.R_reads' HO_0.out).2.2; have q022:(0:Int) ≤ (x5_1:Int):=of_decide_eq_true as_; have hcut22:=cut_from (P:=Tryd.prog) 22 3 .i64 Tryd.underlying22 hi022 1 hsz22 (some ad650) l0.length co16 x5_1 q022 q22; have hr22:=Kd.C_drop (m:=(x5_1:Int).toNat) (c:=co16) hC22 (by omega) hroom22; obtain ⟨A22,hA22⟩:∃ A1,A1 = (if co16 = (x5_1:Int).toNat then (some ad650) else ((some ad650):Option Addr).map (·.add ((x5_1:Int).toNat * 1))):=⟨_,rfl⟩; obtain ⟨c22,hc22⟩:∃ c1,c1 = co16 - (x5_1:Int).toNat:=⟨_,rfl⟩; have hy22:y665.length = l0.length - (x5_1:Int).toNat:=(by rw [Ny665.out,List.length_drop] <;> omega); rw [show (l0).drop (x5_1:Int).toNat = y665 from Ny665.out.symm] at hr22; replace hr22:Kd.C (Kd.int .i64) _ A22 y665.length y665:=(by rw [hA22]; exact hr22); rw [← hy22,← hA22,← hc22] at hcut22; have HR668:=am_ hr22; have HC668:=am_ (show y665.length ≤ c22 from by rw [hy22,hc22]; exact Nat.sub_le_sub_right hroom22 _); clear hr22 hC22 hroom22 hi022 hsz22 hc22; have KY22:=am_ hy22; have KA22:=am_ hA22; clear hy22 hA22; have KL22:=am_ (show (x5_1:Int).toNat ≤ l0.length from by omega); replace q22:=eq_true q22) | ((with_reducible refine gate_builtin (b:=.append) (xs:=#[.tmp 43,.tmp 46]) rfl ?_); at_builtin; refine Kd.R_append_rows (Kd.int .i64) (w0:=w0) w0.heap.size rfl (.tmp 43) (.tmp 46) 22 3 (.int .i64 0) 8 rfl Tryd.underlying22 info3 rfl (by decide) (by omega) v663 y662 y665 _ _ _ (fun k_ => (P0_ k_ ∨ w.heap.size ≤ k_) ∧ some k_ ≠ (.slice (some ad650) l0.length co16:Value).ownBlock) (fun _ => False) rfl rfl ?aO ?aR (fun _ _ h => h) (fun _ h => h.elim) ?aF ?aB ?aS ?aL ?_; (case aR => repeat (first | exact (by repeat (first | (with_reducible exact HR668.out) | (with_reducible refine Kd.C_alloc ?_ _) | (with_reducible refine Kd.C_drewN ?_ _) | (with_reducible refine Kd.C_drew ?_) | exact HR668.out)) | (with_reducible refine Kd.C_alloc ?_ _) | (with_reducible refine Kd.C_drewN ?_ _) | (with_reducible refine Kd.C_drew ?_))); (case aB => exact (bl0_ HB.out)); (case aF => exact (fun k_ hk => ⟨(.inr (Nat.le_trans (by first | exact HK.out.1 | exact (show Kept w _ (fun k_ => P0_ k_) from by repeat (first | (with_reducible first | exact HK.out | apply Kept.alloc | apply Kept.drewN | apply Kept.drew) | exact HK.out)).1) hk)),Kd.fresh' (Kd.R_lt (kr_ HO_0.out)) k_ hk⟩)); (case aO => exact (kr_ HO664.out)); (case aS => exact (below_size (bl0_ HB.out))); (case aL => have:=LMc15.out; omega); intro v670 w23 ho hb hg hat; rw [← Ny669.out] at ho; have n0_:=am_ (Kd.R_after (ok:=(fun k_ => (P0_ k_ ∨ w.heap.size ≤ k_))) (kr_ HO_0.out) hg hat); have n1_:=am_ (hb); have n2_:=am_ (Kept.of_grown (S:=(fun k_ => P0_ k_)) hg (by repeat (first | (with_reducible first | exact HK.out | apply Kept.alloc | apply Kept.drewN | apply Kept.drew) | exact HK.out)) (fun k_ e_ => (HO664.out.1 k_ e_).1)); have n3_:=am_ ((show Kd.C (Kd.int .i64) w23 (some ad650) y655.length y655 from by rw [Ny655.out]; exact Kd.C_take (m:=(x5_1:Int).toNat) ((Kd.R_reads' (Kd.R_after (ok:=(fun k_ => (P0_ k_ ∨ w.heap.size ≤ k_))) (kr_ HO_0.out) hg hat)).2.2) KL19.out)); have n4_:=am_ ((show Kd.C (Kd.int .i64) w23 A22 y665.length y665 from by rw [Ny665.out,KA22.out]; exact Kd.C_drop (m:=(x5_1:Int).toNat) (c:=co16) ((Kd.R_reads' (Kd.R_after (ok:=(fun k_ => (P0_ k_ ∨ w.heap.size ≤ k_))) (kr_ HO_0.out) hg hat)).2.2) KL22.out ((Kd.R_reads' (Kd.R_after (ok:=(fun k_ => (P0_ k_ ∨ w.heap.size ≤ k_))) (kr_ HO_0.out) hg hat)).2.1))); have n5_:=am_ (ho); clear HO_0; clear HB; clear HK; clear HR658; clear HR668; clear HO664; have HO_0:=n0_; have HB:=n1_; have HK:=n2_; have HR658:=n3_; have HR668:=n4_; have HO671:=n5_; clear n0_ n1_ n2_ n3_ n4_ n5_; clear ho hb hg hat))
           go_ret
           exact ⟨_,er_,by (with_reducible repeat (first | apply Kd.R_alloc | apply Kd.R_drewN | apply Kd.R_drew)); exact Kd.R_mono HO671.out (fun _ hk => hk.1),bl0_ HB.out,by repeat (first | (with_reducible first | exact HK.out | apply Kept.alloc | apply Kept.drewN | apply Kept.drew) | exact HK.out)⟩
          ·rw [if_neg c15] at H
           exact absurd H (by simp)
         ·rw [if_neg c12] at H
          exact absurd H (by simp)
        ·rw [if_neg c11] at H
         exact absurd H (by simp)
       ·rw [if_neg c10] at H
        exact absurd H (by simp)
    ·rw [if_neg c4] at H
     exact absurd H (by simp)
   ·rw [if_neg c3] at H
    have c3b0:decide (x5_1 < (l0.length:Int)) = false:=decide_eq_false c3
    clear c3
    obtain ⟨y672,hy672⟩:∃ y_:List Int,y_ = (([]:List Int)):=⟨_,rfl⟩
    replace H:(if 0 ≤ x5_1 then (if x5_1 ≤ (l0.length:Int) then ((some (l0.take (x5_1:Int).toNat:List Int)).bind fun y675 => (if y672.length + y675.length < 17592186044416 then ((some (y672 ++ y675:List Int)).bind fun y679 => (if y679.length < 17592186044416 then ((some (y679 ++ [a1]:List Int)).bind fun y682 => ((some (l0.drop (x5_1:Int).toNat:List Int)).bind fun y685 => (if y682.length + y685.length < 17592186044416 then (some (y682 ++ y685)) else (none)))) else (none))) else (none))) else (none)) else (none)) = some r:=by first | (rw [hy672]; with_reducible exact H) | (have H2_:=(Option.bind_some _ _).symm.trans H; rw [hy672]; with_reducible exact H2_) | (have H2_:=(Option.bind_some _ _).symm.trans H; with_reducible exact H2_) | with_reducible exact H | (rw [hy672]; exact H) | exact H
    have Ny672:=am_ hy672
    clear hy672
    by_cases c24:0 ≤ x5_1
    ·rw [if_pos c24] at H
     have c24b0:=eq_true c24
     have c24b1:decide (0 ≤ x5_1) = true:=decide_eq_true c24
     clear c24
     by_cases c25:x5_1 ≤ (l0.length:Int)
     ·rw [if_pos c25] at H
      have c25b0:=eq_true c25
      have c25b1:decide (x5_1 ≤ (l0.length:Int)) = true:=decide_eq_true c25
      clear c25
      obtain ⟨y675,hy675⟩:∃ y_:List Int,y_ = (l0.take (x5_1:Int).toNat):=⟨_,rfl⟩
      replace H:(if y672.length + y675.length < 17592186044416 then ((some (y672 ++ y675:List Int)).bind fun y679 => (if y679.length < 17592186044416 then ((some (y679 ++ [a1]:List Int)).bind fun y682 => ((some (l0.drop (x5_1:Int).toNat:List Int)).bind fun y685 => (if y682.length + y685.length < 17592186044416 then (some (y682 ++ y685)) else (none)))) else (none))) else (none)) = some r:=by first | (rw [hy675]; with_reducible exact H) | (have H2_:=(Option.bind_some _ _).symm.trans H; rw [hy675]; with_reducible exact H2_) | (have H2_:=(Option.bind_some _ _).symm.trans H; with_reducible exact H2_) | with_reducible exact H | (rw [hy675]; exact H) | exact H
      have Ny675:=am_ hy675
      clear hy675
      by_cases c26:y672.length + y675.length < 17592186044416
      ·rw [if_pos c26] at H
       have LMc26:=am_ c26
       clear c26
       obtain ⟨y679,hy679⟩:∃ y_:List Int,y_ = (y672 ++ y675):=⟨_,rfl⟩
       replace H:(if y679.length < 17592186044416 then ((some (y679 ++ [a1]:List Int)).bind fun y682 => ((some (l0.drop (x5_1:Int).toNat:List Int)).bind fun y685 => (if y682.length + y685.length < 17592186044416 then (some (y682 ++ y685)) else (none)))) else (none)) = some r:=by first | (rw [hy679]; with_reducible exact H) | (have H2_:=(Option.bind_some _ _).symm.trans H; rw [hy679]; with_reducible exact H2_) | (have H2_:=(Option.bind_some _ _).symm.trans H; with_reducible exact H2_) | with_reducible exact H | (rw [hy679]; exact H) | exact H
       have Ny679:=am_ hy679
       clear hy679
       by_cases c27:y679.length < 17592186044416
       ·rw [if_pos c27] at H
        have LMc27:=am_ c27
        clear c27
        obtain ⟨y682,hy682⟩:∃ y_:List Int,y_ = (y679 ++ [a1]):=⟨_,rfl⟩
        replace H:((some (l0.drop (x5_1:Int).toNat:List Int)).bind fun y685 => (if y682.length + y685.length < 17592186044416 then (some (y682 ++ y685)) else (none))) = some r:=by first | (rw [hy682]; with_reducible exact H) | (have H2_:=(Option.bind_some _ _).symm.trans H; rw [hy682]; with_reducible exact H2_) | (have H2_:=(Option.bind_some _ _).symm.trans H; with_reducible exact H2_) | with_reducible exact H | (rw [hy682]; exact H) | exact H
        have Ny682:=am_ hy682
        clear hy682
        have c28b0:=eq_true (of_decide_eq_true as_:0 ≤ x5_1)
        have c29b0:=eq_true (of_decide_eq_true as_:x5_1 ≤ (l0.length:Int))
        obtain ⟨y685,hy685⟩:∃ y_:List Int,y_ = (l0.drop (x5_1:Int).toNat):=⟨_,rfl⟩
        replace H:(if y682.length + y685.length < 17592186044416 then (some (y682 ++ y685)) else (none)) = some r:=by first | (rw [hy685]; with_reducible exact H) | (have H2_:=(Option.bind_some _ _).symm.trans H; rw [hy685]; with_reducible exact H2_) | (have H2_:=(Option.bind_some _ _).symm.trans H; with_reducible exact H2_) | with_reducible exact H | (rw [hy685]; exact H) | exact H
        have Ny685:=am_ hy685
        clear hy685
        by_cases c30:y682.length + y685.length < 17592186044416
        ·rw [if_pos c30] at H
         have LMc30:=am_ c30
         clear c30
         obtain ⟨y689,hy689⟩:∃ y_:List Int,y_ = (y682 ++ y685):=⟨_,rfl⟩
         replace H:(some y689) = some r:=by first | (rw [hy689]; with_reducible exact H) | (have H2_:=(Option.bind_some _ _).symm.trans H; rw [hy689]; with_reducible exact H2_) | (have H2_:=(Option.bind_some _ _).symm.trans H; with_reducible exact H2_) | with_reducible exact H | (rw [hy689]; exact H) | exact H
         have Ny689:=am_ hy689
         clear hy689
         obtain rfl:=Option.some.inj H
         obtain ⟨Ao31,co31,eo31⟩:=Kd.R_slice HO_0.out
         subst eo31
         go_wp2_with (first | ((with_reducible refine gate_dst (N:=34) rfl ?_); refine Kd.R_lit (Kd.int .i64) _ 3 ?hg (N:=34) ?hd (xs:=([]:List Int)) (inner:=[]) (ok:=fun _ => True) (okp:=fun _ => True) ?hr ?hp (fun _ hk => hk) trivial (Below.refl _ _) (Nat.le_refl _) (by simp) ?_; (case hd => rfl); (case hg => rfl); (case hr => first | (go_simp; done) | (go_simp; rfl)); (case hp => exact (Reps.none _ _)); intro v673 w32 ho33 hb hg_ hnew_; clear hg_ hnew_; (first | rw [← Ny672.out] at ho33 | (simp only [Int.reduceToNat] at ho33; rw [← Ny672.out] at ho33)); have n0_:=am_ (Kd.R_elder' (kr_ HO_0.out) (Kd.R_base ho33) hb); have n1_:=am_ (Kd.R_lower (Kd.R_new' (Kd.R_newM (M:=fun k_ => (P0_ k_ ∨ w.heap.size ≤ k_)) ho33 (by first | exact HK.out.1 | exact (show Kept w _ (fun k_ => P0_ k_) from by repeat (first | (with_reducible first | exact HK.out | apply Kept.alloc | apply Kept.drewN | apply Kept.drew) | exact HK.out)).1) (fun k_ h_ => .inr h_)) (Kd.R_lt (kr_ HO_0.out))) (below_size (bl0_ HB.out))); have n2_:=am_ (Kept.below (S:=(fun k_ => P0_ k_)) (by repeat (first | (with_reducible first | exact HK.out | apply Kept.alloc | apply Kept.drewN | apply Kept.drew) | exact HK.out)) hb); have n3_:=am_ (below_step (bl0_ HB.out) hb); clear HO_0; clear HK; clear HB; have HO_0:=n0_; have HO674:=n1_; have HK:=n2_; have HB:=n3_; clear n0_ n1_ n2_ n3_; clear hb ho33; have q34:(x5_1:Int) ≤ ((l0.length:Int):Int):=of_decide_eq_true as_; obtain ⟨i034,hi034,_,hsz34,_⟩:=info_parts info3; have hroom34:l0.length ≤ co31:=(Kd.R_reads' HO_0.out).2.1; have hC34:Kd.C (Kd.int .i64) _ Ao31 l0.length l0:=(Kd.R_reads' HO_0.out).2.2; have hcut34:=cut_to (P:=Tryd.prog) 22 3 .i64 Tryd.underlying22 hi034 Ao31 l0.length co31 x5_1 (of_decide_eq_true as_) q34 hroom34; have hr34:=Kd.C_take (m:=(x5_1:Int).toNat) hC34 (by omega); have hy34:y675.length = (x5_1:Int).toNat:=(by rw [Ny675.out,List.length_take]; omega); rw [← Ny675.out] at hr34; rw [← hy34] at hcut34; have HR678:=am_ hr34; have HC678:=am_ (show y675.length ≤ co31 from by omega); clear hr34 hC34 hroom34 hi034 hsz34; have KY34:=am_ hy34; clear hy34; have KL34:=am_ (show (x5_1:Int).toNat ≤ l0.length from by omega); replace q34:=eq_true q34) | ((with_reducible refine gate_builtin (b:=.append) (xs:=#[.tmp 34,.tmp 37]) rfl ?_); at_builtin; refine Kd.R_append_rows (Kd.int .i64) (w0:=w0) w0.heap.size rfl (.tmp 34) (.tmp 37) 22 3 (.int .i64 0) 8 rfl Tryd.underlying22 info3 rfl (by decide) (by omega) v673 y672 y675 _ _ _ (fun k_ => (P0_ k_ ∨ w.heap.size ≤ k_) ∧ some k_ ≠ (.slice Ao31 l0.length co31:Value).ownBlock) (fun _ => False) rfl rfl ?aO ?aR (fun _ _ h => h) (fun _ h => h.elim) ?aF ?aB ?aS ?aL ?_; (case aR => repeat (first | exact (by repeat (first | (with_reducible exact HR678.out) | (with_reducible refine Kd.C_alloc ?_ _) | (with_reducible refine Kd.C_drewN ?_ _) | (with_reducible refine Kd.C_drew ?_) | exact HR678.out)) | (with_reducible refine Kd.C_alloc ?_ _) | (with_reducible refine Kd.C_drewN ?_ _) | (with_reducible refine Kd.C_drew ?_))); (case aB => exact (bl0_ HB.out)); (case aF => exact (fun k_ hk => ⟨(.inr (Nat.le_trans (by first | exact HK.out.1 | exact (show Kept w _ (fun k_ => P0_ k_) from by repeat (first | (with_reducible first | exact HK.out | apply Kept.alloc | apply Kept.drewN | apply Kept.drew) | exact HK.out)).1) hk)),Kd.fresh' (Kd.R_lt (kr_ HO_0.out)) k_ hk⟩)); (case aO => exact (by (with_reducible repeat (first | apply Kd.R_alloc | apply Kd.R_drewN | apply Kd.R_drew)); exact Kd.R_mono HO674.out (fun _ hk => ⟨hk.1.1,hk.2⟩))); (case aS => exact (below_size (bl0_ HB.out))); (case aL => have:=LMc26.out; omega); intro v680 w35 ho hb hg hat; rw [← Ny679.out] at ho; have n0_:=am_ (Kd.R_after (ok:=(fun k_ => (P0_ k_ ∨ w.heap.size ≤ k_))) (kr_ HO_0.out) hg hat); have n1_:=am_ (hb); have n2_:=am_ (Kept.of_grown (S:=(fun k_ => P0_ k_)) hg (by repeat (first | (with_reducible first | exact HK.out | apply Kept.alloc | apply Kept.drewN | apply Kept.drew) | exact HK.out)) (fun k_ e_ => (HO674.out.1 k_ e_).1.1)); have n3_:=am_ ((show Kd.C (Kd.int .i64) w35 Ao31 y675.length y675 from by rw [Ny675.out]; exact Kd.C_take (m:=(x5_1:Int).toNat) ((Kd.R_reads' (Kd.R_after (ok:=(fun k_ => (P0_ k_ ∨ w.heap.size ≤ k_))) (kr_ HO_0.out) hg hat)).2.2) KL34.out)); have n4_:=am_ (ho); clear HO_0; clear HB; clear HK; clear HR678; clear HO674; have HO_0:=n0_; have HB:=n1_; have HK:=n2_; have HR678:=n3_; have HO681:=n4_; clear n0_ n1_ n2_ n3_ n4_; clear ho hb hg hat) | ((with_reducible refine gate_builtin (b:=.append) (xs:=#[.tmp 39,.tmp 41]) rfl ?_); at_builtin; refine Kd.R_append (Kd.int .i64) (w0:=w0) w0.heap.size rfl (.tmp 39) (.tmp 41) 22 3 (.int .i64 0) 8 rfl Tryd.underlying22 info3 rfl (by decide) (by omega) v680 y679 a1 [.int .i64 a1] (fun k_ => (P0_ k_ ∨ w.heap.size ≤ k_) ∧ some k_ ≠ (.slice Ao31 l0.length co31:Value).ownBlock) (fun _ => False) rfl rfl ?aP (fun _ hk => hk.elim) ?aF ?aO ?aB ?aS ?aL ?_; (case aP => exact rfl); (case aB => exact (bl0_ HB.out)); (case aF => exact (fun k_ hk => ⟨(.inr (Nat.le_trans (by first | exact HK.out.1 | exact (show Kept w _ (fun k_ => P0_ k_) from by repeat (first | (with_reducible first | exact HK.out | apply Kept.alloc | apply Kept.drewN | apply Kept.drew) | exact HK.out)).1) hk)),Kd.fresh' (Kd.R_lt (kr_ HO_0.out)) k_ hk⟩)); (case aO => exact (kr_ HO681.out)); (case aS => exact (below_size (bl0_ HB.out))); (case aL => have:=LMc27.out; omega); intro v683 w36 ho hb hg hat; rw [← Ny682.out] at ho; have n0_:=am_ (Kd.R_after (ok:=(fun k_ => (P0_ k_ ∨ w.heap.size ≤ k_))) (kr_ HO_0.out) hg hat); have n1_:=am_ (hb); have n2_:=am_ (Kept.of_grown (S:=(fun k_ => P0_ k_)) hg (by repeat (first | (with_reducible first | exact HK.out | apply Kept.alloc | apply Kept.drewN | apply Kept.drew) | exact HK.out)) (fun k_ e_ => (HO681.out.1 k_ e_).1)); have n3_:=am_ ((show Kd.C (Kd.int .i64) w36 Ao31 y675.length y675 from by rw [Ny675.out]; exact Kd.C_take (m:=(x5_1:Int).toNat) ((Kd.R_reads' (Kd.R_after (ok:=(fun k_ => (P0_ k_ ∨ w.heap.size ≤ k_))) (kr_ HO_0.out) hg hat)).2.2) KL34.out)); have n4_:=am_ (ho); clear HO_0; clear HB; clear HK; clear HR678; clear HO681; have HO_0:=n0_; have HB:=n1_; have HK:=n2_; have HR678:=n3_; have HO684:=n4_; clear n0_ n1_ n2_ n3_ n4_; clear ho hb hg hat; have q37:(x5_1:Int) ≤ ((l0.length:Int):Int):=of_decide_eq_true as_; obtain ⟨i037,hi037,_,hsz37,_⟩:=info_parts info3; have hroom37:l0.length ≤ co31:=(Kd.R_reads' HO_0.out).2.1; have hC37:Kd.C (Kd.int .i64) _ Ao31 l0.length l0:=(Kd.R_reads' HO_0.out).2.2; have q037:(0:Int) ≤ (x5_1:Int):=of_decide_eq_true as_; have hcut37:=cut_from (P:=Tryd.prog) 22 3 .i64 Tryd.underlying22 hi037 1 hsz37 Ao31 l0.length co31 x5_1 q037 q37; have hr37:=Kd.C_drop (m:=(x5_1:Int).toNat) (c:=co31) hC37 (by omega) hroom37; obtain ⟨A37,hA37⟩:∃ A1,A1 = (if co31 = (x5_1:Int).toNat then Ao31 else (Ao31:Option Addr).map (·.add ((x5_1:Int).toNat * 1))):=⟨_,rfl⟩; obtain ⟨c37,hc37⟩:∃ c1,c1 = co31 - (x5_1:Int).toNat:=⟨_,rfl⟩; have hy37:y685.length = l0.length - (x5_1:Int).toNat:=(by rw [Ny685.out,List.length_drop] <;> omega); rw [show (l0).drop (x5_1:Int).toNat = y685 from Ny685.out.symm] at hr37; replace hr37:Kd.C (Kd.int .i64) _ A37 y685.length y685:=(by rw [hA37]; exact hr37); rw [← hy37,← hA37,← hc37] at hcut37; have HR688:=am_ hr37; have HC688:=am_ (show y685.length ≤ c37 from by rw [hy37,hc37]; exact Nat.sub_le_sub_right hroom37 _); clear hr37 hC37 hroom37 hi037 hsz37 hc37; have KY37:=am_ hy37; have KA37:=am_ hA37; clear hy37 hA37; have KL37:=am_ (show (x5_1:Int).toNat ≤ l0.length from by omega); replace q37:=eq_true q37) | ((with_reducible refine gate_builtin (b:=.append) (xs:=#[.tmp 43,.tmp 46]) rfl ?_); at_builtin; refine Kd.R_append_rows (Kd.int .i64) (w0:=w0) w0.heap.size rfl (.tmp 43) (.tmp 46) 22 3 (.int .i64 0) 8 rfl Tryd.underlying22 info3 rfl (by decide) (by omega) v683 y682 y685 _ _ _ (fun k_ => (P0_ k_ ∨ w.heap.size ≤ k_) ∧ some k_ ≠ (.slice Ao31 l0.length co31:Value).ownBlock) (fun _ => False) rfl rfl ?aO ?aR (fun _ _ h => h) (fun _ h => h.elim) ?aF ?aB ?aS ?aL ?_; (case aR => repeat (first | exact (by repeat (first | (with_reducible exact HR688.out) | (with_reducible refine Kd.C_alloc ?_ _) | (with_reducible refine Kd.C_drewN ?_ _) | (with_reducible refine Kd.C_drew ?_) | exact HR688.out)) | (with_reducible refine Kd.C_alloc ?_ _) | (with_reducible refine Kd.C_drewN ?_ _) | (with_reducible refine Kd.C_drew ?_))); (case aB => exact (bl0_ HB.out)); (case aF => exact (fun k_ hk => ⟨(.inr (Nat.le_trans (by first | exact HK.out.1 | exact (show Kept w _ (fun k_ => P0_ k_) from by repeat (first | (with_reducible first | exact HK.out | apply Kept.alloc | apply Kept.drewN | apply Kept.drew) | exact HK.out)).1) hk)),Kd.fresh' (Kd.R_lt (kr_ HO_0.out)) k_ hk⟩)); (case aO => exact (kr_ HO684.out)); (case aS => exact (below_size (bl0_ HB.out))); (case aL => have:=LMc30.out; omega); intro v690 w38 ho hb hg hat; rw [← Ny689.out] at ho; have n0_:=am_ (Kd.R_after (ok:=(fun k_ => (P0_ k_ ∨ w.heap.size ≤ k_))) (kr_ HO_0.out) hg hat); have n1_:=am_ (hb); have n2_:=am_ (Kept.of_grown (S:=(fun k_ => P0_ k_)) hg (by repeat (first | (with_reducible first | exact HK.out | apply Kept.alloc | apply Kept.drewN | apply Kept.drew) | exact HK.out)) (fun k_ e_ => (HO684.out.1 k_ e_).1)); have n3_:=am_ ((show Kd.C (Kd.int .i64) w38 Ao31 y675.length y675 from by rw [Ny675.out]; exact Kd.C_take (m:=(x5_1:Int).toNat) ((Kd.R_reads' (Kd.R_after (ok:=(fun k_ => (P0_ k_ ∨ w.heap.size ≤ k_))) (kr_ HO_0.out) hg hat)).2.2) KL34.out)); have n4_:=am_ ((show Kd.C (Kd.int .i64) w38 A37 y685.length y685 from by rw [Ny685.out,KA37.out]; exact Kd.C_drop (m:=(x5_1:Int).toNat) (c:=co31) ((Kd.R_reads' (Kd.R_after (ok:=(fun k_ => (P0_ k_ ∨ w.heap.size ≤ k_))) (kr_ HO_0.out) hg hat)).2.2) KL37.out ((Kd.R_reads' (Kd.R_after (ok:=(fun k_ => (P0_ k_ ∨ w.heap.size ≤ k_))) (kr_ HO_0.out) hg hat)).2.1))); have n5_:=am_ (ho); clear HO_0; clear HB; clear HK; clear HR678; clear HR688; clear HO684; have HO_0:=n0_; have HB:=n1_; have HK:=n2_; have HR678:=n3_; have HR688:=n4_; have HO691:=n5_; clear n0_ n1_ n2_ n3_ n4_ n5_; clear ho hb hg hat))
         go_ret
         exact ⟨_,er_,by (with_reducible repeat (first | apply Kd.R_alloc | apply Kd.R_drewN | apply Kd.R_drew)); exact Kd.R_mono HO691.out (fun _ hk => hk.1),bl0_ HB.out,by repeat (first | (with_reducible first | exact HK.out | apply Kept.alloc | apply Kept.drewN | apply Kept.drew) | exact HK.out)⟩
        ·rw [if_neg c30] at H
         exact absurd H (by simp)
       ·rw [if_neg c27] at H
        exact absurd H (by simp)
      ·rw [if_neg c26] at H
       exact absurd H (by simp)
     ·rw [if_neg c25] at H
      exact absurd H (by simp)
    ·rw [if_neg c24] at H
     exact absurd H (by simp)


def spec_fiPut.f (k:Nat) (a0_0:Int) (a0_1:Int) (l0_2:List Int) (l0_3:List Int) (a1:Bool) (a2:Int) (a3:Int):Option (Int × Int × List Int × List Int):=(spec_fiOwn.f a0_0 a0_1 l0_2 l0_3).bind fun bt694 => ((spec_fiEdge.f a0_0 a0_1 l0_2 l0_3 a1 a2 a3).bind fun bt703 => ((spec_fiHas.f k a0_0 a0_1 l0_2 l0_3 a1 a2 a3).bind fun t705 => (if t705 = true then (some (bt694.1,bt694.2.1,bt694.2.2.1,bt694.2.2.2)) else (if a1 = true then ((spec_l1Put.f k bt694.2.2.2 bt703.1).bind fun t706 => (some (bt694.1,bt694.2.1,bt694.2.2.1,t706))) else ((spec_l1Put.f k bt694.2.2.1 bt703.1).bind fun t709 => (some (bt694.1,bt694.2.1,t709,bt694.2.2.2)))))))
theorem spec_fiPut.mono:∀ a0 a1 a2 a3 a4 a5 a6 k,LeO (spec_fiPut.f k a0 a1 a2 a3 a4 a5 a6) (spec_fiPut.f (k + 1) a0 a1 a2 a3 a4 a5 a6):=by
 intro a0 a1 a2 a3 a4 a5 a6 k
 unfold spec_fiPut.f
 repeat' first | (with_reducible first | exact spec_fiHas.mono _ _ _ _ _ _ _ _ | exact spec_l1Put.mono _ _ _ | exact LeO.refl _ | exact LeO.none _ | refine LeO.ite ?_ ?_ | refine LeO.bind ?_ (fun _ => ?_)) | exact spec_fiHas.mono _ _ _ _ _ _ _ _ | exact spec_l1Put.mono _ _ _
set_option maxHeartbeats 8000000 in
set_option maxRecDepth 100000 in
theorem spec_fiPut.calls (k:Nat) (a0_0:Int) (a0_1:Int) (A0_2:Option Addr) (c0_2:Nat) (l0_2:List Int) (A0_3:Option Addr) (c0_3:Nat) (l0_3:List Int) (a1:Bool) (a2:Int) (a3:Int) (r1:Int) (r2:Int) (r3:List Int) (r4:List Int) (w:World) (hr0_2:Kd.C (Kd.int .i64) w A0_2 l0_2.length l0_2) (hc0_2:l0_2.length ≤ c0_2) (hr0_3:Kd.C (Kd.int .i64) w A0_3 l0_3.length l0_3) (hc0_3:l0_3.length ≤ c0_3) (h:spec_fiPut.f k a0_0 a0_1 l0_2 l0_3 a1 a2 a3 = some (r1,r2,r3,r4)) :
  Calls Tryd.prog 138 #[.agg #[.int .i64 a0_0,.int .i64 a0_1,.slice A0_2 l0_2.length c0_2,.slice A0_3 l0_3.length c0_3],.bool a1,.int .i64 a2,.int .i64 a3] w fun e w' => ∃ v2_ v3_:Value,e = .returned (.agg #[.int .i64 r1,.int .i64 r2,v2_,v3_]) ∧ Kd.R (Kd.int .i64) 3 w' w.heap.size (fun k_ => some k_ ≠ (v3_:Value).ownBlock) v2_ r3 ∧ Kd.R (Kd.int .i64) 3 w' w.heap.size (fun k_ => some k_ ≠ (v2_:Value).ownBlock) v3_ r4 ∧ Below w.heap.size w w':=by
 have hu36:=Tryd.underlying36
 have HR0_2:=am_ hr0_2
 have HC0_2:=am_ hc0_2
 clear hr0_2 hc0_2
 have HR0_3:=am_ hr0_3
 have HC0_3:=am_ hc0_3
 clear hr0_3 hc0_3
 have HB:=am_ (Below.refl w.heap.size w)
 have H:((spec_fiOwn.f a0_0 a0_1 l0_2 l0_3).bind fun bt694 => ((spec_fiEdge.f a0_0 a0_1 l0_2 l0_3 a1 a2 a3).bind fun bt703 => ((spec_fiHas.f k a0_0 a0_1 l0_2 l0_3 a1 a2 a3).bind fun t705 => (if t705 = true then (some (bt694.1,bt694.2.1,bt694.2.2.1,bt694.2.2.2)) else (if a1 = true then ((spec_l1Put.f k bt694.2.2.2 bt703.1).bind fun t706 => (some (bt694.1,bt694.2.1,bt694.2.2.1,t706))) else ((spec_l1Put.f k bt694.2.2.1 bt703.1).bind fun t709 => (some (bt694.1,bt694.2.1,t709,bt694.2.2.2)))))))) = some (r1,r2,r3,r4):=h
 clear h
 replace H:=bi_ H
 obtain ⟨⟨t694,t695,t696,t699⟩,A50,H⟩:=H
 replace H:((spec_fiEdge.f a0_0 a0_1 l0_2 l0_3 a1 a2 a3).bind fun bt703 => ((spec_fiHas.f k a0_0 a0_1 l0_2 l0_3 a1 a2 a3).bind fun t705 => (if t705 = true then (some (t694,t695,t696,t699)) else (if a1 = true then ((spec_l1Put.f k t699 bt703.1).bind fun t706 => (some (t694,t695,t696,t706))) else ((spec_l1Put.f k t696 bt703.1).bind fun t709 => (some (t694,t695,t709,t699))))))) = some (r1,r2,r3,r4):=H
 have A5:=am_ A50
 clear A50
 replace H:=bi_ H
 obtain ⟨⟨t703,t704⟩,A60,H⟩:=H
 replace H:((spec_fiHas.f k a0_0 a0_1 l0_2 l0_3 a1 a2 a3).bind fun t705 => (if t705 = true then (some (t694,t695,t696,t699)) else (if a1 = true then ((spec_l1Put.f k t699 t703).bind fun t706 => (some (t694,t695,t696,t706))) else ((spec_l1Put.f k t696 t703).bind fun t709 => (some (t694,t695,t709,t699)))))) = some (r1,r2,r3,r4):=H
 have A6:=am_ A60
 clear A60
 replace H:=bi_ H
 obtain ⟨t705,A70,H⟩:=H
 replace H:(if t705 = true then (some (t694,t695,t696,t699)) else (if a1 = true then ((spec_l1Put.f k t699 t703).bind fun t706 => (some (t694,t695,t696,t706))) else ((spec_l1Put.f k t696 t703).bind fun t709 => (some (t694,t695,t709,t699))))) = some (r1,r2,r3,r4):=H
 have A7:=am_ A70
 clear A70
 by_cases c8:t705 = true
 ·subst c8
  have H1:(some (t694,t695,t696,t699)) = some (r1,r2,r3,r4):=by rw [if_pos rfl] at H; exact H
  clear H
  have H:=H1
  clear H1
  simp only [Option.some.injEq,Prod.mk.injEq] at H
  obtain ⟨rfl,rfl,rfl,rfl⟩:=H
  go_enter Tryd.func138,Tryd.ntmps138
  go_wp2_with (first | ((with_reducible refine gate_dst (N:=4) rfl ?_); refine boxE_ (N:=4) (cs:=#[.int .i64 a0_0,.int .i64 a0_1,.slice A0_2 l0_2.length c0_2,.slice A0_3 l0_3.length c0_3]) (t:=36) ?_; intro gb692 hg w9 hbox hb; have n0_:=am_ (below_step (bl0_ HB.out) hb); have n1_:=am_ (hbox); have n2_:=am_ ((bs0_ hg HB.out:w.heap.size ≤ gb692)); have n3_:=am_ ((bs0_ hg HB.out:w.heap.size ≤ gb692)); clear HB; have HB:=n0_; have BK692:=n1_; have GW692:=n2_; have GE692:=n3_; clear n0_ n1_ n2_ n3_; clear hb hbox hg) | ((with_reducible refine gate_dst (N:=8) rfl ?_); refine boxE_ (N:=8) (cs:=#[.int .i64 0,.int .i64 0,.slice none 0 0,.slice none 0 0]) (t:=36) ?_; intro gb693 hg w10 hbox hb; have n0_:=am_ (bb_ BK692.out hb); have n1_:=am_ (below_step (bl1_ HB.out GE692.out) hb); have n2_:=am_ (hbox); have n3_:=am_ ((bs1_ hg HB.out GE692.out:w.heap.size ≤ gb693)); have n4_:=am_ ((bs1_ hg HB.out GE692.out:w.heap.size ≤ gb693)); have n5_:=am_ ((nl_ hg BK692.out:gb692 ≠ gb693)); have n6_:=am_ ((ng_ hg BK692.out:gb693 ≠ gb692)); clear BK692; clear HB; have BK692:=n0_; have HB:=n1_; have BK693:=n2_; have GW693:=n3_; have GE693:=n4_; have NB692_693:=n5_; have NB693_692:=n6_; clear n0_ n1_ n2_ n3_ n4_ n5_ n6_; clear hb hbox hg; have hnb11:=NB692_693.out; have hnc11:=NB693_692.out; have hcz12_0:w10.cell? ⟨gb692,0,none⟩ = some (.int .i64 a0_0):=(bc_ BK692.out 0).trans rfl; have hcz12_1:w10.cell? ⟨gb692,1,none⟩ = some (.int .i64 a0_1):=(bc_ BK692.out 1).trans rfl; have hcz12_2:w10.cell? ⟨gb692,2,none⟩ = some (.slice A0_2 l0_2.length c0_2):=(bc_ BK692.out 2).trans rfl; have hcz12_3:w10.cell? ⟨gb692,3,none⟩ = some (.slice A0_3 l0_3.length c0_3):=(bc_ BK692.out 3).trans rfl; have hfz12_0:=bz_ BK692.out 0; have hfz12_1:=bz_ BK692.out 1; have hfz12_2:=bz_ BK692.out 2; have hfz12_3:=bz_ BK692.out 3) | ((with_reducible refine gate_callee (f:=164) rfl ?_); refine goesL_ (some 13) rfl rfl Tryd.func164 (by kernel_rfl) rfl #[.agg #[.int .i64 a0_0,.int .i64 a0_1,.slice A0_2 l0_2.length c0_2,.slice A0_3 l0_3.length c0_3]] rfl ob_ ?_; (with_reducible refine (spec_fiOwn.calls a0_0 a0_1 _ _ l0_2 _ _ l0_3 t694 t695 t696 t699 _ ?side1 ?side2 ?side3 ?side4 A5.out).mono ?_); (case side1 => exact kc_ (Kd.C_below HR0_2.out HB.out)); (case side2 => exact HC0_2.out); (case side3 => exact kc_ (Kd.C_below HR0_3.out HB.out)); (case side4 => exact HC0_3.out); rintro e w13 ⟨v697,v700,rfl,ho0,ho1,hb⟩; refine ⟨_,rfl,?_⟩; have n0_:=am_ (Kd.R_lower ho0 (below_size (bl2_ HB.out GE692.out GE693.out))); have n1_:=am_ (Kd.R_lower ho1 (below_size (bl2_ HB.out GE692.out GE693.out))); have n2_:=am_ (bb_ BK692.out hb); have n3_:=am_ (bb_ BK693.out hb); have n4_:=am_ (below_step (bl2_ HB.out GE692.out GE693.out) hb); clear BK692; clear BK693; clear HB; have HO698:=n0_; have HO701:=n1_; have BK692:=n2_; have BK693:=n3_; have HB:=n4_; clear n0_ n1_ n2_ n3_ n4_; (try clear hb); (try clear hb2); (try clear hk); (try clear hi); (try clear ho0); (try clear ho1)) | ((with_reducible refine gate_dst (N:=9) rfl ?_); refine boxE_ (N:=9) (cs:=#[.int .i64 0,.int .i64 0,.slice none 0 0,.slice none 0 0]) (t:=36) ?_; intro gb702 hg w14 hbox hb; have n0_:=am_ (Kd.R_below (kr_ HO698.out) hb); have n1_:=am_ (Kd.R_below (kr_ HO701.out) hb); have n2_:=am_ (bb_ BK692.out hb); have n3_:=am_ (bb_ BK693.out hb); have n4_:=am_ (below_step (bl2_ HB.out GE692.out GE693.out) hb); have n5_:=am_ (hbox); have n6_:=am_ ((bs2_ hg HB.out GE692.out GE693.out:w.heap.size ≤ gb702)); have n7_:=am_ ((bs2_ hg HB.out GE692.out GE693.out:w.heap.size ≤ gb702)); have n8_:=am_ ((nl_ hg BK692.out:gb692 ≠ gb702)); have n9_:=am_ ((ng_ hg BK692.out:gb702 ≠ gb692)); have n10_:=am_ ((nl_ hg BK693.out:gb693 ≠ gb702)); have n11_:=am_ ((ng_ hg BK693.out:gb702 ≠ gb693)); clear HO698; clear HO701; clear BK692; clear BK693; clear HB; have HO698:=n0_; have HO701:=n1_; have BK692:=n2_; have BK693:=n3_; have HB:=n4_; have BK702:=n5_; have GW702:=n6_; have GE702:=n7_; have NB692_702:=n8_; have NB702_692:=n9_; have NB693_702:=n10_; have NB702_693:=n11_; clear n0_ n1_ n2_ n3_ n4_ n5_ n6_ n7_ n8_ n9_ n10_ n11_; clear hb hbox hg; have hnb15:=NB702_692.out; have hnc15:=NB692_702.out; have hnb16:=NB702_693.out; have hnc16:=NB693_702.out; have hcz17_0:w14.cell? ⟨gb702,0,none⟩ = some (.int .i64 0):=(bc_ BK702.out 0).trans rfl; have hcz17_1:w14.cell? ⟨gb702,1,none⟩ = some (.int .i64 0):=(bc_ BK702.out 1).trans rfl; have hcz17_2:w14.cell? ⟨gb702,2,none⟩ = some (.slice none 0 0):=(bc_ BK702.out 2).trans rfl; have hcz17_3:w14.cell? ⟨gb702,3,none⟩ = some (.slice none 0 0):=(bc_ BK702.out 3).trans rfl; have hfz17_0:=bz_ BK702.out 0; have hfz17_1:=bz_ BK702.out 1; have hfz17_2:=bz_ BK702.out 2; have hfz17_3:=bz_ BK702.out 3; obtain ⟨Ao18,co18,eo18⟩:=Kd.R_slice HO698.out; subst eo18; obtain ⟨Ao19,co19,eo19⟩:=Kd.R_slice HO701.out; subst eo19; have hcz20_0:w14.cell? ⟨gb692,0,none⟩ = some (.int .i64 a0_0):=(bc_ BK692.out 0).trans rfl; have hcz20_1:w14.cell? ⟨gb692,1,none⟩ = some (.int .i64 a0_1):=(bc_ BK692.out 1).trans rfl; have hcz20_2:w14.cell? ⟨gb692,2,none⟩ = some (.slice A0_2 l0_2.length c0_2):=(bc_ BK692.out 2).trans rfl; have hcz20_3:w14.cell? ⟨gb692,3,none⟩ = some (.slice A0_3 l0_3.length c0_3):=(bc_ BK692.out 3).trans rfl; have hfz20_0:=bz_ BK692.out 0; have hfz20_1:=bz_ BK692.out 1; have hfz20_2:=bz_ BK692.out 2; have hfz20_3:=bz_ BK692.out 3) | ((with_reducible refine gate_callee (f:=150) rfl ?_); refine goesL_ (some 19) rfl rfl Tryd.func150 (by kernel_rfl) rfl #[.agg #[.int .i64 a0_0,.int .i64 a0_1,.slice A0_2 l0_2.length c0_2,.slice A0_3 l0_3.length c0_3],.bool a1,.int .i64 a2,.int .i64 a3] rfl ob_ ?_; (with_reducible refine (spec_fiEdge.calls a0_0 a0_1 _ _ l0_2 _ _ l0_3 a1 a2 a3 t703 t704 _ ?side1 ?side2 ?side3 ?side4 A6.out).mono ?_); (case side1 => exact Kd.C_below HR0_2.out (bl3_ HB.out GE692.out GE693.out GE702.out)); (case side2 => exact HC0_2.out); (case side3 => exact Kd.C_below HR0_3.out (bl3_ HB.out GE692.out GE693.out GE702.out)); (case side4 => exact HC0_3.out); rintro e w21 ⟨rfl,hb⟩; refine ⟨_,rfl,?_⟩; have n0_:=am_ (Kd.R_below (by (with_reducible repeat (first | apply Kd.R_alloc | apply Kd.R_drewN | apply Kd.R_drew)); exact (Kd.R_mono (Kd.R_far (p:=⟨gb702,3,none⟩) (Kd.R_far (p:=⟨gb702,2,none⟩) (Kd.R_far (p:=⟨gb702,1,none⟩) (Kd.R_far (p:=⟨gb702,0,none⟩) (Kd.R_types HO698.out BK702.out (by decide)) (fun _ hk => hk.2) (.int .i64 t694)) (fun _ hk => hk.2) (.int .i64 t695)) (fun _ hk => hk.2) (.slice Ao18 t696.length co18)) (fun _ hk => hk.2) (.slice Ao19 t699.length co19)) (fun _ h_ => h_.1))) hb); have n1_:=am_ (Kd.R_below (by (with_reducible repeat (first | apply Kd.R_alloc | apply Kd.R_drewN | apply Kd.R_drew)); exact (Kd.R_mono (Kd.R_far (p:=⟨gb702,3,none⟩) (Kd.R_far (p:=⟨gb702,2,none⟩) (Kd.R_far (p:=⟨gb702,1,none⟩) (Kd.R_far (p:=⟨gb702,0,none⟩) (Kd.R_types HO701.out BK702.out (by decide)) (fun _ hk => hk.2) (.int .i64 t694)) (fun _ hk => hk.2) (.int .i64 t695)) (fun _ hk => hk.2) (.slice Ao18 t696.length co18)) (fun _ hk => hk.2) (.slice Ao19 t699.length co19)) (fun _ h_ => h_.1))) hb); have n2_:=am_ (blk_below (g:=gb692) (o:=.cells #[.int .i64 a0_0,.int .i64 a0_1,.slice A0_2 l0_2.length c0_2,.slice A0_3 l0_3.length c0_3] 36 (0,0)) (bf4_ NB692_702.out NB692_702.out NB692_702.out NB692_702.out BK692.out) hb); have n3_:=am_ (blk_below (g:=gb693) (o:=.cells #[.int .i64 0,.int .i64 0,.slice none 0 0,.slice none 0 0] 36 (0,0)) (bf4_ NB693_702.out NB693_702.out NB693_702.out NB693_702.out BK693.out) hb); have n4_:=am_ (blk_below (g:=gb702) (o:=.cells #[.int .i64 t694,.int .i64 t695,.slice Ao18 t696.length co18,.slice Ao19 t699.length co19] 36 (0,0)) (by (with_reducible repeat (first | refine blk_drewN ?_ _ | refine blk_drew ?_ | refine blk_alloc ?_ _)); refine blk_put (cs:=#[.int .i64 t694,.int .i64 t695,.slice Ao18 t696.length co18,.slice none 0 0]) ?_ 3 _ rfl; (with_reducible repeat (first | refine blk_drewN ?_ _ | refine blk_drew ?_ | refine blk_alloc ?_ _)); refine blk_put (cs:=#[.int .i64 t694,.int .i64 t695,.slice none 0 0,.slice none 0 0]) ?_ 2 _ rfl; (with_reducible repeat (first | refine blk_drewN ?_ _ | refine blk_drew ?_ | refine blk_alloc ?_ _)); refine blk_put (cs:=#[.int .i64 t694,.int .i64 0,.slice none 0 0,.slice none 0 0]) ?_ 1 _ rfl; (with_reducible repeat (first | refine blk_drewN ?_ _ | refine blk_drew ?_ | refine blk_alloc ?_ _)); refine blk_put (cs:=#[.int .i64 0,.int .i64 0,.slice none 0 0,.slice none 0 0]) ?_ 0 _ rfl; (with_reducible repeat (first | refine blk_drewN ?_ _ | refine blk_drew ?_ | refine blk_alloc ?_ _)); exact BK702.out) hb); have n5_:=am_ (below_step (bl3_ HB.out GE692.out GE693.out GE702.out) hb); clear HO698; clear HO701; clear BK692; clear BK693; clear BK702; clear HB; have HO698:=n0_; have HO701:=n1_; have BK692:=n2_; have BK693:=n3_; have BK702:=n4_; have HB:=n5_; clear n0_ n1_ n2_ n3_ n4_ n5_; (try clear hb); (try clear hb2); (try clear hk); (try clear hi); have hcz22_0:w21.cell? ⟨gb692,0,none⟩ = some (.int .i64 a0_0):=(bc_ BK692.out 0).trans rfl; have hcz22_1:w21.cell? ⟨gb692,1,none⟩ = some (.int .i64 a0_1):=(bc_ BK692.out 1).trans rfl; have hcz22_2:w21.cell? ⟨gb692,2,none⟩ = some (.slice A0_2 l0_2.length c0_2):=(bc_ BK692.out 2).trans rfl; have hcz22_3:w21.cell? ⟨gb692,3,none⟩ = some (.slice A0_3 l0_3.length c0_3):=(bc_ BK692.out 3).trans rfl; have hfz22_0:=bz_ BK692.out 0; have hfz22_1:=bz_ BK692.out 1; have hfz22_2:=bz_ BK692.out 2; have hfz22_3:=bz_ BK692.out 3) | ((with_reducible refine gate_callee (f:=122) rfl ?_); refine goesL_ (some 32) rfl rfl Tryd.func122 (by kernel_rfl) rfl #[.agg #[.int .i64 a0_0,.int .i64 a0_1,.slice A0_2 l0_2.length c0_2,.slice A0_3 l0_3.length c0_3],.bool a1,.int .i64 a2,.int .i64 a3] rfl ob_ ?_; (with_reducible refine (spec_fiHas.calls k a0_0 a0_1 _ _ l0_2 _ _ l0_3 a1 a2 a3 true _ ?side1 ?side2 ?side3 ?side4 A7.out).mono ?_); (case side1 => exact kc_ (Kd.C_below HR0_2.out HB.out)); (case side2 => exact HC0_2.out); (case side3 => exact kc_ (Kd.C_below HR0_3.out HB.out)); (case side4 => exact HC0_3.out); rintro e w23 ⟨rfl,hb⟩; refine ⟨_,rfl,?_⟩; have n0_:=am_ (Kd.R_below (kr_ HO698.out) hb); have n1_:=am_ (Kd.R_below (kr_ HO701.out) hb); have n2_:=am_ (bb_ BK692.out hb); have n3_:=am_ (bb_ BK693.out hb); have n4_:=am_ (bb_ BK702.out hb); have n5_:=am_ (below_step (bl3_ HB.out GE692.out GE693.out GE702.out) hb); clear HO698; clear HO701; clear BK692; clear BK693; clear BK702; clear HB; have HO698:=n0_; have HO701:=n1_; have BK692:=n2_; have BK693:=n3_; have BK702:=n4_; have HB:=n5_; clear n0_ n1_ n2_ n3_ n4_ n5_; (try clear hb); (try clear hb2); (try clear hk); (try clear hi); have hcz24_0:w23.cell? ⟨gb702,0,none⟩ = some (.int .i64 t694):=(bc_ BK702.out 0).trans rfl; have hcz24_1:w23.cell? ⟨gb702,1,none⟩ = some (.int .i64 t695):=(bc_ BK702.out 1).trans rfl; have hcz24_2:w23.cell? ⟨gb702,2,none⟩ = some (.slice Ao18 t696.length co18):=(bc_ BK702.out 2).trans rfl; have hcz24_3:w23.cell? ⟨gb702,3,none⟩ = some (.slice Ao19 t699.length co19):=(bc_ BK702.out 3).trans rfl; have hfz24_0:=bz_ BK702.out 0; have hfz24_1:=bz_ BK702.out 1; have hfz24_2:=bz_ BK702.out 2; have hfz24_3:=bz_ BK702.out 3; have hcz25_0:w23.cell? ⟨gb693,0,none⟩ = some (.int .i64 0):=(bc_ BK693.out 0).trans rfl; have hcz25_1:w23.cell? ⟨gb693,1,none⟩ = some (.int .i64 0):=(bc_ BK693.out 1).trans rfl; have hcz25_2:w23.cell? ⟨gb693,2,none⟩ = some (.slice none 0 0):=(bc_ BK693.out 2).trans rfl; have hcz25_3:w23.cell? ⟨gb693,3,none⟩ = some (.slice none 0 0):=(bc_ BK693.out 3).trans rfl; have hfz25_0:=bz_ BK693.out 0; have hfz25_1:=bz_ BK693.out 1; have hfz25_2:=bz_ BK693.out 2; have hfz25_3:=bz_ BK693.out 3))
  refine bodyPost_ret (results_cell_row rfl _ _ gb693 36 #[.int .i64 t694,.int .i64 t695,.slice Ao18 t696.length co18,.slice Ao19 t699.length co19] (0,0) _ rfl (by (with_reducible repeat (first | refine blk_drewN ?_ _ | refine blk_drew ?_ | refine blk_alloc ?_ _)); refine blk_put (cs:=#[.int .i64 t694,.int .i64 t695,.slice Ao18 t696.length co18,.slice none 0 0]) ?_ 3 _ rfl; (with_reducible repeat (first | refine blk_drewN ?_ _ | refine blk_drew ?_ | refine blk_alloc ?_ _)); refine blk_put (cs:=#[.int .i64 t694,.int .i64 t695,.slice none 0 0,.slice none 0 0]) ?_ 2 _ rfl; (with_reducible repeat (first | refine blk_drewN ?_ _ | refine blk_drew ?_ | refine blk_alloc ?_ _)); refine blk_put (cs:=#[.int .i64 t694,.int .i64 0,.slice none 0 0,.slice none 0 0]) ?_ 1 _ rfl; (with_reducible repeat (first | refine blk_drewN ?_ _ | refine blk_drew ?_ | refine blk_alloc ?_ _)); refine blk_put (cs:=#[.int .i64 0,.int .i64 0,.slice none 0 0,.slice none 0 0]) ?_ 0 _ rfl; (with_reducible repeat (first | refine blk_drewN ?_ _ | refine blk_drew ?_ | refine blk_alloc ?_ _)); exact BK693.out) Tryd.underlying36 rfl (by kernel_rfl)) rfl ?_
  exact ⟨_,_,er_,by (with_reducible repeat (first | apply Kd.R_alloc | apply Kd.R_drewN | apply Kd.R_drew)); exact Kd.R_mono (Kd.R_far (p:=⟨gb693,3,none⟩) (Kd.R_far (p:=⟨gb693,2,none⟩) (Kd.R_far (p:=⟨gb693,1,none⟩) (Kd.R_far (p:=⟨gb693,0,none⟩) (Kd.R_types HO698.out BK693.out (by decide)) (fun _ hk => hk.2) (.int .i64 t694)) (fun _ hk => hk.2) (.int .i64 t695)) (fun _ hk => hk.2) (.slice Ao18 t696.length co18)) (fun _ hk => hk.2) (.slice Ao19 t699.length co19)) (fun _ hk => hk.1),by (with_reducible repeat (first | apply Kd.R_alloc | apply Kd.R_drewN | apply Kd.R_drew)); exact Kd.R_mono (Kd.R_far (p:=⟨gb693,3,none⟩) (Kd.R_far (p:=⟨gb693,2,none⟩) (Kd.R_far (p:=⟨gb693,1,none⟩) (Kd.R_far (p:=⟨gb693,0,none⟩) (Kd.R_types HO701.out BK693.out (by decide)) (fun _ hk => hk.2) (.int .i64 t694)) (fun _ hk => hk.2) (.int .i64 t695)) (fun _ hk => hk.2) (.slice Ao18 t696.length co18)) (fun _ hk => hk.2) (.slice Ao19 t699.length co19)) (fun _ hk => hk.1),bl3_ HB.out GE692.out GE693.out GE702.out⟩
 ·replace c8:=Bool.eq_false_iff.mpr c8
  subst c8
  have H1:(if a1 = true then ((spec_l1Put.f k t699 t703).bind fun t706 => (some (t694,t695,t696,t706))) else ((spec_l1Put.f k t696 t703).bind fun t709 => (some (t694,t695,t709,t699)))) = some (r1,r2,r3,r4):=by rw [if_neg (show ¬ (false = true) by decide)] at H; exact H
  clear H
  have H:=H1
  clear H1
  by_cases c26:a1 = true
  ·subst c26
   have H1:((spec_l1Put.f k t699 t703).bind fun t706 => (some (t694,t695,t696,t706))) = some (r1,r2,r3,r4):=by rw [if_pos rfl] at H; exact H
   clear H
   have H:=H1
   clear H1
   replace H:=bi_ H
   obtain ⟨t706,A270,H⟩:=H
   replace H:(some (t694,t695,t696,t706)) = some (r1,r2,r3,r4):=H
   have A27:=am_ A270
   clear A270
   simp only [Option.some.injEq,Prod.mk.injEq] at H
   obtain ⟨rfl,rfl,rfl,rfl⟩:=H
   go_enter Tryd.func138,Tryd.ntmps138
   go_wp2_with (first | ((with_reducible refine gate_dst (N:=4) rfl ?_); refine boxE_ (N:=4) (cs:=#[.int .i64 a0_0,.int .i64 a0_1,.slice A0_2 l0_2.length c0_2,.slice A0_3 l0_3.length c0_3]) (t:=36) ?_; intro gb692 hg w28 hbox hb; have n0_:=am_ (below_step (bl0_ HB.out) hb); have n1_:=am_ (hbox); have n2_:=am_ ((bs0_ hg HB.out:w.heap.size ≤ gb692)); have n3_:=am_ ((bs0_ hg HB.out:w.heap.size ≤ gb692)); clear HB; have HB:=n0_; have BK692:=n1_; have GW692:=n2_; have GE692:=n3_; clear n0_ n1_ n2_ n3_; clear hb hbox hg) | ((with_reducible refine gate_dst (N:=8) rfl ?_); refine boxE_ (N:=8) (cs:=#[.int .i64 0,.int .i64 0,.slice none 0 0,.slice none 0 0]) (t:=36) ?_; intro gb693 hg w29 hbox hb; have n0_:=am_ (bb_ BK692.out hb); have n1_:=am_ (below_step (bl1_ HB.out GE692.out) hb); have n2_:=am_ (hbox); have n3_:=am_ ((bs1_ hg HB.out GE692.out:w.heap.size ≤ gb693)); have n4_:=am_ ((bs1_ hg HB.out GE692.out:w.heap.size ≤ gb693)); have n5_:=am_ ((nl_ hg BK692.out:gb692 ≠ gb693)); have n6_:=am_ ((ng_ hg BK692.out:gb693 ≠ gb692)); clear BK692; clear HB; have BK692:=n0_; have HB:=n1_; have BK693:=n2_; have GW693:=n3_; have GE693:=n4_; have NB692_693:=n5_; have NB693_692:=n6_; clear n0_ n1_ n2_ n3_ n4_ n5_ n6_; clear hb hbox hg; have hnb30:=NB692_693.out; have hnc30:=NB693_692.out; have hcz31_0:w29.cell? ⟨gb692,0,none⟩ = some (.int .i64 a0_0):=(bc_ BK692.out 0).trans rfl; have hcz31_1:w29.cell? ⟨gb692,1,none⟩ = some (.int .i64 a0_1):=(bc_ BK692.out 1).trans rfl; have hcz31_2:w29.cell? ⟨gb692,2,none⟩ = some (.slice A0_2 l0_2.length c0_2):=(bc_ BK692.out 2).trans rfl; have hcz31_3:w29.cell? ⟨gb692,3,none⟩ = some (.slice A0_3 l0_3.length c0_3):=(bc_ BK692.out 3).trans rfl; have hfz31_0:=bz_ BK692.out 0; have hfz31_1:=bz_ BK692.out 1; have hfz31_2:=bz_ BK692.out 2; have hfz31_3:=bz_ BK692.out 3) | ((with_reducible refine gate_callee (f:=164) rfl ?_); refine goesL_ (some 13) rfl rfl Tryd.func164 (by kernel_rfl) rfl #[.agg #[.int .i64 a0_0,.int .i64 a0_1,.slice A0_2 l0_2.length c0_2,.slice A0_3 l0_3.length c0_3]] rfl ob_ ?_; (with_reducible refine (spec_fiOwn.calls a0_0 a0_1 _ _ l0_2 _ _ l0_3 t694 t695 t696 t699 _ ?side1 ?side2 ?side3 ?side4 A5.out).mono ?_); (case side1 => exact kc_ (Kd.C_below HR0_2.out HB.out)); (case side2 => exact HC0_2.out); (case side3 => exact kc_ (Kd.C_below HR0_3.out HB.out)); (case side4 => exact HC0_3.out); rintro e w32 ⟨v697,v700,rfl,ho0,ho1,hb⟩; refine ⟨_,rfl,?_⟩; have n0_:=am_ (Kd.R_lower ho0 (below_size (bl2_ HB.out GE692.out GE693.out))); have n1_:=am_ (Kd.R_lower ho1 (below_size (bl2_ HB.out GE692.out GE693.out))); have n2_:=am_ (bb_ BK692.out hb); have n3_:=am_ (bb_ BK693.out hb); have n4_:=am_ (below_step (bl2_ HB.out GE692.out GE693.out) hb); clear BK692; clear BK693; clear HB; have HO698:=n0_; have HO701:=n1_; have BK692:=n2_; have BK693:=n3_; have HB:=n4_; clear n0_ n1_ n2_ n3_ n4_; (try clear hb); (try clear hb2); (try clear hk); (try clear hi); (try clear ho0); (try clear ho1)) | ((with_reducible refine gate_dst (N:=9) rfl ?_); refine boxE_ (N:=9) (cs:=#[.int .i64 0,.int .i64 0,.slice none 0 0,.slice none 0 0]) (t:=36) ?_; intro gb702 hg w33 hbox hb; have n0_:=am_ (Kd.R_below (kr_ HO698.out) hb); have n1_:=am_ (Kd.R_below (kr_ HO701.out) hb); have n2_:=am_ (bb_ BK692.out hb); have n3_:=am_ (bb_ BK693.out hb); have n4_:=am_ (below_step (bl2_ HB.out GE692.out GE693.out) hb); have n5_:=am_ (hbox); have n6_:=am_ ((bs2_ hg HB.out GE692.out GE693.out:w.heap.size ≤ gb702)); have n7_:=am_ ((bs2_ hg HB.out GE692.out GE693.out:w.heap.size ≤ gb702)); have n8_:=am_ ((nl_ hg BK692.out:gb692 ≠ gb702)); have n9_:=am_ ((ng_ hg BK692.out:gb702 ≠ gb692)); have n10_:=am_ ((nl_ hg BK693.out:gb693 ≠ gb702)); have n11_:=am_ ((ng_ hg BK693.out:gb702 ≠ gb693)); clear HO698; clear HO701; clear BK692; clear BK693; clear HB; have HO698:=n0_; have HO701:=n1_; have BK692:=n2_; have BK693:=n3_; have HB:=n4_; have BK702:=n5_; have GW702:=n6_; have GE702:=n7_; have NB692_702:=n8_; have NB702_692:=n9_; have NB693_702:=n10_; have NB702_693:=n11_; clear n0_ n1_ n2_ n3_ n4_ n5_ n6_ n7_ n8_ n9_ n10_ n11_; clear hb hbox hg; have hnb34:=NB702_692.out; have hnc34:=NB692_702.out; have hnb35:=NB702_693.out; have hnc35:=NB693_702.out; have hcz36_0:w33.cell? ⟨gb702,0,none⟩ = some (.int .i64 0):=(bc_ BK702.out 0).trans rfl; have hcz36_1:w33.cell? ⟨gb702,1,none⟩ = some (.int .i64 0):=(bc_ BK702.out 1).trans rfl; have hcz36_2:w33.cell? ⟨gb702,2,none⟩ = some (.slice none 0 0):=(bc_ BK702.out 2).trans rfl; have hcz36_3:w33.cell? ⟨gb702,3,none⟩ = some (.slice none 0 0):=(bc_ BK702.out 3).trans rfl; have hfz36_0:=bz_ BK702.out 0; have hfz36_1:=bz_ BK702.out 1; have hfz36_2:=bz_ BK702.out 2; have hfz36_3:=bz_ BK702.out 3; obtain ⟨Ao37,co37,eo37⟩:=Kd.R_slice HO698.out; subst eo37; obtain ⟨Ao38,co38,eo38⟩:=Kd.R_slice HO701.out; subst eo38; have hcz39_0:w33.cell? ⟨gb692,0,none⟩ = some (.int .i64 a0_0):=(bc_ BK692.out 0).trans rfl; have hcz39_1:w33.cell? ⟨gb692,1,none⟩ = some (.int .i64 a0_1):=(bc_ BK692.out 1).trans rfl; have hcz39_2:w33.cell? ⟨gb692,2,none⟩ = some (.slice A0_2 l0_2.length c0_2):=(bc_ BK692.out 2).trans rfl; have hcz39_3:w33.cell? ⟨gb692,3,none⟩ = some (.slice A0_3 l0_3.length c0_3):=(bc_ BK692.out 3).trans rfl; have hfz39_0:=bz_ BK692.out 0; have hfz39_1:=bz_ BK692.out 1; have hfz39_2:=bz_ BK692.out 2; have hfz39_3:=bz_ BK692.out 3) | ((with_reducible refine gate_callee (f:=150) rfl ?_); refine goesL_ (some 19) rfl rfl Tryd.func150 (by kernel_rfl) rfl #[.agg #[.int .i64 a0_0,.int .i64 a0_1,.slice A0_2 l0_2.length c0_2,.slice A0_3 l0_3.length c0_3],.bool true,.int .i64 a2,.int .i64 a3] rfl ob_ ?_; (with_reducible refine (spec_fiEdge.calls a0_0 a0_1 _ _ l0_2 _ _ l0_3 true a2 a3 t703 t704 _ ?side1 ?side2 ?side3 ?side4 A6.out).mono ?_); (case side1 => exact Kd.C_below HR0_2.out (bl3_ HB.out GE692.out GE693.out GE702.out)); (case side2 => exact HC0_2.out); (case side3 => exact Kd.C_below HR0_3.out (bl3_ HB.out GE692.out GE693.out GE702.out)); (case side4 => exact HC0_3.out); rintro e w40 ⟨rfl,hb⟩; refine ⟨_,rfl,?_⟩; have n0_:=am_ (Kd.R_below (by (with_reducible repeat (first | apply Kd.R_alloc | apply Kd.R_drewN | apply Kd.R_drew)); exact (Kd.R_mono (Kd.R_far (p:=⟨gb702,3,none⟩) (Kd.R_far (p:=⟨gb702,2,none⟩) (Kd.R_far (p:=⟨gb702,1,none⟩) (Kd.R_far (p:=⟨gb702,0,none⟩) (Kd.R_types HO698.out BK702.out (by decide)) (fun _ hk => hk.2) (.int .i64 t694)) (fun _ hk => hk.2) (.int .i64 t695)) (fun _ hk => hk.2) (.slice Ao37 t696.length co37)) (fun _ hk => hk.2) (.slice Ao38 t699.length co38)) (fun _ h_ => h_.1))) hb); have n1_:=am_ (Kd.R_below (by (with_reducible repeat (first | apply Kd.R_alloc | apply Kd.R_drewN | apply Kd.R_drew)); exact (Kd.R_mono (Kd.R_far (p:=⟨gb702,3,none⟩) (Kd.R_far (p:=⟨gb702,2,none⟩) (Kd.R_far (p:=⟨gb702,1,none⟩) (Kd.R_far (p:=⟨gb702,0,none⟩) (Kd.R_types HO701.out BK702.out (by decide)) (fun _ hk => hk.2) (.int .i64 t694)) (fun _ hk => hk.2) (.int .i64 t695)) (fun _ hk => hk.2) (.slice Ao37 t696.length co37)) (fun _ hk => hk.2) (.slice Ao38 t699.length co38)) (fun _ h_ => h_.1))) hb); have n2_:=am_ (blk_below (g:=gb692) (o:=.cells #[.int .i64 a0_0,.int .i64 a0_1,.slice A0_2 l0_2.length c0_2,.slice A0_3 l0_3.length c0_3] 36 (0,0)) (bf4_ NB692_702.out NB692_702.out NB692_702.out NB692_702.out BK692.out) hb); have n3_:=am_ (blk_below (g:=gb693) (o:=.cells #[.int .i64 0,.int .i64 0,.slice none 0 0,.slice none 0 0] 36 (0,0)) (bf4_ NB693_702.out NB693_702.out NB693_702.out NB693_702.out BK693.out) hb); have n4_:=am_ (blk_below (g:=gb702) (o:=.cells #[.int .i64 t694,.int .i64 t695,.slice Ao37 t696.length co37,.slice Ao38 t699.length co38] 36 (0,0)) (by (with_reducible repeat (first | refine blk_drewN ?_ _ | refine blk_drew ?_ | refine blk_alloc ?_ _)); refine blk_put (cs:=#[.int .i64 t694,.int .i64 t695,.slice Ao37 t696.length co37,.slice none 0 0]) ?_ 3 _ rfl; (with_reducible repeat (first | refine blk_drewN ?_ _ | refine blk_drew ?_ | refine blk_alloc ?_ _)); refine blk_put (cs:=#[.int .i64 t694,.int .i64 t695,.slice none 0 0,.slice none 0 0]) ?_ 2 _ rfl; (with_reducible repeat (first | refine blk_drewN ?_ _ | refine blk_drew ?_ | refine blk_alloc ?_ _)); refine blk_put (cs:=#[.int .i64 t694,.int .i64 0,.slice none 0 0,.slice none 0 0]) ?_ 1 _ rfl; (with_reducible repeat (first | refine blk_drewN ?_ _ | refine blk_drew ?_ | refine blk_alloc ?_ _)); refine blk_put (cs:=#[.int .i64 0,.int .i64 0,.slice none 0 0,.slice none 0 0]) ?_ 0 _ rfl; (with_reducible repeat (first | refine blk_drewN ?_ _ | refine blk_drew ?_ | refine blk_alloc ?_ _)); exact BK702.out) hb); have n5_:=am_ (below_step (bl3_ HB.out GE692.out GE693.out GE702.out) hb); clear HO698; clear HO701; clear BK692; clear BK693; clear BK702; clear HB; have HO698:=n0_; have HO701:=n1_; have BK692:=n2_; have BK693:=n3_; have BK702:=n4_; have HB:=n5_; clear n0_ n1_ n2_ n3_ n4_ n5_; (try clear hb); (try clear hb2); (try clear hk); (try clear hi); have hcz41_0:w40.cell? ⟨gb692,0,none⟩ = some (.int .i64 a0_0):=(bc_ BK692.out 0).trans rfl; have hcz41_1:w40.cell? ⟨gb692,1,none⟩ = some (.int .i64 a0_1):=(bc_ BK692.out 1).trans rfl; have hcz41_2:w40.cell? ⟨gb692,2,none⟩ = some (.slice A0_2 l0_2.length c0_2):=(bc_ BK692.out 2).trans rfl; have hcz41_3:w40.cell? ⟨gb692,3,none⟩ = some (.slice A0_3 l0_3.length c0_3):=(bc_ BK692.out 3).trans rfl; have hfz41_0:=bz_ BK692.out 0; have hfz41_1:=bz_ BK692.out 1; have hfz41_2:=bz_ BK692.out 2; have hfz41_3:=bz_ BK692.out 3) | ((with_reducible refine gate_callee (f:=122) rfl ?_); refine goesL_ (some 32) rfl rfl Tryd.func122 (by kernel_rfl) rfl #[.agg #[.int .i64 a0_0,.int .i64 a0_1,.slice A0_2 l0_2.length c0_2,.slice A0_3 l0_3.length c0_3],.bool true,.int .i64 a2,.int .i64 a3] rfl ob_ ?_; (with_reducible refine (spec_fiHas.calls k a0_0 a0_1 _ _ l0_2 _ _ l0_3 true a2 a3 false _ ?side1 ?side2 ?side3 ?side4 A7.out).mono ?_); (case side1 => exact kc_ (Kd.C_below HR0_2.out HB.out)); (case side2 => exact HC0_2.out); (case side3 => exact kc_ (Kd.C_below HR0_3.out HB.out)); (case side4 => exact HC0_3.out); rintro e w42 ⟨rfl,hb⟩; refine ⟨_,rfl,?_⟩; have n0_:=am_ (Kd.R_below (kr_ HO698.out) hb); have n1_:=am_ (Kd.R_below (kr_ HO701.out) hb); have n2_:=am_ (bb_ BK692.out hb); have n3_:=am_ (bb_ BK693.out hb); have n4_:=am_ (bb_ BK702.out hb); have n5_:=am_ (below_step (bl3_ HB.out GE692.out GE693.out GE702.out) hb); clear HO698; clear HO701; clear BK692; clear BK693; clear BK702; clear HB; have HO698:=n0_; have HO701:=n1_; have BK692:=n2_; have BK693:=n3_; have BK702:=n4_; have HB:=n5_; clear n0_ n1_ n2_ n3_ n4_ n5_; (try clear hb); (try clear hb2); (try clear hk); (try clear hi); have hcz43_0:w42.cell? ⟨gb702,0,none⟩ = some (.int .i64 t694):=(bc_ BK702.out 0).trans rfl; have hcz43_1:w42.cell? ⟨gb702,1,none⟩ = some (.int .i64 t695):=(bc_ BK702.out 1).trans rfl; have hcz43_2:w42.cell? ⟨gb702,2,none⟩ = some (.slice Ao37 t696.length co37):=(bc_ BK702.out 2).trans rfl; have hcz43_3:w42.cell? ⟨gb702,3,none⟩ = some (.slice Ao38 t699.length co38):=(bc_ BK702.out 3).trans rfl; have hfz43_0:=bz_ BK702.out 0; have hfz43_1:=bz_ BK702.out 1; have hfz43_2:=bz_ BK702.out 2; have hfz43_3:=bz_ BK702.out 3) | ((with_reducible refine gate_callee (f:=165) rfl ?_); refine goesL_ (some 38) rfl rfl Tryd.func165 (by kernel_rfl) rfl #[.slice Ao38 t699.length co38,.int .i64 t703] rfl ob_ ?_; (with_reducible refine (spec_l1Put.calls k (fun k_ => some k_ = (.slice Ao38 t699.length co38:Value).ownBlock) (.slice Ao38 t699.length co38) t699 t703 t706 w _ ?side1 ?side2 A27.out).mono ?_); (case side1 => repeat (first | (with_reducible first | exact HB.out | apply below_alloc | apply pw_below_drewN | apply below_drew1 | refine below_set ?_ GE692.out | refine below_set ?_ GE693.out | refine below_set ?_ GE702.out) | exact HB.out)); (case side2 => exact Kd.R_tight rfl HO701.out); rintro e w44 ⟨v707,rfl,ho0,hb,hkp⟩; refine ⟨_,rfl,?_⟩; have n0_:=am_ (blk_kept (bk_ BK692.out) hkp (fun hs_ => (fun e_ => (Kd.R_ne HO701.out BK692.out (by decide)) e_) hs_)); have n1_:=am_ (blk_kept (bk_ BK693.out) hkp (fun hs_ => (fun e_ => (Kd.R_ne HO701.out BK693.out (by decide)) e_) hs_)); have n2_:=am_ (Kd.R_mono (ok':=fun k_ => some k_ ≠ (v707:Value).ownBlock) (Kd.R_keptB (HO698.out) hkp (fun k_ hk_ hs_ => (hk_) hs_)) (fun k_ hk_ => fun e_ => Or.elim (ho0.1 k_ e_.symm) (fun hs_ => hk_.2.1 hs_) (fun hn_ => Nat.not_le.2 hk_.2.2 hn_))); have n3_:=am_ (blk_kept (bk_ BK702.out) hkp (fun hs_ => (fun e_ => (Kd.R_ne HO701.out BK702.out (by decide)) e_) hs_)); have n4_:=am_ (Kd.R_mono (ok':=fun k_ => some k_ ≠ (.slice Ao37 t696.length co37:Value).ownBlock) ho0 (fun k_ hk_ => Or.elim hk_ (fun hs_ => fun e_ => (((HO698.out).1 k_ e_.symm)) hs_) (fun hn_ => (Kd.fresh' (Kd.R_lt (kr_ HO698.out)) k_ hn_)))); have n5_:=am_ (hb); clear BK692; clear BK693; clear HO698; clear BK702; clear HB; clear HO701; have BK692:=n0_; have BK693:=n1_; have HO698:=n2_; have BK702:=n3_; have HO708:=n4_; have HB:=n5_; clear n0_ n1_ n2_ n3_ n4_ n5_; (try clear hb); (try clear hkp); (try clear ho0); obtain ⟨Ao45,co45,eo45⟩:=Kd.R_slice HO708.out; subst eo45; have hcz46_0:w44.cell? ⟨gb702,0,none⟩ = some (.int .i64 t694):=(bc_ BK702.out 0).trans rfl; have hcz46_1:w44.cell? ⟨gb702,1,none⟩ = some (.int .i64 t695):=(bc_ BK702.out 1).trans rfl; have hcz46_2:w44.cell? ⟨gb702,2,none⟩ = some (.slice Ao37 t696.length co37):=(bc_ BK702.out 2).trans rfl; have hcz46_3:w44.cell? ⟨gb702,3,none⟩ = some (.slice Ao38 t699.length co38):=(bc_ BK702.out 3).trans rfl; have hfz46_0:=bz_ BK702.out 0; have hfz46_1:=bz_ BK702.out 1; have hfz46_2:=bz_ BK702.out 2; have hfz46_3:=bz_ BK702.out 3; have hcz47_0:w44.cell? ⟨gb693,0,none⟩ = some (.int .i64 0):=(bc_ BK693.out 0).trans rfl; have hcz47_1:w44.cell? ⟨gb693,1,none⟩ = some (.int .i64 0):=(bc_ BK693.out 1).trans rfl; have hcz47_2:w44.cell? ⟨gb693,2,none⟩ = some (.slice none 0 0):=(bc_ BK693.out 2).trans rfl; have hcz47_3:w44.cell? ⟨gb693,3,none⟩ = some (.slice none 0 0):=(bc_ BK693.out 3).trans rfl; have hfz47_0:=bz_ BK693.out 0; have hfz47_1:=bz_ BK693.out 1; have hfz47_2:=bz_ BK693.out 2; have hfz47_3:=bz_ BK693.out 3))
   refine bodyPost_ret (results_cell_row rfl _ _ gb693 36 #[.int .i64 t694,.int .i64 t695,.slice Ao37 t696.length co37,.slice Ao45 t706.length co45] (0,0) _ rfl (by (with_reducible repeat (first | refine blk_drewN ?_ _ | refine blk_drew ?_ | refine blk_alloc ?_ _)); refine blk_put (cs:=#[.int .i64 t694,.int .i64 t695,.slice Ao37 t696.length co37,.slice none 0 0]) ?_ 3 _ rfl; (with_reducible repeat (first | refine blk_drewN ?_ _ | refine blk_drew ?_ | refine blk_alloc ?_ _)); refine blk_put (cs:=#[.int .i64 t694,.int .i64 t695,.slice none 0 0,.slice none 0 0]) ?_ 2 _ rfl; (with_reducible repeat (first | refine blk_drewN ?_ _ | refine blk_drew ?_ | refine blk_alloc ?_ _)); refine blk_put (cs:=#[.int .i64 t694,.int .i64 0,.slice none 0 0,.slice none 0 0]) ?_ 1 _ rfl; (with_reducible repeat (first | refine blk_drewN ?_ _ | refine blk_drew ?_ | refine blk_alloc ?_ _)); refine blk_put (cs:=#[.int .i64 0,.int .i64 0,.slice none 0 0,.slice none 0 0]) ?_ 0 _ rfl; (with_reducible repeat (first | refine blk_drewN ?_ _ | refine blk_drew ?_ | refine blk_alloc ?_ _)); refine blk_far ?_ NB693_702.out _; (with_reducible repeat (first | refine blk_drewN ?_ _ | refine blk_drew ?_ | refine blk_alloc ?_ _)); exact BK693.out) Tryd.underlying36 rfl (by kernel_rfl)) rfl ?_
   exact ⟨_,_,er_,by (with_reducible repeat (first | apply Kd.R_alloc | apply Kd.R_drewN | apply Kd.R_drew)); exact Kd.R_mono (Kd.R_far (p:=⟨gb693,3,none⟩) (Kd.R_far (p:=⟨gb693,2,none⟩) (Kd.R_far (p:=⟨gb693,1,none⟩) (Kd.R_far (p:=⟨gb693,0,none⟩) (Kd.R_far (p:=⟨gb702,3,none⟩) (Kd.R_types (Kd.R_types HO698.out BK702.out (by decide)) BK693.out (by decide)) (fun _ hk => hk.1.2) (.slice Ao45 t706.length co45)) (fun _ hk => hk.2) (.int .i64 t694)) (fun _ hk => hk.2) (.int .i64 t695)) (fun _ hk => hk.2) (.slice Ao37 t696.length co37)) (fun _ hk => hk.2) (.slice Ao45 t706.length co45)) (fun _ hk => hk.1.1),by (with_reducible repeat (first | apply Kd.R_alloc | apply Kd.R_drewN | apply Kd.R_drew)); exact Kd.R_mono (Kd.R_far (p:=⟨gb693,3,none⟩) (Kd.R_far (p:=⟨gb693,2,none⟩) (Kd.R_far (p:=⟨gb693,1,none⟩) (Kd.R_far (p:=⟨gb693,0,none⟩) (Kd.R_far (p:=⟨gb702,3,none⟩) (Kd.R_types (Kd.R_types HO708.out BK702.out (by decide)) BK693.out (by decide)) (fun _ hk => hk.1.2) (.slice Ao45 t706.length co45)) (fun _ hk => hk.2) (.int .i64 t694)) (fun _ hk => hk.2) (.int .i64 t695)) (fun _ hk => hk.2) (.slice Ao37 t696.length co37)) (fun _ hk => hk.2) (.slice Ao45 t706.length co45)) (fun _ hk => hk.1.1),bl3_ HB.out GE692.out GE693.out GE702.out⟩
  ·replace c26:=Bool.eq_false_iff.mpr c26
   subst c26
   have H1:((spec_l1Put.f k t696 t703).bind fun t709 => (some (t694,t695,t709,t699))) = some (r1,r2,r3,r4):=by rw [if_neg (show ¬ (false = true) by decide)] at H; exact H
   clear H
   have H:=H1
   clear H1
   replace H:=bi_ H
   obtain ⟨t709,A480,H⟩:=H
   replace H:(some (t694,t695,t709,t699)) = some (r1,r2,r3,r4):=H
   have A48:=am_ A480
   clear A480
   simp only [Option.some.injEq,Prod.mk.injEq] at H
   obtain ⟨rfl,rfl,rfl,rfl⟩:=H
   go_enter Tryd.func138,Tryd.ntmps138
   go_wp2_with (first | ((with_reducible refine gate_dst (N:=4) rfl ?_); refine boxE_ (N:=4) (cs:=#[.int .i64 a0_0,.int .i64 a0_1,.slice A0_2 l0_2.length c0_2,.slice A0_3 l0_3.length c0_3]) (t:=36) ?_; intro gb692 hg w49 hbox hb; have n0_:=am_ (below_step (bl0_ HB.out) hb); have n1_:=am_ (hbox); have n2_:=am_ ((bs0_ hg HB.out:w.heap.size ≤ gb692)); have n3_:=am_ ((bs0_ hg HB.out:w.heap.size ≤ gb692)); clear HB; have HB:=n0_; have BK692:=n1_; have GW692:=n2_; have GE692:=n3_; clear n0_ n1_ n2_ n3_; clear hb hbox hg) | ((with_reducible refine gate_dst (N:=8) rfl ?_); refine boxE_ (N:=8) (cs:=#[.int .i64 0,.int .i64 0,.slice none 0 0,.slice none 0 0]) (t:=36) ?_; intro gb693 hg w50 hbox hb; have n0_:=am_ (bb_ BK692.out hb); have n1_:=am_ (below_step (bl1_ HB.out GE692.out) hb); have n2_:=am_ (hbox); have n3_:=am_ ((bs1_ hg HB.out GE692.out:w.heap.size ≤ gb693)); have n4_:=am_ ((bs1_ hg HB.out GE692.out:w.heap.size ≤ gb693)); have n5_:=am_ ((nl_ hg BK692.out:gb692 ≠ gb693)); have n6_:=am_ ((ng_ hg BK692.out:gb693 ≠ gb692)); clear BK692; clear HB; have BK692:=n0_; have HB:=n1_; have BK693:=n2_; have GW693:=n3_; have GE693:=n4_; have NB692_693:=n5_; have NB693_692:=n6_; clear n0_ n1_ n2_ n3_ n4_ n5_ n6_; clear hb hbox hg; have hnb51:=NB692_693.out; have hnc51:=NB693_692.out; have hcz52_0:w50.cell? ⟨gb692,0,none⟩ = some (.int .i64 a0_0):=(bc_ BK692.out 0).trans rfl; have hcz52_1:w50.cell? ⟨gb692,1,none⟩ = some (.int .i64 a0_1):=(bc_ BK692.out 1).trans rfl; have hcz52_2:w50.cell? ⟨gb692,2,none⟩ = some (.slice A0_2 l0_2.length c0_2):=(bc_ BK692.out 2).trans rfl; have hcz52_3:w50.cell? ⟨gb692,3,none⟩ = some (.slice A0_3 l0_3.length c0_3):=(bc_ BK692.out 3).trans rfl; have hfz52_0:=bz_ BK692.out 0; have hfz52_1:=bz_ BK692.out 1; have hfz52_2:=bz_ BK692.out 2; have hfz52_3:=bz_ BK692.out 3) | ((with_reducible refine gate_callee (f:=164) rfl ?_); refine goesL_ (some 13) rfl rfl Tryd.func164 (by kernel_rfl) rfl #[.agg #[.int .i64 a0_0,.int .i64 a0_1,.slice A0_2 l0_2.length c0_2,.slice A0_3 l0_3.length c0_3]] rfl ob_ ?_; (with_reducible refine (spec_fiOwn.calls a0_0 a0_1 _ _ l0_2 _ _ l0_3 t694 t695 t696 t699 _ ?side1 ?side2 ?side3 ?side4 A5.out).mono ?_); (case side1 => exact kc_ (Kd.C_below HR0_2.out HB.out)); (case side2 => exact HC0_2.out); (case side3 => exact kc_ (Kd.C_below HR0_3.out HB.out)); (case side4 => exact HC0_3.out); rintro e w53 ⟨v697,v700,rfl,ho0,ho1,hb⟩; refine ⟨_,rfl,?_⟩; have n0_:=am_ (Kd.R_lower ho0 (below_size (bl2_ HB.out GE692.out GE693.out))); have n1_:=am_ (Kd.R_lower ho1 (below_size (bl2_ HB.out GE692.out GE693.out))); have n2_:=am_ (bb_ BK692.out hb); have n3_:=am_ (bb_ BK693.out hb); have n4_:=am_ (below_step (bl2_ HB.out GE692.out GE693.out) hb); clear BK692; clear BK693; clear HB; have HO698:=n0_; have HO701:=n1_; have BK692:=n2_; have BK693:=n3_; have HB:=n4_; clear n0_ n1_ n2_ n3_ n4_; (try clear hb); (try clear hb2); (try clear hk); (try clear hi); (try clear ho0); (try clear ho1)) | ((with_reducible refine gate_dst (N:=9) rfl ?_); refine boxE_ (N:=9) (cs:=#[.int .i64 0,.int .i64 0,.slice none 0 0,.slice none 0 0]) (t:=36) ?_; intro gb702 hg w54 hbox hb; have n0_:=am_ (Kd.R_below (kr_ HO698.out) hb); have n1_:=am_ (Kd.R_below (kr_ HO701.out) hb); have n2_:=am_ (bb_ BK692.out hb); have n3_:=am_ (bb_ BK693.out hb); have n4_:=am_ (below_step (bl2_ HB.out GE692.out GE693.out) hb); have n5_:=am_ (hbox); have n6_:=am_ ((bs2_ hg HB.out GE692.out GE693.out:w.heap.size ≤ gb702)); have n7_:=am_ ((bs2_ hg HB.out GE692.out GE693.out:w.heap.size ≤ gb702)); have n8_:=am_ ((nl_ hg BK692.out:gb692 ≠ gb702)); have n9_:=am_ ((ng_ hg BK692.out:gb702 ≠ gb692)); have n10_:=am_ ((nl_ hg BK693.out:gb693 ≠ gb702)); have n11_:=am_ ((ng_ hg BK693.out:gb702 ≠ gb693)); clear HO698; clear HO701; clear BK692; clear BK693; clear HB; have HO698:=n0_; have HO701:=n1_; have BK692:=n2_; have BK693:=n3_; have HB:=n4_; have BK702:=n5_; have GW702:=n6_; have GE702:=n7_; have NB692_702:=n8_; have NB702_692:=n9_; have NB693_702:=n10_; have NB702_693:=n11_; clear n0_ n1_ n2_ n3_ n4_ n5_ n6_ n7_ n8_ n9_ n10_ n11_; clear hb hbox hg; have hnb55:=NB702_692.out; have hnc55:=NB692_702.out; have hnb56:=NB702_693.out; have hnc56:=NB693_702.out; have hcz57_0:w54.cell? ⟨gb702,0,none⟩ = some (.int .i64 0):=(bc_ BK702.out 0).trans rfl; have hcz57_1:w54.cell? ⟨gb702,1,none⟩ = some (.int .i64 0):=(bc_ BK702.out 1).trans rfl; have hcz57_2:w54.cell? ⟨gb702,2,none⟩ = some (.slice none 0 0):=(bc_ BK702.out 2).trans rfl; have hcz57_3:w54.cell? ⟨gb702,3,none⟩ = some (.slice none 0 0):=(bc_ BK702.out 3).trans rfl; have hfz57_0:=bz_ BK702.out 0; have hfz57_1:=bz_ BK702.out 1; have hfz57_2:=bz_ BK702.out 2; have hfz57_3:=bz_ BK702.out 3; obtain ⟨Ao58,co58,eo58⟩:=Kd.R_slice HO698.out; subst eo58; obtain ⟨Ao59,co59,eo59⟩:=Kd.R_slice HO701.out; subst eo59; have hcz60_0:w54.cell? ⟨gb692,0,none⟩ = some (.int .i64 a0_0):=(bc_ BK692.out 0).trans rfl; have hcz60_1:w54.cell? ⟨gb692,1,none⟩ = some (.int .i64 a0_1):=(bc_ BK692.out 1).trans rfl; have hcz60_2:w54.cell? ⟨gb692,2,none⟩ = some (.slice A0_2 l0_2.length c0_2):=(bc_ BK692.out 2).trans rfl; have hcz60_3:w54.cell? ⟨gb692,3,none⟩ = some (.slice A0_3 l0_3.length c0_3):=(bc_ BK692.out 3).trans rfl; have hfz60_0:=bz_ BK692.out 0; have hfz60_1:=bz_ BK692.out 1; have hfz60_2:=bz_ BK692.out 2; have hfz60_3:=bz_ BK692.out 3) | ((with_reducible refine gate_callee (f:=150) rfl ?_); refine goesL_ (some 19) rfl rfl Tryd.func150 (by kernel_rfl) rfl #[.agg #[.int .i64 a0_0,.int .i64 a0_1,.slice A0_2 l0_2.length c0_2,.slice A0_3 l0_3.length c0_3],.bool false,.int .i64 a2,.int .i64 a3] rfl ob_ ?_; (with_reducible refine (spec_fiEdge.calls a0_0 a0_1 _ _ l0_2 _ _ l0_3 false a2 a3 t703 t704 _ ?side1 ?side2 ?side3 ?side4 A6.out).mono ?_); (case side1 => exact Kd.C_below HR0_2.out (bl3_ HB.out GE692.out GE693.out GE702.out)); (case side2 => exact HC0_2.out); (case side3 => exact Kd.C_below HR0_3.out (bl3_ HB.out GE692.out GE693.out GE702.out)); (case side4 => exact HC0_3.out); rintro e w61 ⟨rfl,hb⟩; refine ⟨_,rfl,?_⟩; have n0_:=am_ (Kd.R_below (by (with_reducible repeat (first | apply Kd.R_alloc | apply Kd.R_drewN | apply Kd.R_drew)); exact (Kd.R_mono (Kd.R_far (p:=⟨gb702,3,none⟩) (Kd.R_far (p:=⟨gb702,2,none⟩) (Kd.R_far (p:=⟨gb702,1,none⟩) (Kd.R_far (p:=⟨gb702,0,none⟩) (Kd.R_types HO698.out BK702.out (by decide)) (fun _ hk => hk.2) (.int .i64 t694)) (fun _ hk => hk.2) (.int .i64 t695)) (fun _ hk => hk.2) (.slice Ao58 t696.length co58)) (fun _ hk => hk.2) (.slice Ao59 t699.length co59)) (fun _ h_ => h_.1))) hb); have n1_:=am_ (Kd.R_below (by (with_reducible repeat (first | apply Kd.R_alloc | apply Kd.R_drewN | apply Kd.R_drew)); exact (Kd.R_mono (Kd.R_far (p:=⟨gb702,3,none⟩) (Kd.R_far (p:=⟨gb702,2,none⟩) (Kd.R_far (p:=⟨gb702,1,none⟩) (Kd.R_far (p:=⟨gb702,0,none⟩) (Kd.R_types HO701.out BK702.out (by decide)) (fun _ hk => hk.2) (.int .i64 t694)) (fun _ hk => hk.2) (.int .i64 t695)) (fun _ hk => hk.2) (.slice Ao58 t696.length co58)) (fun _ hk => hk.2) (.slice Ao59 t699.length co59)) (fun _ h_ => h_.1))) hb); have n2_:=am_ (blk_below (g:=gb692) (o:=.cells #[.int .i64 a0_0,.int .i64 a0_1,.slice A0_2 l0_2.length c0_2,.slice A0_3 l0_3.length c0_3] 36 (0,0)) (bf4_ NB692_702.out NB692_702.out NB692_702.out NB692_702.out BK692.out) hb); have n3_:=am_ (blk_below (g:=gb693) (o:=.cells #[.int .i64 0,.int .i64 0,.slice none 0 0,.slice none 0 0] 36 (0,0)) (bf4_ NB693_702.out NB693_702.out NB693_702.out NB693_702.out BK693.out) hb); have n4_:=am_ (blk_below (g:=gb702) (o:=.cells #[.int .i64 t694,.int .i64 t695,.slice Ao58 t696.length co58,.slice Ao59 t699.length co59] 36 (0,0)) (by (with_reducible repeat (first | refine blk_drewN ?_ _ | refine blk_drew ?_ | refine blk_alloc ?_ _)); refine blk_put (cs:=#[.int .i64 t694,.int .i64 t695,.slice Ao58 t696.length co58,.slice none 0 0]) ?_ 3 _ rfl; (with_reducible repeat (first | refine blk_drewN ?_ _ | refine blk_drew ?_ | refine blk_alloc ?_ _)); refine blk_put (cs:=#[.int .i64 t694,.int .i64 t695,.slice none 0 0,.slice none 0 0]) ?_ 2 _ rfl; (with_reducible repeat (first | refine blk_drewN ?_ _ | refine blk_drew ?_ | refine blk_alloc ?_ _)); refine blk_put (cs:=#[.int .i64 t694,.int .i64 0,.slice none 0 0,.slice none 0 0]) ?_ 1 _ rfl; (with_reducible repeat (first | refine blk_drewN ?_ _ | refine blk_drew ?_ | refine blk_alloc ?_ _)); refine blk_put (cs:=#[.int .i64 0,.int .i64 0,.slice none 0 0,.slice none 0 0]) ?_ 0 _ rfl; (with_reducible repeat (first | refine blk_drewN ?_ _ | refine blk_drew ?_ | refine blk_alloc ?_ _)); exact BK702.out) hb); have n5_:=am_ (below_step (bl3_ HB.out GE692.out GE693.out GE702.out) hb); clear HO698; clear HO701; clear BK692; clear BK693; clear BK702; clear HB; have HO698:=n0_; have HO701:=n1_; have BK692:=n2_; have BK693:=n3_; have BK702:=n4_; have HB:=n5_; clear n0_ n1_ n2_ n3_ n4_ n5_; (try clear hb); (try clear hb2); (try clear hk); (try clear hi); have hcz62_0:w61.cell? ⟨gb692,0,none⟩ = some (.int .i64 a0_0):=(bc_ BK692.out 0).trans rfl; have hcz62_1:w61.cell? ⟨gb692,1,none⟩ = some (.int .i64 a0_1):=(bc_ BK692.out 1).trans rfl; have hcz62_2:w61.cell? ⟨gb692,2,none⟩ = some (.slice A0_2 l0_2.length c0_2):=(bc_ BK692.out 2).trans rfl; have hcz62_3:w61.cell? ⟨gb692,3,none⟩ = some (.slice A0_3 l0_3.length c0_3):=(bc_ BK692.out 3).trans rfl; have hfz62_0:=bz_ BK692.out 0; have hfz62_1:=bz_ BK692.out 1; have hfz62_2:=bz_ BK692.out 2; have hfz62_3:=bz_ BK692.out 3) | ((with_reducible refine gate_callee (f:=122) rfl ?_); refine goesL_ (some 32) rfl rfl Tryd.func122 (by kernel_rfl) rfl #[.agg #[.int .i64 a0_0,.int .i64 a0_1,.slice A0_2 l0_2.length c0_2,.slice A0_3 l0_3.length c0_3],.bool false,.int .i64 a2,.int .i64 a3] rfl ob_ ?_; (with_reducible refine (spec_fiHas.calls k a0_0 a0_1 _ _ l0_2 _ _ l0_3 false a2 a3 false _ ?side1 ?side2 ?side3 ?side4 A7.out).mono ?_); (case side1 => exact kc_ (Kd.C_below HR0_2.out HB.out)); (case side2 => exact HC0_2.out); (case side3 => exact kc_ (Kd.C_below HR0_3.out HB.out)); (case side4 => exact HC0_3.out); rintro e w63 ⟨rfl,hb⟩; refine ⟨_,rfl,?_⟩; have n0_:=am_ (Kd.R_below (kr_ HO698.out) hb); have n1_:=am_ (Kd.R_below (kr_ HO701.out) hb); have n2_:=am_ (bb_ BK692.out hb); have n3_:=am_ (bb_ BK693.out hb); have n4_:=am_ (bb_ BK702.out hb); have n5_:=am_ (below_step (bl3_ HB.out GE692.out GE693.out GE702.out) hb); clear HO698; clear HO701; clear BK692; clear BK693; clear BK702; clear HB; have HO698:=n0_; have HO701:=n1_; have BK692:=n2_; have BK693:=n3_; have BK702:=n4_; have HB:=n5_; clear n0_ n1_ n2_ n3_ n4_ n5_; (try clear hb); (try clear hb2); (try clear hk); (try clear hi); have hcz64_0:w63.cell? ⟨gb702,0,none⟩ = some (.int .i64 t694):=(bc_ BK702.out 0).trans rfl; have hcz64_1:w63.cell? ⟨gb702,1,none⟩ = some (.int .i64 t695):=(bc_ BK702.out 1).trans rfl; have hcz64_2:w63.cell? ⟨gb702,2,none⟩ = some (.slice Ao58 t696.length co58):=(bc_ BK702.out 2).trans rfl; have hcz64_3:w63.cell? ⟨gb702,3,none⟩ = some (.slice Ao59 t699.length co59):=(bc_ BK702.out 3).trans rfl; have hfz64_0:=bz_ BK702.out 0; have hfz64_1:=bz_ BK702.out 1; have hfz64_2:=bz_ BK702.out 2; have hfz64_3:=bz_ BK702.out 3) | ((with_reducible refine gate_callee (f:=165) rfl ?_); refine goesL_ (some 25) rfl rfl Tryd.func165 (by kernel_rfl) rfl #[.slice Ao58 t696.length co58,.int .i64 t703] rfl ob_ ?_; (with_reducible refine (spec_l1Put.calls k (fun k_ => some k_ = (.slice Ao58 t696.length co58:Value).ownBlock) (.slice Ao58 t696.length co58) t696 t703 t709 w _ ?side1 ?side2 A48.out).mono ?_); (case side1 => repeat (first | (with_reducible first | exact HB.out | apply below_alloc | apply pw_below_drewN | apply below_drew1 | refine below_set ?_ GE692.out | refine below_set ?_ GE693.out | refine below_set ?_ GE702.out) | exact HB.out)); (case side2 => exact Kd.R_tight rfl HO698.out); rintro e w65 ⟨v710,rfl,ho0,hb,hkp⟩; refine ⟨_,rfl,?_⟩; have n0_:=am_ (blk_kept (bk_ BK692.out) hkp (fun hs_ => (fun e_ => (Kd.R_ne HO698.out BK692.out (by decide)) e_) hs_)); have n1_:=am_ (blk_kept (bk_ BK693.out) hkp (fun hs_ => (fun e_ => (Kd.R_ne HO698.out BK693.out (by decide)) e_) hs_)); have n2_:=am_ (Kd.R_mono (ok':=fun k_ => some k_ ≠ (v710:Value).ownBlock) (Kd.R_keptB (HO701.out) hkp (fun k_ hk_ hs_ => (hk_) hs_)) (fun k_ hk_ => fun e_ => Or.elim (ho0.1 k_ e_.symm) (fun hs_ => hk_.2.1 hs_) (fun hn_ => Nat.not_le.2 hk_.2.2 hn_))); have n3_:=am_ (blk_kept (bk_ BK702.out) hkp (fun hs_ => (fun e_ => (Kd.R_ne HO698.out BK702.out (by decide)) e_) hs_)); have n4_:=am_ (Kd.R_mono (ok':=fun k_ => some k_ ≠ (.slice Ao59 t699.length co59:Value).ownBlock) ho0 (fun k_ hk_ => Or.elim hk_ (fun hs_ => fun e_ => (((HO701.out).1 k_ e_.symm)) hs_) (fun hn_ => (Kd.fresh' (Kd.R_lt (kr_ HO701.out)) k_ hn_)))); have n5_:=am_ (hb); clear BK692; clear BK693; clear HO701; clear BK702; clear HB; clear HO698; have BK692:=n0_; have BK693:=n1_; have HO701:=n2_; have BK702:=n3_; have HO711:=n4_; have HB:=n5_; clear n0_ n1_ n2_ n3_ n4_ n5_; (try clear hb); (try clear hkp); (try clear ho0); obtain ⟨Ao66,co66,eo66⟩:=Kd.R_slice HO711.out; subst eo66; have hcz67_0:w65.cell? ⟨gb702,0,none⟩ = some (.int .i64 t694):=(bc_ BK702.out 0).trans rfl; have hcz67_1:w65.cell? ⟨gb702,1,none⟩ = some (.int .i64 t695):=(bc_ BK702.out 1).trans rfl; have hcz67_2:w65.cell? ⟨gb702,2,none⟩ = some (.slice Ao58 t696.length co58):=(bc_ BK702.out 2).trans rfl; have hcz67_3:w65.cell? ⟨gb702,3,none⟩ = some (.slice Ao59 t699.length co59):=(bc_ BK702.out 3).trans rfl; have hfz67_0:=bz_ BK702.out 0; have hfz67_1:=bz_ BK702.out 1; have hfz67_2:=bz_ BK702.out 2; have hfz67_3:=bz_ BK702.out 3; have hcz68_0:w65.cell? ⟨gb693,0,none⟩ = some (.int .i64 0):=(bc_ BK693.out 0).trans rfl; have hcz68_1:w65.cell? ⟨gb693,1,none⟩ = some (.int .i64 0):=(bc_ BK693.out 1).trans rfl; have hcz68_2:w65.cell? ⟨gb693,2,none⟩ = some (.slice none 0 0):=(bc_ BK693.out 2).trans rfl; have hcz68_3:w65.cell? ⟨gb693,3,none⟩ = some (.slice none 0 0):=(bc_ BK693.out 3).trans rfl; have hfz68_0:=bz_ BK693.out 0; have hfz68_1:=bz_ BK693.out 1; have hfz68_2:=bz_ BK693.out 2; have hfz68_3:=bz_ BK693.out 3))
   refine bodyPost_ret (results_cell_row rfl _ _ gb693 36 #[.int .i64 t694,.int .i64 t695,.slice Ao66 t709.length co66,.slice Ao59 t699.length co59] (0,0) _ rfl (by (with_reducible repeat (first | refine blk_drewN ?_ _ | refine blk_drew ?_ | refine blk_alloc ?_ _)); refine blk_put (cs:=#[.int .i64 t694,.int .i64 t695,.slice Ao66 t709.length co66,.slice none 0 0]) ?_ 3 _ rfl; (with_reducible repeat (first | refine blk_drewN ?_ _ | refine blk_drew ?_ | refine blk_alloc ?_ _)); refine blk_put (cs:=#[.int .i64 t694,.int .i64 t695,.slice none 0 0,.slice none 0 0]) ?_ 2 _ rfl; (with_reducible repeat (first | refine blk_drewN ?_ _ | refine blk_drew ?_ | refine blk_alloc ?_ _)); refine blk_put (cs:=#[.int .i64 t694,.int .i64 0,.slice none 0 0,.slice none 0 0]) ?_ 1 _ rfl; (with_reducible repeat (first | refine blk_drewN ?_ _ | refine blk_drew ?_ | refine blk_alloc ?_ _)); refine blk_put (cs:=#[.int .i64 0,.int .i64 0,.slice none 0 0,.slice none 0 0]) ?_ 0 _ rfl; (with_reducible repeat (first | refine blk_drewN ?_ _ | refine blk_drew ?_ | refine blk_alloc ?_ _)); refine blk_far ?_ NB693_702.out _; (with_reducible repeat (first | refine blk_drewN ?_ _ | refine blk_drew ?_ | refine blk_alloc ?_ _)); exact BK693.out) Tryd.underlying36 rfl (by kernel_rfl)) rfl ?_
   exact ⟨_,_,er_,by (with_reducible repeat (first | apply Kd.R_alloc | apply Kd.R_drewN | apply Kd.R_drew)); exact Kd.R_mono (Kd.R_far (p:=⟨gb693,3,none⟩) (Kd.R_far (p:=⟨gb693,2,none⟩) (Kd.R_far (p:=⟨gb693,1,none⟩) (Kd.R_far (p:=⟨gb693,0,none⟩) (Kd.R_far (p:=⟨gb702,2,none⟩) (Kd.R_types (Kd.R_types HO711.out BK702.out (by decide)) BK693.out (by decide)) (fun _ hk => hk.1.2) (.slice Ao66 t709.length co66)) (fun _ hk => hk.2) (.int .i64 t694)) (fun _ hk => hk.2) (.int .i64 t695)) (fun _ hk => hk.2) (.slice Ao66 t709.length co66)) (fun _ hk => hk.2) (.slice Ao59 t699.length co59)) (fun _ hk => hk.1.1),by (with_reducible repeat (first | apply Kd.R_alloc | apply Kd.R_drewN | apply Kd.R_drew)); exact Kd.R_mono (Kd.R_far (p:=⟨gb693,3,none⟩) (Kd.R_far (p:=⟨gb693,2,none⟩) (Kd.R_far (p:=⟨gb693,1,none⟩) (Kd.R_far (p:=⟨gb693,0,none⟩) (Kd.R_far (p:=⟨gb702,2,none⟩) (Kd.R_types (Kd.R_types HO701.out BK702.out (by decide)) BK693.out (by decide)) (fun _ hk => hk.1.2) (.slice Ao66 t709.length co66)) (fun _ hk => hk.2) (.int .i64 t694)) (fun _ hk => hk.2) (.int .i64 t695)) (fun _ hk => hk.2) (.slice Ao66 t709.length co66)) (fun _ hk => hk.2) (.slice Ao59 t699.length co59)) (fun _ hk => hk.1.1),bl3_ HB.out GE692.out GE693.out GE702.out⟩

end Go.Proofs.YtehjfaddhmdicaaDoor.P
