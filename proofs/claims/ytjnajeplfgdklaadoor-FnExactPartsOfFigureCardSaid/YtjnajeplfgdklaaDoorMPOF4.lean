/- For every input the law FnExactPartsOfFigure answers true: the program's PartsOfFigure tells what the reference's PartsOfFigure tells; no condition. (part 4 of the proof; the words of the kit's print tool and the texts of this seat, merged by a program) -/
import Derived.Test.YtjnajeplfgdklaaDoorMPOF3
namespace Go.Proofs.YtjnajeplfgdklaaDoor.P
open Go.RowKit Go.Proofs.YtjnajeplfgdklaaDoorW.PrintWords Go.Proofs.YtjnajeplfgdklaaDoorW.PrintLast Go.Proofs.YtjnajeplfgdklaaDoorW.PrintMore
attribute [local go_sem] max2_int min2_int max_two min_two max_three min_three max_four min_four   -- for this text's walks alone
set_option linter.unusedVariables false
set_option linter.unusedSimpArgs false

def spec_liNext.f (k:Nat) (a0_0:Int) (a0_1:Int) (l0_2:List Int) (l0_3:List Int) (a1_0:Int) (a1_1:Int) (a2:Int):Option (Int × Int × Bool):=if a2 = 0 then (if a1_1 > 0 then ((spec_fiHas.f k a0_0 a0_1 l0_2 l0_3 true a1_0 (wrap64 (a1_1 - 1))).bind fun t657 => (some (a1_0,wrap64 (a1_1 - 1),t657))) else (some (a1_0,wrap64 (a1_1 - 1),false))) else (if a2 = 1 then (if a1_0 < a0_0 then ((spec_fiHas.f k a0_0 a0_1 l0_2 l0_3 false a1_0 a1_1).bind fun t658 => (some (wrap64 (a1_0 + 1),a1_1,t658))) else (some (wrap64 (a1_0 + 1),a1_1,false))) else (if a2 = 2 then (if a1_1 < a0_1 then ((spec_fiHas.f k a0_0 a0_1 l0_2 l0_3 true a1_0 a1_1).bind fun t659 => (some (a1_0,wrap64 (a1_1 + 1),t659))) else (some (a1_0,wrap64 (a1_1 + 1),false))) else (if a1_0 > 0 then ((spec_fiHas.f k a0_0 a0_1 l0_2 l0_3 false (wrap64 (a1_0 - 1)) a1_1).bind fun t660 => (some (wrap64 (a1_0 - 1),a1_1,t660))) else (some (wrap64 (a1_0 - 1),a1_1,false)))))
theorem spec_liNext.mono:∀ a0 a1 a2 a3 a4 a5 a6 k,LeO (spec_liNext.f k a0 a1 a2 a3 a4 a5 a6) (spec_liNext.f (k + 1) a0 a1 a2 a3 a4 a5 a6):=by
 intro a0 a1 a2 a3 a4 a5 a6 k
 unfold spec_liNext.f
 repeat' first
   | (with_reducible exact spec_fiHas.mono _ _ _ _ _ _ _ _)
   | (with_reducible exact LeO.refl _)
   | (with_reducible exact LeO.none _)
   | (with_reducible refine LeO.ite ?_ ?_)
   | (with_reducible refine LeO.bind ?_ (fun _ => ?_))
   | exact spec_fiHas.mono _ _ _ _ _ _ _ _
   | exact LeO.none _
   | refine LeO.ite ?_ ?_
   | refine LeO.bind ?_ (fun _ => ?_)
def spec_liNext.T3:Bool × List (List Nat × List Nat):=(true,[([],[]),([0],[0]),([],[]),([2],[2]),([3],[3]),([1,4],[1,4]),([],[]),([6],[6]),([7],[7]),([8],[8]),([9],[9]),([9],[9]),([11,9],[9,11]),([9],[9]),([13,9],[9,13]),([14,9],[9,14]),([10,12,15,9,9],[9,10,12,15]),([9,16],[9,16]),([5,16,0,1,2,3,4,5],[5]),([17,18,0,1,2,3,4,5,6,7,8,9,10,11,12,13,14,15,16,17,18],[17])])
def spec_liNext.B3:List Nat:=[0,1,0,4,12,31,0,64,192,448,960,960,3008,960,9152,25536,65472,131008,131071,524287]
theorem spec_liNext.tab3:rtab .any (opsOf Tryd.f104 3) = spec_liNext.T3:=by kernel_rfl
theorem spec_liNext.bits3:waitsOk spec_liNext.T3.2 spec_liNext.B3 = true:=by kernel_rfl
def spec_liNext.T5:Bool × List (List Nat × List Nat):=(true,[([],[]),([0],[0]),([1],[1]),([],[]),([3],[3]),([2,4],[2,4]),([],[]),([6],[6]),([],[]),([8],[8]),([7,9],[7,9]),([10],[10]),([11],[11]),([11],[11]),([13,11],[11,13]),([11],[11]),([15,11],[11,15]),([12,14,16,11,11],[11,12,14,16]),([11,17],[11,17]),([5,17,0,1,2,3,4,5],[5]),([18,19,0,1,2,3,4,5,6,7,8,9,10,11,12,13,14,15,16,17,18,19],[18])])
def spec_liNext.B5:List Nat:=[0,1,3,0,8,31,0,64,0,256,960,1984,4032,4032,12224,4032,36800,131008,262080,262143,1048575]
theorem spec_liNext.tab5:rtab .any (opsOf Tryd.f104 5) = spec_liNext.T5:=by kernel_rfl
theorem spec_liNext.bits5:waitsOk spec_liNext.T5.2 spec_liNext.B5 = true:=by kernel_rfl
def spec_liNext.T7:Bool × List (List Nat × List Nat):=(true,[([],[]),([0],[0]),([],[]),([2],[2]),([3],[3]),([1,4],[1,4]),([],[]),([6],[6]),([],[]),([8],[8]),([7,9],[7,9]),([10],[10]),([11],[11]),([11],[11]),([13,11],[11,13]),([11],[11]),([15,11],[11,15]),([12,14,16,11,11],[11,12,14,16]),([11,17],[11,17]),([5,17,0,1,2,3,4,5],[5]),([18,19,0,1,2,3,4,5,6,7,8,9,10,11,12,13,14,15,16,17,18,19],[18])])
def spec_liNext.B7:List Nat:=[0,1,0,4,12,31,0,64,0,256,960,1984,4032,4032,12224,4032,36800,131008,262080,262143,1048575]
theorem spec_liNext.tab7:rtab .any (opsOf Tryd.f104 7) = spec_liNext.T7:=by kernel_rfl
theorem spec_liNext.bits7:waitsOk spec_liNext.T7.2 spec_liNext.B7 = true:=by kernel_rfl
def spec_liNext.T8:Bool × List (List Nat × List Nat):=(true,[([],[]),([0],[0]),([1],[1]),([],[]),([3],[3]),([2,4],[2,4]),([],[]),([6],[6]),([7],[7]),([8],[8]),([9],[9]),([9],[9]),([11,9],[9,11]),([12,9],[9,12]),([9],[9]),([14,9],[9,14]),([10,13,15,9,9],[9,10,13,15]),([9,16],[9,16]),([5,16,0,1,2,3,4,5],[5]),([17,18,0,1,2,3,4,5,6,7,8,9,10,11,12,13,14,15,16,17,18],[17])])
def spec_liNext.B8:List Nat:=[0,1,3,0,8,31,0,64,192,448,960,960,3008,7104,960,17344,65472,131008,131071,524287]
theorem spec_liNext.tab8:rtab .any (opsOf Tryd.f104 8) = spec_liNext.T8:=by kernel_rfl
theorem spec_liNext.bits8:waitsOk spec_liNext.T8.2 spec_liNext.B8 = true:=by kernel_rfl
set_option maxHeartbeats 8000000 in
set_option maxRecDepth 100000 in
theorem spec_liNext.calls (k:Nat) (a0_0:Int) (a0_1:Int) (A0_2:Option Addr) (c0_2:Nat) (l0_2:List Int) (A0_3:Option Addr) (c0_3:Nat) (l0_3:List Int) (a1_0:Int) (a1_1:Int) (a2:Int) (r1:Int) (r2:Int) (r3:Bool) (w:World) (hr0_2:Kd.C (Kd.int .i64) w A0_2 l0_2.length l0_2) (hc0_2:l0_2.length ≤ c0_2) (hr0_3:Kd.C (Kd.int .i64) w A0_3 l0_3.length l0_3) (hc0_3:l0_3.length ≤ c0_3) (h:spec_liNext.f k a0_0 a0_1 l0_2 l0_3 a1_0 a1_1 a2 = some (r1,r2,r3)) :
  Calls Tryd.prog 104 #[.agg #[.int .i64 a0_0,.int .i64 a0_1,.slice A0_2 l0_2.length c0_2,.slice A0_3 l0_3.length c0_3],.agg #[.int .i64 a1_0,.int .i64 a1_1],.int .i64 a2] w fun e w' => e = .returned (.tuple #[.agg #[.int .i64 r1,.int .i64 r2],.bool r3]) ∧ Below w.heap.size w w':=by
 have hu26:=Tryd.underlying26
 have hu103:=Tryd.underlying103
 have HR0_2:=Aside0.mk hr0_2
 have HC0_2:=Aside0.mk hc0_2
 clear hr0_2 hc0_2
 have HR0_3:=Aside0.mk hr0_3
 have HC0_3:=Aside0.mk hc0_3
 clear hr0_3 hc0_3
 have HB:=Aside0.mk (Below.refl w.heap.size w)
 have H:(if a2 = 0 then (if a1_1 > 0 then ((spec_fiHas.f k a0_0 a0_1 l0_2 l0_3 true a1_0 (wrap64 (a1_1 - 1))).bind fun t657 => (some (a1_0,wrap64 (a1_1 - 1),t657))) else (some (a1_0,wrap64 (a1_1 - 1),false))) else (if a2 = 1 then (if a1_0 < a0_0 then ((spec_fiHas.f k a0_0 a0_1 l0_2 l0_3 false a1_0 a1_1).bind fun t658 => (some (wrap64 (a1_0 + 1),a1_1,t658))) else (some (wrap64 (a1_0 + 1),a1_1,false))) else (if a2 = 2 then (if a1_1 < a0_1 then ((spec_fiHas.f k a0_0 a0_1 l0_2 l0_3 true a1_0 a1_1).bind fun t659 => (some (a1_0,wrap64 (a1_1 + 1),t659))) else (some (a1_0,wrap64 (a1_1 + 1),false))) else (if a1_0 > 0 then ((spec_fiHas.f k a0_0 a0_1 l0_2 l0_3 false (wrap64 (a1_0 - 1)) a1_1).bind fun t660 => (some (wrap64 (a1_0 - 1),a1_1,t660))) else (some (wrap64 (a1_0 - 1),a1_1,false)))))) = some (r1,r2,r3):=h
 clear h
 by_cases c4:a2 = 0
 ·rw [if_pos c4] at H
  have c4b0:(a2 == 0) = true:=beq_iff_eq.mpr c4
  have c4b1:(a2 != 0) = false:=bne_eq_false_iff_eq.mpr c4
  clear c4
  by_cases c5:a1_1 > 0
  ·rw [if_pos c5] at H
   have c5b0:decide (0 < a1_1) = true:=decide_eq_true c5
   clear c5
   replace H:=Option.bind_eq_some_iff.mp H
   obtain ⟨t657,A60,H⟩:=H
   replace H:(some (a1_0,wrap64 (a1_1 - 1),t657)) = some (r1,r2,r3):=H
   have A6:=Aside0.mk A60
   clear A60
   simp only [Option.some.injEq,Prod.mk.injEq] at H
   obtain ⟨rfl,rfl,rfl⟩:=H
   go_enter Tryd.func104,Tryd.ntmps104
   try go_wp2_with (first | ((with_reducible refine gate_dst (N:=3) rfl ?_); refine boxE_ (N:=3) (cs:=#[.int .i64 a0_0,.int .i64 a0_1,.slice A0_2 l0_2.length c0_2,.slice A0_3 l0_3.length c0_3]) (t:=26) ?_; intro gb654 hg w7 hbox hb; have n0_:=Aside0.mk (below_step (bl0_ HB.out) hb); have n1_:=Aside0.mk (hbox); have n2_:=Aside0.mk ((bs0_ hg HB.out:w.heap.size ≤ gb654)); have n3_:=Aside0.mk ((bs0_ hg HB.out:w.heap.size ≤ gb654)); clear HB; have HB:=n0_; have BK654:=n1_; have GW654:=n2_; have GE654:=n3_; clear n0_ n1_ n2_ n3_; clear hb hbox hg) | ((with_reducible refine gate_dst (N:=4) rfl ?_); refine boxE_ (N:=4) (cs:=#[.int .i64 a1_0,.int .i64 a1_1]) (t:=103) ?_; intro gb655 hg w8 hbox hb; have n0_:=Aside0.mk (bb_ BK654.out hb); have n1_:=Aside0.mk (below_step (bl1_ HB.out GE654.out) hb); have n2_:=Aside0.mk (hbox); have n3_:=Aside0.mk ((bs1_ hg HB.out GE654.out:w.heap.size ≤ gb655)); have n4_:=Aside0.mk ((bs1_ hg HB.out GE654.out:w.heap.size ≤ gb655)); have n5_:=Aside0.mk ((nl_ hg BK654.out:gb654 ≠ gb655)); have n6_:=Aside0.mk ((ng_ hg BK654.out:gb655 ≠ gb654)); clear BK654; clear HB; have BK654:=n0_; have HB:=n1_; have BK655:=n2_; have GW655:=n3_; have GE655:=n4_; have NB654_655:=n5_; have NB655_654:=n6_; clear n0_ n1_ n2_ n3_ n4_ n5_ n6_; clear hb hbox hg) | ((with_reducible refine gate_dst (N:=6) rfl ?_); refine boxE_ (N:=6) (cs:=#[.int .i64 0,.int .i64 0]) (t:=103) ?_; intro gb656 hg w9 hbox hb; have n0_:=Aside0.mk (bb_ BK654.out hb); have n1_:=Aside0.mk (bb_ BK655.out hb); have n2_:=Aside0.mk (below_step (bl2_ HB.out GE654.out GE655.out) hb); have n3_:=Aside0.mk (hbox); have n4_:=Aside0.mk ((bs2_ hg HB.out GE654.out GE655.out:w.heap.size ≤ gb656)); have n5_:=Aside0.mk ((bs2_ hg HB.out GE654.out GE655.out:w.heap.size ≤ gb656)); have n6_:=Aside0.mk ((nl_ hg BK654.out:gb654 ≠ gb656)); have n7_:=Aside0.mk ((ng_ hg BK654.out:gb656 ≠ gb654)); have n8_:=Aside0.mk ((nl_ hg BK655.out:gb655 ≠ gb656)); have n9_:=Aside0.mk ((ng_ hg BK655.out:gb656 ≠ gb655)); clear BK654; clear BK655; clear HB; have BK654:=n0_; have BK655:=n1_; have HB:=n2_; have BK656:=n3_; have GW656:=n4_; have GE656:=n5_; have NB654_656:=n6_; have NB656_654:=n7_; have NB655_656:=n8_; have NB656_655:=n9_; clear n0_ n1_ n2_ n3_ n4_ n5_ n6_ n7_ n8_ n9_; clear hb hbox hg))
   have n0_:=Aside0.mk (blk_drew BK654.out)
   have n1_:=Aside0.mk (blk_drew BK655.out)
   have n2_:=Aside0.mk (blk_drew BK656.out)
   have n3_:=Aside0.mk (below_drew1 HB.out)
   clear BK654
   clear BK655
   clear BK656
   clear HB
   have BK654:=n0_
   have BK655:=n1_
   have BK656:=n2_
   have HB:=n3_
   clear n0_ n1_ n2_ n3_
   refine start_ (n:=20) (S:=fun w' => w'.cell? ⟨gb655,0,none⟩ = some (.int .i64 a1_0) ∧ w'.cell? ⟨gb655,1,none⟩ = some (.int .i64 a1_1) ∧ w'.cell? ⟨gb654,0,none⟩ = some (.int .i64 a0_0) ∧ w'.cell? ⟨gb654,1,none⟩ = some (.int .i64 a0_1) ∧ w'.cell? ⟨gb654,2,none⟩ = some (.slice A0_2 l0_2.length c0_2) ∧ w'.cell? ⟨gb654,3,none⟩ = some (.slice A0_3 l0_3.length c0_3)) (ds:=[]) #[Ff,Ff,Ff,Ff,Ff,Ff,Ff,Ff,Ff,Ff,Ff,Ff,Ff,Ff,Ff,Ff,Ff,Ff,Ff,Ff] (by kernel_rfl) rfl rfl ⟨(blk_cell BK655.out 0).trans rfl,(blk_cell BK655.out 1).trans rfl,(blk_cell BK654.out 0).trans rfl,(blk_cell BK654.out 1).trans rfl,(blk_cell BK654.out 2).trans rfl,(blk_cell BK654.out 3).trans rfl⟩ (fun hHeld => ?_); refine with_tabW spec_liNext.tab3 spec_liNext.bits3 (fun HT_ HW_ => ?_)
   generalize w9.drew = w10 at BK654 BK655 BK656 HB hHeld ⊢
   refine pZ (i:=0) (N:=some 11) #[Tt,Ff,Ff,Ff,Ff,Ff,Ff,Ff,Ff,Ff,Ff,Ff,Ff,Ff,Ff,Ff,Ff,Ff,Ff,Ff] ?_
   refine pZ (i:=2) (N:=some 13) #[Tt,Ff,Tt,Ff,Ff,Ff,Ff,Ff,Ff,Ff,Ff,Ff,Ff,Ff,Ff,Ff,Ff,Ff,Ff,Ff] ?_
   refine pZ (i:=6) (N:=some 17) #[Tt,Ff,Tt,Ff,Ff,Ff,Tt,Ff,Ff,Ff,Ff,Ff,Ff,Ff,Ff,Ff,Ff,Ff,Ff,Ff] ?_
   refine tZ (i:=1) (N:=some 12) #[Tt,Tt,Tt,Ff,Ff,Ff,Tt,Ff,Ff,Ff,Ff,Ff,Ff,Ff,Ff,Ff,Ff,Ff,Ff,Ff] ?_
   refine tZ (i:=3) (N:=some 14) #[Tt,Tt,Tt,Tt,Ff,Ff,Tt,Ff,Ff,Ff,Ff,Ff,Ff,Ff,Ff,Ff,Ff,Ff,Ff,Ff] ?_
   refine pZ (i:=4) (N:=some 15) #[Tt,Tt,Tt,Tt,Tt,Ff,Tt,Ff,Ff,Ff,Ff,Ff,Ff,Ff,Ff,Ff,Ff,Ff,Ff,Ff] ?_
   refine pZ (i:=5) (N:=some 16) #[Tt,Tt,Tt,Tt,Tt,Tt,Tt,Ff,Ff,Ff,Ff,Ff,Ff,Ff,Ff,Ff,Ff,Ff,Ff,Ff] ?_
   refine tZ (i:=7) (N:=some 18) #[Tt,Tt,Tt,Tt,Tt,Tt,Tt,Tt,Ff,Ff,Ff,Ff,Ff,Ff,Ff,Ff,Ff,Ff,Ff,Ff] ?_
   refine pZ (i:=8) (N:=some 19) #[Tt,Tt,Tt,Tt,Tt,Tt,Tt,Tt,Tt,Ff,Ff,Ff,Ff,Ff,Ff,Ff,Ff,Ff,Ff,Ff] ?_
   refine pZ (i:=9) (N:=some 20) #[Tt,Tt,Tt,Tt,Tt,Tt,Tt,Tt,Tt,Tt,Ff,Ff,Ff,Ff,Ff,Ff,Ff,Ff,Ff,Ff] ?_
   refine pZ (i:=11) (N:=some 22) #[Tt,Tt,Tt,Tt,Tt,Tt,Tt,Tt,Tt,Tt,Ff,Tt,Ff,Ff,Ff,Ff,Ff,Ff,Ff,Ff] ?_
   refine pZ (i:=13) (N:=some 24) #[Tt,Tt,Tt,Tt,Tt,Tt,Tt,Tt,Tt,Tt,Ff,Tt,Ff,Tt,Ff,Ff,Ff,Ff,Ff,Ff] ?_
   refine tZ (i:=10) (N:=some 21) #[Tt,Tt,Tt,Tt,Tt,Tt,Tt,Tt,Tt,Tt,Tt,Tt,Ff,Tt,Ff,Ff,Ff,Ff,Ff,Ff] ?_
   refine tZ (i:=12) (N:=some 23) #[Tt,Tt,Tt,Tt,Tt,Tt,Tt,Tt,Tt,Tt,Tt,Tt,Tt,Tt,Ff,Ff,Ff,Ff,Ff,Ff] ?_
   refine tZ (i:=14) (N:=some 25) #[Tt,Tt,Tt,Tt,Tt,Tt,Tt,Tt,Tt,Tt,Tt,Tt,Tt,Tt,Tt,Ff,Ff,Ff,Ff,Ff] ?_
   refine pZ (i:=15) (N:=some 26) #[Tt,Tt,Tt,Tt,Tt,Tt,Tt,Tt,Tt,Tt,Tt,Tt,Tt,Tt,Tt,Tt,Ff,Ff,Ff,Ff] ?_
   refine one_ (i:=16) (N:=some 27) #[Tt,Tt,Tt,Tt,Tt,Tt,Tt,Tt,Tt,Tt,Tt,Tt,Tt,Tt,Tt,Tt,Tt,Ff,Ff,Ff] rfl rfl (one_of HT_.out (by kernel_rfl)) (by decide) (fun K hK => ?_)
   refine goes_ Tryd.func52 (by kernel_rfl) rfl #[.agg #[.int .i64 a0_0,.int .i64 a0_1,.slice A0_2 l0_2.length c0_2,.slice A0_3 l0_3.length c0_3],.bool true,.int .i64 a1_0,.int .i64 (wrap64 (a1_1 - 1))] (by rfl) rfl rfl ob_ ?_
   with_reducible refine (spec_fiHas.calls k a0_0 a0_1 _ _ l0_2 _ _ l0_3 true a1_0 (wrap64 (a1_1 - 1)) t657 _ ?side1 ?side2 ?side3 ?side4 A6.out).mono ?_
   (case side1 => exact kc_ (Kd.C_below HR0_2.out HB.out))
   (case side2 => exact HC0_2.out)
   (case side3 => exact kc_ (Kd.C_below HR0_3.out HB.out))
   (case side4 => exact HC0_3.out)
   rintro e w11 ⟨rfl,hb⟩
   refine ⟨_,rfl,?_⟩
   have n0_:=Aside0.mk (bb_ BK654.out hb)
   have n1_:=Aside0.mk (bb_ BK655.out hb)
   have n2_:=Aside0.mk (bb_ BK656.out hb)
   have n3_:=Aside0.mk (below_step (bl3_ HB.out GE654.out GE655.out GE656.out) hb)
   clear BK654
   clear BK655
   clear BK656
   clear HB
   have BK654:=n0_
   have BK655:=n1_
   have BK656:=n2_
   have HB:=n3_
   clear n0_ n1_ n2_ n3_
   (try clear hb)
   (try clear hb2)
   (try clear hk)
   (try clear hi)
   refine hK.out _ _ ⟨(blk_cell BK655.out 0).trans rfl,(blk_cell BK655.out 1).trans rfl,(blk_cell BK654.out 0).trans rfl,(blk_cell BK654.out 1).trans rfl,(blk_cell BK654.out 2).trans rfl,(blk_cell BK654.out 3).trans rfl⟩ (fun hHeld => ?_)
   clear hK K
   refine norm_ (a':=_) ap_ ?_
   refine pZ (i:=17) (N:=some 28) #[Tt,Tt,Tt,Tt,Tt,Tt,Tt,Tt,Tt,Tt,Tt,Tt,Tt,Tt,Tt,Tt,Tt,Tt,Ff,Ff] ?_
   refine one_ (i:=18) (N:=none) #[Tt,Tt,Tt,Tt,Tt,Tt,Tt,Tt,Tt,Tt,Tt,Tt,Tt,Tt,Tt,Tt,Tt,Tt,Tt,Ff] rfl rfl (one_of HT_.out (by kernel_rfl)) (by decide) (fun K hK => ?_)
   have hs12:w11.cell? ⟨gb656,0,none⟩ = some (.int .i64 0):=(blk_cell BK656.out 0).trans rfl
   have hfs12:=blk_frozen BK656.out 0
   have hns12_0:=NB654_656.out
   have hns12_1:=NB655_656.out
   have hms12_0:=NB656_654.out
   have hms12_1:=NB656_655.out
   have hs13:w11.cell? ⟨gb656,1,none⟩ = some (.int .i64 0):=(blk_cell BK656.out 1).trans rfl
   have hfs13:=blk_frozen BK656.out 1
   have hns13_0:=NB654_656.out
   have hns13_1:=NB655_656.out
   have hms13_0:=NB656_654.out
   have hms13_1:=NB656_655.out
   refine skip_ (w1:=?_) (by rfl) rfl ?_ ?_
   rotate_left
   ·go_simp
    rfl
   refine hK.out _ _ ⟨((cell_far (p:=⟨gb656,_,none⟩) NB655_656.out _).trans (((cell_far (p:=⟨gb656,_,none⟩) NB655_656.out _).trans (hHeld.1)))),((cell_far (p:=⟨gb656,_,none⟩) NB655_656.out _).trans (((cell_far (p:=⟨gb656,_,none⟩) NB655_656.out _).trans (hHeld.2.1)))),((cell_far (p:=⟨gb656,_,none⟩) NB654_656.out _).trans (((cell_far (p:=⟨gb656,_,none⟩) NB654_656.out _).trans (hHeld.2.2.1)))),((cell_far (p:=⟨gb656,_,none⟩) NB654_656.out _).trans (((cell_far (p:=⟨gb656,_,none⟩) NB654_656.out _).trans (hHeld.2.2.2.1)))),((cell_far (p:=⟨gb656,_,none⟩) NB654_656.out _).trans (((cell_far (p:=⟨gb656,_,none⟩) NB654_656.out _).trans (hHeld.2.2.2.2.1)))),((cell_far (p:=⟨gb656,_,none⟩) NB654_656.out _).trans (((cell_far (p:=⟨gb656,_,none⟩) NB654_656.out _).trans (hHeld.2.2.2.2.2))))⟩ (fun hHeld => ?_)
   clear hK K
   refine pZ (i:=19) (N:=some 7) #[Tt,Tt,Tt,Tt,Tt,Tt,Tt,Tt,Tt,Tt,Tt,Tt,Tt,Tt,Tt,Tt,Tt,Tt,Tt,Tt] ?_
   refine done_ (done_of HT_.out (by kernel_rfl)) ?_
   try go_wp2
   refine bodyPost_ret (results_ct rfl _ _ gb656 103 #[.int .i64 a1_0,.int .i64 (wrap64 (a1_1 - 1))] (0,0) _ rfl (by (with_reducible repeat (first | refine blk_drewN ?_ _ | refine blk_drew ?_ | refine blk_alloc ?_ _)); refine blk_put (cs:=#[.int .i64 a1_0,.int .i64 0]) ?_ 1 _ rfl; (with_reducible repeat (first | refine blk_drewN ?_ _ | refine blk_drew ?_ | refine blk_alloc ?_ _)); refine blk_put (cs:=#[.int .i64 0,.int .i64 0]) ?_ 0 _ rfl; (with_reducible repeat (first | refine blk_drewN ?_ _ | refine blk_drew ?_ | refine blk_alloc ?_ _)); exact BK656.out) Tryd.underlying103 rfl (by kernel_rfl)) rfl ?_
   exact ⟨er_,bl3_ HB.out GE654.out GE655.out GE656.out⟩
  ·rw [if_neg c5] at H
   have c5b0:decide (0 < a1_1) = false:=decide_eq_false c5
   clear c5
   simp only [Option.some.injEq,Prod.mk.injEq] at H
   obtain ⟨rfl,rfl,rfl⟩:=H
   go_enter Tryd.func104,Tryd.ntmps104
   try go_wp2_with (first | ((with_reducible refine gate_dst (N:=3) rfl ?_); refine boxE_ (N:=3) (cs:=#[.int .i64 a0_0,.int .i64 a0_1,.slice A0_2 l0_2.length c0_2,.slice A0_3 l0_3.length c0_3]) (t:=26) ?_; intro gb654 hg w14 hbox hb; have n0_:=Aside0.mk (below_step (bl0_ HB.out) hb); have n1_:=Aside0.mk (hbox); have n2_:=Aside0.mk ((bs0_ hg HB.out:w.heap.size ≤ gb654)); have n3_:=Aside0.mk ((bs0_ hg HB.out:w.heap.size ≤ gb654)); clear HB; have HB:=n0_; have BK654:=n1_; have GW654:=n2_; have GE654:=n3_; clear n0_ n1_ n2_ n3_; clear hb hbox hg) | ((with_reducible refine gate_dst (N:=4) rfl ?_); refine boxE_ (N:=4) (cs:=#[.int .i64 a1_0,.int .i64 a1_1]) (t:=103) ?_; intro gb655 hg w15 hbox hb; have n0_:=Aside0.mk (bb_ BK654.out hb); have n1_:=Aside0.mk (below_step (bl1_ HB.out GE654.out) hb); have n2_:=Aside0.mk (hbox); have n3_:=Aside0.mk ((bs1_ hg HB.out GE654.out:w.heap.size ≤ gb655)); have n4_:=Aside0.mk ((bs1_ hg HB.out GE654.out:w.heap.size ≤ gb655)); have n5_:=Aside0.mk ((nl_ hg BK654.out:gb654 ≠ gb655)); have n6_:=Aside0.mk ((ng_ hg BK654.out:gb655 ≠ gb654)); clear BK654; clear HB; have BK654:=n0_; have HB:=n1_; have BK655:=n2_; have GW655:=n3_; have GE655:=n4_; have NB654_655:=n5_; have NB655_654:=n6_; clear n0_ n1_ n2_ n3_ n4_ n5_ n6_; clear hb hbox hg) | ((with_reducible refine gate_dst (N:=6) rfl ?_); refine boxE_ (N:=6) (cs:=#[.int .i64 0,.int .i64 0]) (t:=103) ?_; intro gb656 hg w16 hbox hb; have n0_:=Aside0.mk (bb_ BK654.out hb); have n1_:=Aside0.mk (bb_ BK655.out hb); have n2_:=Aside0.mk (below_step (bl2_ HB.out GE654.out GE655.out) hb); have n3_:=Aside0.mk (hbox); have n4_:=Aside0.mk ((bs2_ hg HB.out GE654.out GE655.out:w.heap.size ≤ gb656)); have n5_:=Aside0.mk ((bs2_ hg HB.out GE654.out GE655.out:w.heap.size ≤ gb656)); have n6_:=Aside0.mk ((nl_ hg BK654.out:gb654 ≠ gb656)); have n7_:=Aside0.mk ((ng_ hg BK654.out:gb656 ≠ gb654)); have n8_:=Aside0.mk ((nl_ hg BK655.out:gb655 ≠ gb656)); have n9_:=Aside0.mk ((ng_ hg BK655.out:gb656 ≠ gb655)); clear BK654; clear BK655; clear HB; have BK654:=n0_; have BK655:=n1_; have HB:=n2_; have BK656:=n3_; have GW656:=n4_; have GE656:=n5_; have NB654_656:=n6_; have NB656_654:=n7_; have NB655_656:=n8_; have NB656_655:=n9_; clear n0_ n1_ n2_ n3_ n4_ n5_ n6_ n7_ n8_ n9_; clear hb hbox hg))
   have n0_:=Aside0.mk (blk_drew BK654.out)
   have n1_:=Aside0.mk (blk_drew BK655.out)
   have n2_:=Aside0.mk (blk_drew BK656.out)
   have n3_:=Aside0.mk (below_drew1 HB.out)
   clear BK654
   clear BK655
   clear BK656
   clear HB
   have BK654:=n0_
   have BK655:=n1_
   have BK656:=n2_
   have HB:=n3_
   clear n0_ n1_ n2_ n3_
   refine start_ (n:=20) (S:=fun w' => w'.cell? ⟨gb655,0,none⟩ = some (.int .i64 a1_0) ∧ w'.cell? ⟨gb655,1,none⟩ = some (.int .i64 a1_1)) (ds:=[]) #[Ff,Ff,Ff,Ff,Ff,Ff,Ff,Ff,Ff,Ff,Ff,Ff,Ff,Ff,Ff,Ff,Ff,Ff,Ff,Ff] (by kernel_rfl) rfl rfl ⟨(blk_cell BK655.out 0).trans rfl,(blk_cell BK655.out 1).trans rfl⟩ (fun hHeld => ?_); refine with_tabW spec_liNext.tab3 spec_liNext.bits3 (fun HT_ HW_ => ?_)
   generalize w16.drew = w17 at BK654 BK655 BK656 HB hHeld ⊢
   refine pZ (i:=0) (N:=some 11) #[Tt,Ff,Ff,Ff,Ff,Ff,Ff,Ff,Ff,Ff,Ff,Ff,Ff,Ff,Ff,Ff,Ff,Ff,Ff,Ff] ?_
   refine pZ (i:=2) (N:=some 13) #[Tt,Ff,Tt,Ff,Ff,Ff,Ff,Ff,Ff,Ff,Ff,Ff,Ff,Ff,Ff,Ff,Ff,Ff,Ff,Ff] ?_
   refine pZ (i:=6) (N:=some 17) #[Tt,Ff,Tt,Ff,Ff,Ff,Tt,Ff,Ff,Ff,Ff,Ff,Ff,Ff,Ff,Ff,Ff,Ff,Ff,Ff] ?_
   refine tZ (i:=1) (N:=some 12) #[Tt,Tt,Tt,Ff,Ff,Ff,Tt,Ff,Ff,Ff,Ff,Ff,Ff,Ff,Ff,Ff,Ff,Ff,Ff,Ff] ?_
   refine tZ (i:=3) (N:=some 14) #[Tt,Tt,Tt,Tt,Ff,Ff,Tt,Ff,Ff,Ff,Ff,Ff,Ff,Ff,Ff,Ff,Ff,Ff,Ff,Ff] ?_
   refine pZ (i:=4) (N:=some 15) #[Tt,Tt,Tt,Tt,Tt,Ff,Tt,Ff,Ff,Ff,Ff,Ff,Ff,Ff,Ff,Ff,Ff,Ff,Ff,Ff] ?_
   refine pZ (i:=5) (N:=some 16) #[Tt,Tt,Tt,Tt,Tt,Tt,Tt,Ff,Ff,Ff,Ff,Ff,Ff,Ff,Ff,Ff,Ff,Ff,Ff,Ff] ?_
   refine tZ (i:=7) (N:=some 18) #[Tt,Tt,Tt,Tt,Tt,Tt,Tt,Tt,Ff,Ff,Ff,Ff,Ff,Ff,Ff,Ff,Ff,Ff,Ff,Ff] ?_
   refine pZ (i:=8) (N:=some 19) #[Tt,Tt,Tt,Tt,Tt,Tt,Tt,Tt,Tt,Ff,Ff,Ff,Ff,Ff,Ff,Ff,Ff,Ff,Ff,Ff] ?_
   refine pZ (i:=9) (N:=some 20) #[Tt,Tt,Tt,Tt,Tt,Tt,Tt,Tt,Tt,Tt,Ff,Ff,Ff,Ff,Ff,Ff,Ff,Ff,Ff,Ff] ?_
   refine pU (i:=10) (N:=some 21) #[Tt,Tt,Tt,Tt,Tt,Tt,Tt,Tt,Tt,Tt,Tt,Ff,Ff,Ff,Ff,Ff,Ff,Ff,Ff,Ff] ?_
   refine pU (i:=11) (N:=some 22) #[Tt,Tt,Tt,Tt,Tt,Tt,Tt,Tt,Tt,Tt,Tt,Tt,Ff,Ff,Ff,Ff,Ff,Ff,Ff,Ff] ?_
   refine pU (i:=12) (N:=some 23) #[Tt,Tt,Tt,Tt,Tt,Tt,Tt,Tt,Tt,Tt,Tt,Tt,Tt,Ff,Ff,Ff,Ff,Ff,Ff,Ff] ?_
   refine pU (i:=13) (N:=some 24) #[Tt,Tt,Tt,Tt,Tt,Tt,Tt,Tt,Tt,Tt,Tt,Tt,Tt,Tt,Ff,Ff,Ff,Ff,Ff,Ff] ?_
   refine pU (i:=14) (N:=some 25) #[Tt,Tt,Tt,Tt,Tt,Tt,Tt,Tt,Tt,Tt,Tt,Tt,Tt,Tt,Tt,Ff,Ff,Ff,Ff,Ff] ?_
   refine pU (i:=15) (N:=some 26) #[Tt,Tt,Tt,Tt,Tt,Tt,Tt,Tt,Tt,Tt,Tt,Tt,Tt,Tt,Tt,Tt,Ff,Ff,Ff,Ff] ?_
   refine pU (i:=16) (N:=some 27) #[Tt,Tt,Tt,Tt,Tt,Tt,Tt,Tt,Tt,Tt,Tt,Tt,Tt,Tt,Tt,Tt,Tt,Ff,Ff,Ff] ?_
   refine pZ (i:=17) (N:=some 28) #[Tt,Tt,Tt,Tt,Tt,Tt,Tt,Tt,Tt,Tt,Tt,Tt,Tt,Tt,Tt,Tt,Tt,Tt,Ff,Ff] ?_
   refine one_ (i:=18) (N:=none) #[Tt,Tt,Tt,Tt,Tt,Tt,Tt,Tt,Tt,Tt,Tt,Tt,Tt,Tt,Tt,Tt,Tt,Tt,Tt,Ff] rfl rfl (one_of HT_.out (by kernel_rfl)) (by decide) (fun K hK => ?_)
   have hs18:w17.cell? ⟨gb656,0,none⟩ = some (.int .i64 0):=(blk_cell BK656.out 0).trans rfl
   have hfs18:=blk_frozen BK656.out 0
   have hns18_0:=NB654_656.out
   have hns18_1:=NB655_656.out
   have hms18_0:=NB656_654.out
   have hms18_1:=NB656_655.out
   have hs19:w17.cell? ⟨gb656,1,none⟩ = some (.int .i64 0):=(blk_cell BK656.out 1).trans rfl
   have hfs19:=blk_frozen BK656.out 1
   have hns19_0:=NB654_656.out
   have hns19_1:=NB655_656.out
   have hms19_0:=NB656_654.out
   have hms19_1:=NB656_655.out
   refine skip_ (w1:=?_) (by rfl) rfl ?_ ?_
   rotate_left
   ·go_simp
    rfl
   refine hK.out _ _ ⟨((cell_far (p:=⟨gb656,_,none⟩) NB655_656.out _).trans (((cell_far (p:=⟨gb656,_,none⟩) NB655_656.out _).trans (hHeld.1)))),((cell_far (p:=⟨gb656,_,none⟩) NB655_656.out _).trans (((cell_far (p:=⟨gb656,_,none⟩) NB655_656.out _).trans (hHeld.2))))⟩ (fun hHeld => ?_)
   clear hK K
   refine pZ (i:=19) (N:=some 7) #[Tt,Tt,Tt,Tt,Tt,Tt,Tt,Tt,Tt,Tt,Tt,Tt,Tt,Tt,Tt,Tt,Tt,Tt,Tt,Tt] ?_
   refine done_ (done_of HT_.out (by kernel_rfl)) ?_
   try go_wp2
   refine bodyPost_ret (results_ct rfl _ _ gb656 103 #[.int .i64 a1_0,.int .i64 (wrap64 (a1_1 - 1))] (0,0) _ rfl (by (with_reducible repeat (first | refine blk_drewN ?_ _ | refine blk_drew ?_ | refine blk_alloc ?_ _)); refine blk_put (cs:=#[.int .i64 a1_0,.int .i64 0]) ?_ 1 _ rfl; (with_reducible repeat (first | refine blk_drewN ?_ _ | refine blk_drew ?_ | refine blk_alloc ?_ _)); refine blk_put (cs:=#[.int .i64 0,.int .i64 0]) ?_ 0 _ rfl; (with_reducible repeat (first | refine blk_drewN ?_ _ | refine blk_drew ?_ | refine blk_alloc ?_ _)); exact BK656.out) Tryd.underlying103 rfl (by kernel_rfl)) rfl ?_
   exact ⟨er_,bl3_ HB.out GE654.out GE655.out GE656.out⟩
 ·rw [if_neg c4] at H
  have c4b0:(a2 == 0) = false:=beq_eq_false_iff_ne.mpr c4
  have c4b1:(a2 != 0) = true:=bne_iff_ne.mpr c4
  by_cases c20:a2 = 1
  ·rw [if_pos c20] at H
   have c20b0:(a2 == 1) = true:=beq_iff_eq.mpr c20
   have c20b1:(a2 != 1) = false:=bne_eq_false_iff_eq.mpr c20
   clear c20
   by_cases c21:a1_0 < a0_0
   ·rw [if_pos c21] at H
    have c21b0:decide (a1_0 < a0_0) = true:=decide_eq_true c21
    clear c21
    replace H:=Option.bind_eq_some_iff.mp H
    obtain ⟨t658,A220,H⟩:=H
    replace H:(some (wrap64 (a1_0 + 1),a1_1,t658)) = some (r1,r2,r3):=H
    have A22:=Aside0.mk A220
    clear A220
    simp only [Option.some.injEq,Prod.mk.injEq] at H
    obtain ⟨rfl,rfl,rfl⟩:=H
    go_enter Tryd.func104,Tryd.ntmps104
    try go_wp2_with (first | ((with_reducible refine gate_dst (N:=3) rfl ?_); refine boxE_ (N:=3) (cs:=#[.int .i64 a0_0,.int .i64 a0_1,.slice A0_2 l0_2.length c0_2,.slice A0_3 l0_3.length c0_3]) (t:=26) ?_; intro gb654 hg w23 hbox hb; have n0_:=Aside0.mk (below_step (bl0_ HB.out) hb); have n1_:=Aside0.mk (hbox); have n2_:=Aside0.mk ((bs0_ hg HB.out:w.heap.size ≤ gb654)); have n3_:=Aside0.mk ((bs0_ hg HB.out:w.heap.size ≤ gb654)); clear HB; have HB:=n0_; have BK654:=n1_; have GW654:=n2_; have GE654:=n3_; clear n0_ n1_ n2_ n3_; clear hb hbox hg) | ((with_reducible refine gate_dst (N:=4) rfl ?_); refine boxE_ (N:=4) (cs:=#[.int .i64 a1_0,.int .i64 a1_1]) (t:=103) ?_; intro gb655 hg w24 hbox hb; have n0_:=Aside0.mk (bb_ BK654.out hb); have n1_:=Aside0.mk (below_step (bl1_ HB.out GE654.out) hb); have n2_:=Aside0.mk (hbox); have n3_:=Aside0.mk ((bs1_ hg HB.out GE654.out:w.heap.size ≤ gb655)); have n4_:=Aside0.mk ((bs1_ hg HB.out GE654.out:w.heap.size ≤ gb655)); have n5_:=Aside0.mk ((nl_ hg BK654.out:gb654 ≠ gb655)); have n6_:=Aside0.mk ((ng_ hg BK654.out:gb655 ≠ gb654)); clear BK654; clear HB; have BK654:=n0_; have HB:=n1_; have BK655:=n2_; have GW655:=n3_; have GE655:=n4_; have NB654_655:=n5_; have NB655_654:=n6_; clear n0_ n1_ n2_ n3_ n4_ n5_ n6_; clear hb hbox hg) | ((with_reducible refine gate_dst (N:=6) rfl ?_); refine boxE_ (N:=6) (cs:=#[.int .i64 0,.int .i64 0]) (t:=103) ?_; intro gb656 hg w25 hbox hb; have n0_:=Aside0.mk (bb_ BK654.out hb); have n1_:=Aside0.mk (bb_ BK655.out hb); have n2_:=Aside0.mk (below_step (bl2_ HB.out GE654.out GE655.out) hb); have n3_:=Aside0.mk (hbox); have n4_:=Aside0.mk ((bs2_ hg HB.out GE654.out GE655.out:w.heap.size ≤ gb656)); have n5_:=Aside0.mk ((bs2_ hg HB.out GE654.out GE655.out:w.heap.size ≤ gb656)); have n6_:=Aside0.mk ((nl_ hg BK654.out:gb654 ≠ gb656)); have n7_:=Aside0.mk ((ng_ hg BK654.out:gb656 ≠ gb654)); have n8_:=Aside0.mk ((nl_ hg BK655.out:gb655 ≠ gb656)); have n9_:=Aside0.mk ((ng_ hg BK655.out:gb656 ≠ gb655)); clear BK654; clear BK655; clear HB; have BK654:=n0_; have BK655:=n1_; have HB:=n2_; have BK656:=n3_; have GW656:=n4_; have GE656:=n5_; have NB654_656:=n6_; have NB656_654:=n7_; have NB655_656:=n8_; have NB656_655:=n9_; clear n0_ n1_ n2_ n3_ n4_ n5_ n6_ n7_ n8_ n9_; clear hb hbox hg))
    have n0_:=Aside0.mk (blk_drew BK654.out)
    have n1_:=Aside0.mk (blk_drew BK655.out)
    have n2_:=Aside0.mk (blk_drew BK656.out)
    have n3_:=Aside0.mk (below_drew1 HB.out)
    clear BK654
    clear BK655
    clear BK656
    clear HB
    have BK654:=n0_
    have BK655:=n1_
    have BK656:=n2_
    have HB:=n3_
    clear n0_ n1_ n2_ n3_
    refine start_ (n:=21) (S:=fun w' => w'.cell? ⟨gb655,0,none⟩ = some (.int .i64 a1_0) ∧ w'.cell? ⟨gb655,1,none⟩ = some (.int .i64 a1_1) ∧ w'.cell? ⟨gb654,0,none⟩ = some (.int .i64 a0_0) ∧ w'.cell? ⟨gb654,1,none⟩ = some (.int .i64 a0_1) ∧ w'.cell? ⟨gb654,2,none⟩ = some (.slice A0_2 l0_2.length c0_2) ∧ w'.cell? ⟨gb654,3,none⟩ = some (.slice A0_3 l0_3.length c0_3)) (ds:=[]) #[Ff,Ff,Ff,Ff,Ff,Ff,Ff,Ff,Ff,Ff,Ff,Ff,Ff,Ff,Ff,Ff,Ff,Ff,Ff,Ff,Ff] (by kernel_rfl) rfl rfl ⟨(blk_cell BK655.out 0).trans rfl,(blk_cell BK655.out 1).trans rfl,(blk_cell BK654.out 0).trans rfl,(blk_cell BK654.out 1).trans rfl,(blk_cell BK654.out 2).trans rfl,(blk_cell BK654.out 3).trans rfl⟩ (fun hHeld => ?_); refine with_tabW spec_liNext.tab5 spec_liNext.bits5 (fun HT_ HW_ => ?_)
    generalize w25.drew = w26 at BK654 BK655 BK656 HB hHeld ⊢
    refine pZ (i:=0) (N:=some 31) #[Tt,Ff,Ff,Ff,Ff,Ff,Ff,Ff,Ff,Ff,Ff,Ff,Ff,Ff,Ff,Ff,Ff,Ff,Ff,Ff,Ff] ?_
    refine pZ (i:=3) (N:=some 34) #[Tt,Ff,Ff,Tt,Ff,Ff,Ff,Ff,Ff,Ff,Ff,Ff,Ff,Ff,Ff,Ff,Ff,Ff,Ff,Ff,Ff] ?_
    refine pZ (i:=6) (N:=some 37) #[Tt,Ff,Ff,Tt,Ff,Ff,Tt,Ff,Ff,Ff,Ff,Ff,Ff,Ff,Ff,Ff,Ff,Ff,Ff,Ff,Ff] ?_
    refine pZ (i:=8) (N:=some 39) #[Tt,Ff,Ff,Tt,Ff,Ff,Tt,Ff,Tt,Ff,Ff,Ff,Ff,Ff,Ff,Ff,Ff,Ff,Ff,Ff,Ff] ?_
    refine tZ (i:=1) (N:=some 32) #[Tt,Tt,Ff,Tt,Ff,Ff,Tt,Ff,Tt,Ff,Ff,Ff,Ff,Ff,Ff,Ff,Ff,Ff,Ff,Ff,Ff] ?_
    refine pZ (i:=2) (N:=some 33) #[Tt,Tt,Tt,Tt,Ff,Ff,Tt,Ff,Tt,Ff,Ff,Ff,Ff,Ff,Ff,Ff,Ff,Ff,Ff,Ff,Ff] ?_
    refine tZ (i:=4) (N:=some 35) #[Tt,Tt,Tt,Tt,Tt,Ff,Tt,Ff,Tt,Ff,Ff,Ff,Ff,Ff,Ff,Ff,Ff,Ff,Ff,Ff,Ff] ?_
    refine pZ (i:=5) (N:=some 36) #[Tt,Tt,Tt,Tt,Tt,Tt,Tt,Ff,Tt,Ff,Ff,Ff,Ff,Ff,Ff,Ff,Ff,Ff,Ff,Ff,Ff] ?_
    refine tZ (i:=7) (N:=some 38) #[Tt,Tt,Tt,Tt,Tt,Tt,Tt,Tt,Tt,Ff,Ff,Ff,Ff,Ff,Ff,Ff,Ff,Ff,Ff,Ff,Ff] ?_
    refine tZ (i:=9) (N:=some 40) #[Tt,Tt,Tt,Tt,Tt,Tt,Tt,Tt,Tt,Tt,Ff,Ff,Ff,Ff,Ff,Ff,Ff,Ff,Ff,Ff,Ff] ?_
    refine pZ (i:=10) (N:=some 41) #[Tt,Tt,Tt,Tt,Tt,Tt,Tt,Tt,Tt,Tt,Tt,Ff,Ff,Ff,Ff,Ff,Ff,Ff,Ff,Ff,Ff] ?_
    refine pZ (i:=11) (N:=some 42) #[Tt,Tt,Tt,Tt,Tt,Tt,Tt,Tt,Tt,Tt,Tt,Tt,Ff,Ff,Ff,Ff,Ff,Ff,Ff,Ff,Ff] ?_
    refine pZ (i:=13) (N:=some 44) #[Tt,Tt,Tt,Tt,Tt,Tt,Tt,Tt,Tt,Tt,Tt,Tt,Ff,Tt,Ff,Ff,Ff,Ff,Ff,Ff,Ff] ?_
    refine pZ (i:=15) (N:=some 46) #[Tt,Tt,Tt,Tt,Tt,Tt,Tt,Tt,Tt,Tt,Tt,Tt,Ff,Tt,Ff,Tt,Ff,Ff,Ff,Ff,Ff] ?_
    refine tZ (i:=12) (N:=some 43) #[Tt,Tt,Tt,Tt,Tt,Tt,Tt,Tt,Tt,Tt,Tt,Tt,Tt,Tt,Ff,Tt,Ff,Ff,Ff,Ff,Ff] ?_
    refine tZ (i:=14) (N:=some 45) #[Tt,Tt,Tt,Tt,Tt,Tt,Tt,Tt,Tt,Tt,Tt,Tt,Tt,Tt,Tt,Tt,Ff,Ff,Ff,Ff,Ff] ?_
    refine tZ (i:=16) (N:=some 47) #[Tt,Tt,Tt,Tt,Tt,Tt,Tt,Tt,Tt,Tt,Tt,Tt,Tt,Tt,Tt,Tt,Tt,Ff,Ff,Ff,Ff] ?_
    refine one_ (i:=17) (N:=some 48) #[Tt,Tt,Tt,Tt,Tt,Tt,Tt,Tt,Tt,Tt,Tt,Tt,Tt,Tt,Tt,Tt,Tt,Tt,Ff,Ff,Ff] rfl rfl (one_of HT_.out (by kernel_rfl)) (by decide) (fun K hK => ?_)
    refine goes_ Tryd.func52 (by kernel_rfl) rfl #[.agg #[.int .i64 a0_0,.int .i64 a0_1,.slice A0_2 l0_2.length c0_2,.slice A0_3 l0_3.length c0_3],.bool false,.int .i64 a1_0,.int .i64 a1_1] (by rfl) rfl rfl ob_ ?_
    with_reducible refine (spec_fiHas.calls k a0_0 a0_1 _ _ l0_2 _ _ l0_3 false a1_0 a1_1 t658 _ ?side1 ?side2 ?side3 ?side4 A22.out).mono ?_
    (case side1 => exact kc_ (Kd.C_below HR0_2.out HB.out))
    (case side2 => exact HC0_2.out)
    (case side3 => exact kc_ (Kd.C_below HR0_3.out HB.out))
    (case side4 => exact HC0_3.out)
    rintro e w27 ⟨rfl,hb⟩
    refine ⟨_,rfl,?_⟩
    have n0_:=Aside0.mk (bb_ BK654.out hb)
    have n1_:=Aside0.mk (bb_ BK655.out hb)
    have n2_:=Aside0.mk (bb_ BK656.out hb)
    have n3_:=Aside0.mk (below_step (bl3_ HB.out GE654.out GE655.out GE656.out) hb)
    clear BK654
    clear BK655
    clear BK656
    clear HB
    have BK654:=n0_
    have BK655:=n1_
    have BK656:=n2_
    have HB:=n3_
    clear n0_ n1_ n2_ n3_
    (try clear hb)
    (try clear hb2)
    (try clear hk)
    (try clear hi)
    refine hK.out _ _ ⟨(blk_cell BK655.out 0).trans rfl,(blk_cell BK655.out 1).trans rfl,(blk_cell BK654.out 0).trans rfl,(blk_cell BK654.out 1).trans rfl,(blk_cell BK654.out 2).trans rfl,(blk_cell BK654.out 3).trans rfl⟩ (fun hHeld => ?_)
    clear hK K
    refine norm_ (a':=_) ap_ ?_
    refine pZ (i:=18) (N:=some 49) #[Tt,Tt,Tt,Tt,Tt,Tt,Tt,Tt,Tt,Tt,Tt,Tt,Tt,Tt,Tt,Tt,Tt,Tt,Tt,Ff,Ff] ?_
    refine one_ (i:=19) (N:=none) #[Tt,Tt,Tt,Tt,Tt,Tt,Tt,Tt,Tt,Tt,Tt,Tt,Tt,Tt,Tt,Tt,Tt,Tt,Tt,Tt,Ff] rfl rfl (one_of HT_.out (by kernel_rfl)) (by decide) (fun K hK => ?_)
    have hs28:w27.cell? ⟨gb656,0,none⟩ = some (.int .i64 0):=(blk_cell BK656.out 0).trans rfl
    have hfs28:=blk_frozen BK656.out 0
    have hns28_0:=NB654_656.out
    have hns28_1:=NB655_656.out
    have hms28_0:=NB656_654.out
    have hms28_1:=NB656_655.out
    have hs29:w27.cell? ⟨gb656,1,none⟩ = some (.int .i64 0):=(blk_cell BK656.out 1).trans rfl
    have hfs29:=blk_frozen BK656.out 1
    have hns29_0:=NB654_656.out
    have hns29_1:=NB655_656.out
    have hms29_0:=NB656_654.out
    have hms29_1:=NB656_655.out
    refine skip_ (w1:=?_) (by rfl) rfl ?_ ?_
    rotate_left
    ·go_simp
     rfl
    refine hK.out _ _ ⟨((cell_far (p:=⟨gb656,_,none⟩) NB655_656.out _).trans (((cell_far (p:=⟨gb656,_,none⟩) NB655_656.out _).trans (hHeld.1)))),((cell_far (p:=⟨gb656,_,none⟩) NB655_656.out _).trans (((cell_far (p:=⟨gb656,_,none⟩) NB655_656.out _).trans (hHeld.2.1)))),((cell_far (p:=⟨gb656,_,none⟩) NB654_656.out _).trans (((cell_far (p:=⟨gb656,_,none⟩) NB654_656.out _).trans (hHeld.2.2.1)))),((cell_far (p:=⟨gb656,_,none⟩) NB654_656.out _).trans (((cell_far (p:=⟨gb656,_,none⟩) NB654_656.out _).trans (hHeld.2.2.2.1)))),((cell_far (p:=⟨gb656,_,none⟩) NB654_656.out _).trans (((cell_far (p:=⟨gb656,_,none⟩) NB654_656.out _).trans (hHeld.2.2.2.2.1)))),((cell_far (p:=⟨gb656,_,none⟩) NB654_656.out _).trans (((cell_far (p:=⟨gb656,_,none⟩) NB654_656.out _).trans (hHeld.2.2.2.2.2))))⟩ (fun hHeld => ?_)
    clear hK K
    refine pZ (i:=20) (N:=some 7) #[Tt,Tt,Tt,Tt,Tt,Tt,Tt,Tt,Tt,Tt,Tt,Tt,Tt,Tt,Tt,Tt,Tt,Tt,Tt,Tt,Tt] ?_
    refine done_ (done_of HT_.out (by kernel_rfl)) ?_
    try go_wp2
    refine bodyPost_ret (results_ct rfl _ _ gb656 103 #[.int .i64 (wrap64 (a1_0 + 1)),.int .i64 a1_1] (0,0) _ rfl (by (with_reducible repeat (first | refine blk_drewN ?_ _ | refine blk_drew ?_ | refine blk_alloc ?_ _)); refine blk_put (cs:=#[.int .i64 (wrap64 (a1_0 + 1)),.int .i64 0]) ?_ 1 _ rfl; (with_reducible repeat (first | refine blk_drewN ?_ _ | refine blk_drew ?_ | refine blk_alloc ?_ _)); refine blk_put (cs:=#[.int .i64 0,.int .i64 0]) ?_ 0 _ rfl; (with_reducible repeat (first | refine blk_drewN ?_ _ | refine blk_drew ?_ | refine blk_alloc ?_ _)); exact BK656.out) Tryd.underlying103 rfl (by kernel_rfl)) rfl ?_
    exact ⟨er_,bl3_ HB.out GE654.out GE655.out GE656.out⟩
   ·rw [if_neg c21] at H
    have c21b0:decide (a1_0 < a0_0) = false:=decide_eq_false c21
    clear c21
    simp only [Option.some.injEq,Prod.mk.injEq] at H
    obtain ⟨rfl,rfl,rfl⟩:=H
    go_enter Tryd.func104,Tryd.ntmps104
    try go_wp2_with (first | ((with_reducible refine gate_dst (N:=3) rfl ?_); refine boxE_ (N:=3) (cs:=#[.int .i64 a0_0,.int .i64 a0_1,.slice A0_2 l0_2.length c0_2,.slice A0_3 l0_3.length c0_3]) (t:=26) ?_; intro gb654 hg w30 hbox hb; have n0_:=Aside0.mk (below_step (bl0_ HB.out) hb); have n1_:=Aside0.mk (hbox); have n2_:=Aside0.mk ((bs0_ hg HB.out:w.heap.size ≤ gb654)); have n3_:=Aside0.mk ((bs0_ hg HB.out:w.heap.size ≤ gb654)); clear HB; have HB:=n0_; have BK654:=n1_; have GW654:=n2_; have GE654:=n3_; clear n0_ n1_ n2_ n3_; clear hb hbox hg) | ((with_reducible refine gate_dst (N:=4) rfl ?_); refine boxE_ (N:=4) (cs:=#[.int .i64 a1_0,.int .i64 a1_1]) (t:=103) ?_; intro gb655 hg w31 hbox hb; have n0_:=Aside0.mk (bb_ BK654.out hb); have n1_:=Aside0.mk (below_step (bl1_ HB.out GE654.out) hb); have n2_:=Aside0.mk (hbox); have n3_:=Aside0.mk ((bs1_ hg HB.out GE654.out:w.heap.size ≤ gb655)); have n4_:=Aside0.mk ((bs1_ hg HB.out GE654.out:w.heap.size ≤ gb655)); have n5_:=Aside0.mk ((nl_ hg BK654.out:gb654 ≠ gb655)); have n6_:=Aside0.mk ((ng_ hg BK654.out:gb655 ≠ gb654)); clear BK654; clear HB; have BK654:=n0_; have HB:=n1_; have BK655:=n2_; have GW655:=n3_; have GE655:=n4_; have NB654_655:=n5_; have NB655_654:=n6_; clear n0_ n1_ n2_ n3_ n4_ n5_ n6_; clear hb hbox hg) | ((with_reducible refine gate_dst (N:=6) rfl ?_); refine boxE_ (N:=6) (cs:=#[.int .i64 0,.int .i64 0]) (t:=103) ?_; intro gb656 hg w32 hbox hb; have n0_:=Aside0.mk (bb_ BK654.out hb); have n1_:=Aside0.mk (bb_ BK655.out hb); have n2_:=Aside0.mk (below_step (bl2_ HB.out GE654.out GE655.out) hb); have n3_:=Aside0.mk (hbox); have n4_:=Aside0.mk ((bs2_ hg HB.out GE654.out GE655.out:w.heap.size ≤ gb656)); have n5_:=Aside0.mk ((bs2_ hg HB.out GE654.out GE655.out:w.heap.size ≤ gb656)); have n6_:=Aside0.mk ((nl_ hg BK654.out:gb654 ≠ gb656)); have n7_:=Aside0.mk ((ng_ hg BK654.out:gb656 ≠ gb654)); have n8_:=Aside0.mk ((nl_ hg BK655.out:gb655 ≠ gb656)); have n9_:=Aside0.mk ((ng_ hg BK655.out:gb656 ≠ gb655)); clear BK654; clear BK655; clear HB; have BK654:=n0_; have BK655:=n1_; have HB:=n2_; have BK656:=n3_; have GW656:=n4_; have GE656:=n5_; have NB654_656:=n6_; have NB656_654:=n7_; have NB655_656:=n8_; have NB656_655:=n9_; clear n0_ n1_ n2_ n3_ n4_ n5_ n6_ n7_ n8_ n9_; clear hb hbox hg))
    have n0_:=Aside0.mk (blk_drew BK654.out)
    have n1_:=Aside0.mk (blk_drew BK655.out)
    have n2_:=Aside0.mk (blk_drew BK656.out)
    have n3_:=Aside0.mk (below_drew1 HB.out)
    clear BK654
    clear BK655
    clear BK656
    clear HB
    have BK654:=n0_
    have BK655:=n1_
    have BK656:=n2_
    have HB:=n3_
    clear n0_ n1_ n2_ n3_
    refine start_ (n:=21) (S:=fun w' => w'.cell? ⟨gb655,0,none⟩ = some (.int .i64 a1_0) ∧ w'.cell? ⟨gb655,1,none⟩ = some (.int .i64 a1_1) ∧ w'.cell? ⟨gb654,0,none⟩ = some (.int .i64 a0_0) ∧ w'.cell? ⟨gb654,1,none⟩ = some (.int .i64 a0_1) ∧ w'.cell? ⟨gb654,2,none⟩ = some (.slice A0_2 l0_2.length c0_2) ∧ w'.cell? ⟨gb654,3,none⟩ = some (.slice A0_3 l0_3.length c0_3)) (ds:=[]) #[Ff,Ff,Ff,Ff,Ff,Ff,Ff,Ff,Ff,Ff,Ff,Ff,Ff,Ff,Ff,Ff,Ff,Ff,Ff,Ff,Ff] (by kernel_rfl) rfl rfl ⟨(blk_cell BK655.out 0).trans rfl,(blk_cell BK655.out 1).trans rfl,(blk_cell BK654.out 0).trans rfl,(blk_cell BK654.out 1).trans rfl,(blk_cell BK654.out 2).trans rfl,(blk_cell BK654.out 3).trans rfl⟩ (fun hHeld => ?_); refine with_tabW spec_liNext.tab5 spec_liNext.bits5 (fun HT_ HW_ => ?_)
    generalize w32.drew = w33 at BK654 BK655 BK656 HB hHeld ⊢
    refine pZ (i:=0) (N:=some 31) #[Tt,Ff,Ff,Ff,Ff,Ff,Ff,Ff,Ff,Ff,Ff,Ff,Ff,Ff,Ff,Ff,Ff,Ff,Ff,Ff,Ff] ?_
    refine pZ (i:=3) (N:=some 34) #[Tt,Ff,Ff,Tt,Ff,Ff,Ff,Ff,Ff,Ff,Ff,Ff,Ff,Ff,Ff,Ff,Ff,Ff,Ff,Ff,Ff] ?_
    refine pZ (i:=6) (N:=some 37) #[Tt,Ff,Ff,Tt,Ff,Ff,Tt,Ff,Ff,Ff,Ff,Ff,Ff,Ff,Ff,Ff,Ff,Ff,Ff,Ff,Ff] ?_
    refine pZ (i:=8) (N:=some 39) #[Tt,Ff,Ff,Tt,Ff,Ff,Tt,Ff,Tt,Ff,Ff,Ff,Ff,Ff,Ff,Ff,Ff,Ff,Ff,Ff,Ff] ?_
    refine tZ (i:=1) (N:=some 32) #[Tt,Tt,Ff,Tt,Ff,Ff,Tt,Ff,Tt,Ff,Ff,Ff,Ff,Ff,Ff,Ff,Ff,Ff,Ff,Ff,Ff] ?_
    refine pZ (i:=2) (N:=some 33) #[Tt,Tt,Tt,Tt,Ff,Ff,Tt,Ff,Tt,Ff,Ff,Ff,Ff,Ff,Ff,Ff,Ff,Ff,Ff,Ff,Ff] ?_
    refine tZ (i:=4) (N:=some 35) #[Tt,Tt,Tt,Tt,Tt,Ff,Tt,Ff,Tt,Ff,Ff,Ff,Ff,Ff,Ff,Ff,Ff,Ff,Ff,Ff,Ff] ?_
    refine pZ (i:=5) (N:=some 36) #[Tt,Tt,Tt,Tt,Tt,Tt,Tt,Ff,Tt,Ff,Ff,Ff,Ff,Ff,Ff,Ff,Ff,Ff,Ff,Ff,Ff] ?_
    refine tZ (i:=7) (N:=some 38) #[Tt,Tt,Tt,Tt,Tt,Tt,Tt,Tt,Tt,Ff,Ff,Ff,Ff,Ff,Ff,Ff,Ff,Ff,Ff,Ff,Ff] ?_
    refine tZ (i:=9) (N:=some 40) #[Tt,Tt,Tt,Tt,Tt,Tt,Tt,Tt,Tt,Tt,Ff,Ff,Ff,Ff,Ff,Ff,Ff,Ff,Ff,Ff,Ff] ?_
    refine pZ (i:=10) (N:=some 41) #[Tt,Tt,Tt,Tt,Tt,Tt,Tt,Tt,Tt,Tt,Tt,Ff,Ff,Ff,Ff,Ff,Ff,Ff,Ff,Ff,Ff] ?_
    refine pZ (i:=11) (N:=some 42) #[Tt,Tt,Tt,Tt,Tt,Tt,Tt,Tt,Tt,Tt,Tt,Tt,Ff,Ff,Ff,Ff,Ff,Ff,Ff,Ff,Ff] ?_
    refine pU (i:=12) (N:=some 43) #[Tt,Tt,Tt,Tt,Tt,Tt,Tt,Tt,Tt,Tt,Tt,Tt,Tt,Ff,Ff,Ff,Ff,Ff,Ff,Ff,Ff] ?_
    refine pU (i:=13) (N:=some 44) #[Tt,Tt,Tt,Tt,Tt,Tt,Tt,Tt,Tt,Tt,Tt,Tt,Tt,Tt,Ff,Ff,Ff,Ff,Ff,Ff,Ff] ?_
    refine pU (i:=14) (N:=some 45) #[Tt,Tt,Tt,Tt,Tt,Tt,Tt,Tt,Tt,Tt,Tt,Tt,Tt,Tt,Tt,Ff,Ff,Ff,Ff,Ff,Ff] ?_
    refine pU (i:=15) (N:=some 46) #[Tt,Tt,Tt,Tt,Tt,Tt,Tt,Tt,Tt,Tt,Tt,Tt,Tt,Tt,Tt,Tt,Ff,Ff,Ff,Ff,Ff] ?_
    refine pU (i:=16) (N:=some 47) #[Tt,Tt,Tt,Tt,Tt,Tt,Tt,Tt,Tt,Tt,Tt,Tt,Tt,Tt,Tt,Tt,Tt,Ff,Ff,Ff,Ff] ?_
    refine pU (i:=17) (N:=some 48) #[Tt,Tt,Tt,Tt,Tt,Tt,Tt,Tt,Tt,Tt,Tt,Tt,Tt,Tt,Tt,Tt,Tt,Tt,Ff,Ff,Ff] ?_
    refine pZ (i:=18) (N:=some 49) #[Tt,Tt,Tt,Tt,Tt,Tt,Tt,Tt,Tt,Tt,Tt,Tt,Tt,Tt,Tt,Tt,Tt,Tt,Tt,Ff,Ff] ?_
    refine one_ (i:=19) (N:=none) #[Tt,Tt,Tt,Tt,Tt,Tt,Tt,Tt,Tt,Tt,Tt,Tt,Tt,Tt,Tt,Tt,Tt,Tt,Tt,Tt,Ff] rfl rfl (one_of HT_.out (by kernel_rfl)) (by decide) (fun K hK => ?_)
    have hs34:w33.cell? ⟨gb656,0,none⟩ = some (.int .i64 0):=(blk_cell BK656.out 0).trans rfl
    have hfs34:=blk_frozen BK656.out 0
    have hns34_0:=NB654_656.out
    have hns34_1:=NB655_656.out
    have hms34_0:=NB656_654.out
    have hms34_1:=NB656_655.out
    have hs35:w33.cell? ⟨gb656,1,none⟩ = some (.int .i64 0):=(blk_cell BK656.out 1).trans rfl
    have hfs35:=blk_frozen BK656.out 1
    have hns35_0:=NB654_656.out
    have hns35_1:=NB655_656.out
    have hms35_0:=NB656_654.out
    have hms35_1:=NB656_655.out
    refine skip_ (w1:=?_) (by rfl) rfl ?_ ?_
    rotate_left
    ·go_simp
     rfl
    refine hK.out _ _ ⟨((cell_far (p:=⟨gb656,_,none⟩) NB655_656.out _).trans (((cell_far (p:=⟨gb656,_,none⟩) NB655_656.out _).trans (hHeld.1)))),((cell_far (p:=⟨gb656,_,none⟩) NB655_656.out _).trans (((cell_far (p:=⟨gb656,_,none⟩) NB655_656.out _).trans (hHeld.2.1)))),((cell_far (p:=⟨gb656,_,none⟩) NB654_656.out _).trans (((cell_far (p:=⟨gb656,_,none⟩) NB654_656.out _).trans (hHeld.2.2.1)))),((cell_far (p:=⟨gb656,_,none⟩) NB654_656.out _).trans (((cell_far (p:=⟨gb656,_,none⟩) NB654_656.out _).trans (hHeld.2.2.2.1)))),((cell_far (p:=⟨gb656,_,none⟩) NB654_656.out _).trans (((cell_far (p:=⟨gb656,_,none⟩) NB654_656.out _).trans (hHeld.2.2.2.2.1)))),((cell_far (p:=⟨gb656,_,none⟩) NB654_656.out _).trans (((cell_far (p:=⟨gb656,_,none⟩) NB654_656.out _).trans (hHeld.2.2.2.2.2))))⟩ (fun hHeld => ?_)
    clear hK K
    refine pZ (i:=20) (N:=some 7) #[Tt,Tt,Tt,Tt,Tt,Tt,Tt,Tt,Tt,Tt,Tt,Tt,Tt,Tt,Tt,Tt,Tt,Tt,Tt,Tt,Tt] ?_
    refine done_ (done_of HT_.out (by kernel_rfl)) ?_
    try go_wp2
    refine bodyPost_ret (results_ct rfl _ _ gb656 103 #[.int .i64 (wrap64 (a1_0 + 1)),.int .i64 a1_1] (0,0) _ rfl (by (with_reducible repeat (first | refine blk_drewN ?_ _ | refine blk_drew ?_ | refine blk_alloc ?_ _)); refine blk_put (cs:=#[.int .i64 (wrap64 (a1_0 + 1)),.int .i64 0]) ?_ 1 _ rfl; (with_reducible repeat (first | refine blk_drewN ?_ _ | refine blk_drew ?_ | refine blk_alloc ?_ _)); refine blk_put (cs:=#[.int .i64 0,.int .i64 0]) ?_ 0 _ rfl; (with_reducible repeat (first | refine blk_drewN ?_ _ | refine blk_drew ?_ | refine blk_alloc ?_ _)); exact BK656.out) Tryd.underlying103 rfl (by kernel_rfl)) rfl ?_
    exact ⟨er_,bl3_ HB.out GE654.out GE655.out GE656.out⟩
  ·rw [if_neg c20] at H
   have c20b0:(a2 == 1) = false:=beq_eq_false_iff_ne.mpr c20
   have c20b1:(a2 != 1) = true:=bne_iff_ne.mpr c20
   by_cases c36:a2 = 2
   ·rw [if_pos c36] at H
    have c36b0:(a2 == 2) = true:=beq_iff_eq.mpr c36
    have c36b1:(a2 != 2) = false:=bne_eq_false_iff_eq.mpr c36
    clear c36
    by_cases c37:a1_1 < a0_1
    ·rw [if_pos c37] at H
     have c37b0:decide (a1_1 < a0_1) = true:=decide_eq_true c37
     clear c37
     replace H:=Option.bind_eq_some_iff.mp H
     obtain ⟨t659,A380,H⟩:=H
     replace H:(some (a1_0,wrap64 (a1_1 + 1),t659)) = some (r1,r2,r3):=H
     have A38:=Aside0.mk A380
     clear A380
     simp only [Option.some.injEq,Prod.mk.injEq] at H
     obtain ⟨rfl,rfl,rfl⟩:=H
     go_enter Tryd.func104,Tryd.ntmps104
     try go_wp2_with (first | ((with_reducible refine gate_dst (N:=3) rfl ?_); refine boxE_ (N:=3) (cs:=#[.int .i64 a0_0,.int .i64 a0_1,.slice A0_2 l0_2.length c0_2,.slice A0_3 l0_3.length c0_3]) (t:=26) ?_; intro gb654 hg w39 hbox hb; have n0_:=Aside0.mk (below_step (bl0_ HB.out) hb); have n1_:=Aside0.mk (hbox); have n2_:=Aside0.mk ((bs0_ hg HB.out:w.heap.size ≤ gb654)); have n3_:=Aside0.mk ((bs0_ hg HB.out:w.heap.size ≤ gb654)); clear HB; have HB:=n0_; have BK654:=n1_; have GW654:=n2_; have GE654:=n3_; clear n0_ n1_ n2_ n3_; clear hb hbox hg) | ((with_reducible refine gate_dst (N:=4) rfl ?_); refine boxE_ (N:=4) (cs:=#[.int .i64 a1_0,.int .i64 a1_1]) (t:=103) ?_; intro gb655 hg w40 hbox hb; have n0_:=Aside0.mk (bb_ BK654.out hb); have n1_:=Aside0.mk (below_step (bl1_ HB.out GE654.out) hb); have n2_:=Aside0.mk (hbox); have n3_:=Aside0.mk ((bs1_ hg HB.out GE654.out:w.heap.size ≤ gb655)); have n4_:=Aside0.mk ((bs1_ hg HB.out GE654.out:w.heap.size ≤ gb655)); have n5_:=Aside0.mk ((nl_ hg BK654.out:gb654 ≠ gb655)); have n6_:=Aside0.mk ((ng_ hg BK654.out:gb655 ≠ gb654)); clear BK654; clear HB; have BK654:=n0_; have HB:=n1_; have BK655:=n2_; have GW655:=n3_; have GE655:=n4_; have NB654_655:=n5_; have NB655_654:=n6_; clear n0_ n1_ n2_ n3_ n4_ n5_ n6_; clear hb hbox hg) | ((with_reducible refine gate_dst (N:=6) rfl ?_); refine boxE_ (N:=6) (cs:=#[.int .i64 0,.int .i64 0]) (t:=103) ?_; intro gb656 hg w41 hbox hb; have n0_:=Aside0.mk (bb_ BK654.out hb); have n1_:=Aside0.mk (bb_ BK655.out hb); have n2_:=Aside0.mk (below_step (bl2_ HB.out GE654.out GE655.out) hb); have n3_:=Aside0.mk (hbox); have n4_:=Aside0.mk ((bs2_ hg HB.out GE654.out GE655.out:w.heap.size ≤ gb656)); have n5_:=Aside0.mk ((bs2_ hg HB.out GE654.out GE655.out:w.heap.size ≤ gb656)); have n6_:=Aside0.mk ((nl_ hg BK654.out:gb654 ≠ gb656)); have n7_:=Aside0.mk ((ng_ hg BK654.out:gb656 ≠ gb654)); have n8_:=Aside0.mk ((nl_ hg BK655.out:gb655 ≠ gb656)); have n9_:=Aside0.mk ((ng_ hg BK655.out:gb656 ≠ gb655)); clear BK654; clear BK655; clear HB; have BK654:=n0_; have BK655:=n1_; have HB:=n2_; have BK656:=n3_; have GW656:=n4_; have GE656:=n5_; have NB654_656:=n6_; have NB656_654:=n7_; have NB655_656:=n8_; have NB656_655:=n9_; clear n0_ n1_ n2_ n3_ n4_ n5_ n6_ n7_ n8_ n9_; clear hb hbox hg))
     have n0_:=Aside0.mk (blk_drew BK654.out)
     have n1_:=Aside0.mk (blk_drew BK655.out)
     have n2_:=Aside0.mk (blk_drew BK656.out)
     have n3_:=Aside0.mk (below_drew1 HB.out)
     clear BK654
     clear BK655
     clear BK656
     clear HB
     have BK654:=n0_
     have BK655:=n1_
     have BK656:=n2_
     have HB:=n3_
     clear n0_ n1_ n2_ n3_
     refine start_ (n:=21) (S:=fun w' => w'.cell? ⟨gb655,0,none⟩ = some (.int .i64 a1_0) ∧ w'.cell? ⟨gb655,1,none⟩ = some (.int .i64 a1_1) ∧ w'.cell? ⟨gb654,0,none⟩ = some (.int .i64 a0_0) ∧ w'.cell? ⟨gb654,1,none⟩ = some (.int .i64 a0_1) ∧ w'.cell? ⟨gb654,2,none⟩ = some (.slice A0_2 l0_2.length c0_2) ∧ w'.cell? ⟨gb654,3,none⟩ = some (.slice A0_3 l0_3.length c0_3)) (ds:=[]) #[Ff,Ff,Ff,Ff,Ff,Ff,Ff,Ff,Ff,Ff,Ff,Ff,Ff,Ff,Ff,Ff,Ff,Ff,Ff,Ff,Ff] (by kernel_rfl) rfl rfl ⟨(blk_cell BK655.out 0).trans rfl,(blk_cell BK655.out 1).trans rfl,(blk_cell BK654.out 0).trans rfl,(blk_cell BK654.out 1).trans rfl,(blk_cell BK654.out 2).trans rfl,(blk_cell BK654.out 3).trans rfl⟩ (fun hHeld => ?_); refine with_tabW spec_liNext.tab7 spec_liNext.bits7 (fun HT_ HW_ => ?_)
     generalize w41.drew = w42 at BK654 BK655 BK656 HB hHeld ⊢
     refine pZ (i:=0) (N:=some 52) #[Tt,Ff,Ff,Ff,Ff,Ff,Ff,Ff,Ff,Ff,Ff,Ff,Ff,Ff,Ff,Ff,Ff,Ff,Ff,Ff,Ff] ?_
     refine pZ (i:=2) (N:=some 54) #[Tt,Ff,Tt,Ff,Ff,Ff,Ff,Ff,Ff,Ff,Ff,Ff,Ff,Ff,Ff,Ff,Ff,Ff,Ff,Ff,Ff] ?_
     refine pZ (i:=6) (N:=some 58) #[Tt,Ff,Tt,Ff,Ff,Ff,Tt,Ff,Ff,Ff,Ff,Ff,Ff,Ff,Ff,Ff,Ff,Ff,Ff,Ff,Ff] ?_
     refine pZ (i:=8) (N:=some 60) #[Tt,Ff,Tt,Ff,Ff,Ff,Tt,Ff,Tt,Ff,Ff,Ff,Ff,Ff,Ff,Ff,Ff,Ff,Ff,Ff,Ff] ?_
     refine tZ (i:=1) (N:=some 53) #[Tt,Tt,Tt,Ff,Ff,Ff,Tt,Ff,Tt,Ff,Ff,Ff,Ff,Ff,Ff,Ff,Ff,Ff,Ff,Ff,Ff] ?_
     refine tZ (i:=3) (N:=some 55) #[Tt,Tt,Tt,Tt,Ff,Ff,Tt,Ff,Tt,Ff,Ff,Ff,Ff,Ff,Ff,Ff,Ff,Ff,Ff,Ff,Ff] ?_
     refine pZ (i:=4) (N:=some 56) #[Tt,Tt,Tt,Tt,Tt,Ff,Tt,Ff,Tt,Ff,Ff,Ff,Ff,Ff,Ff,Ff,Ff,Ff,Ff,Ff,Ff] ?_
     refine pZ (i:=5) (N:=some 57) #[Tt,Tt,Tt,Tt,Tt,Tt,Tt,Ff,Tt,Ff,Ff,Ff,Ff,Ff,Ff,Ff,Ff,Ff,Ff,Ff,Ff] ?_
     refine tZ (i:=7) (N:=some 59) #[Tt,Tt,Tt,Tt,Tt,Tt,Tt,Tt,Tt,Ff,Ff,Ff,Ff,Ff,Ff,Ff,Ff,Ff,Ff,Ff,Ff] ?_
     refine tZ (i:=9) (N:=some 61) #[Tt,Tt,Tt,Tt,Tt,Tt,Tt,Tt,Tt,Tt,Ff,Ff,Ff,Ff,Ff,Ff,Ff,Ff,Ff,Ff,Ff] ?_
     refine pZ (i:=10) (N:=some 62) #[Tt,Tt,Tt,Tt,Tt,Tt,Tt,Tt,Tt,Tt,Tt,Ff,Ff,Ff,Ff,Ff,Ff,Ff,Ff,Ff,Ff] ?_
     refine pZ (i:=11) (N:=some 63) #[Tt,Tt,Tt,Tt,Tt,Tt,Tt,Tt,Tt,Tt,Tt,Tt,Ff,Ff,Ff,Ff,Ff,Ff,Ff,Ff,Ff] ?_
     refine pZ (i:=13) (N:=some 65) #[Tt,Tt,Tt,Tt,Tt,Tt,Tt,Tt,Tt,Tt,Tt,Tt,Ff,Tt,Ff,Ff,Ff,Ff,Ff,Ff,Ff] ?_
     refine pZ (i:=15) (N:=some 67) #[Tt,Tt,Tt,Tt,Tt,Tt,Tt,Tt,Tt,Tt,Tt,Tt,Ff,Tt,Ff,Tt,Ff,Ff,Ff,Ff,Ff] ?_
     refine tZ (i:=12) (N:=some 64) #[Tt,Tt,Tt,Tt,Tt,Tt,Tt,Tt,Tt,Tt,Tt,Tt,Tt,Tt,Ff,Tt,Ff,Ff,Ff,Ff,Ff] ?_
     refine tZ (i:=14) (N:=some 66) #[Tt,Tt,Tt,Tt,Tt,Tt,Tt,Tt,Tt,Tt,Tt,Tt,Tt,Tt,Tt,Tt,Ff,Ff,Ff,Ff,Ff] ?_
     refine tZ (i:=16) (N:=some 68) #[Tt,Tt,Tt,Tt,Tt,Tt,Tt,Tt,Tt,Tt,Tt,Tt,Tt,Tt,Tt,Tt,Tt,Ff,Ff,Ff,Ff] ?_
     refine one_ (i:=17) (N:=some 69) #[Tt,Tt,Tt,Tt,Tt,Tt,Tt,Tt,Tt,Tt,Tt,Tt,Tt,Tt,Tt,Tt,Tt,Tt,Ff,Ff,Ff] rfl rfl (one_of HT_.out (by kernel_rfl)) (by decide) (fun K hK => ?_)
     refine goes_ Tryd.func52 (by kernel_rfl) rfl #[.agg #[.int .i64 a0_0,.int .i64 a0_1,.slice A0_2 l0_2.length c0_2,.slice A0_3 l0_3.length c0_3],.bool true,.int .i64 a1_0,.int .i64 a1_1] (by rfl) rfl rfl ob_ ?_
     with_reducible refine (spec_fiHas.calls k a0_0 a0_1 _ _ l0_2 _ _ l0_3 true a1_0 a1_1 t659 _ ?side1 ?side2 ?side3 ?side4 A38.out).mono ?_
     (case side1 => exact kc_ (Kd.C_below HR0_2.out HB.out))
     (case side2 => exact HC0_2.out)
     (case side3 => exact kc_ (Kd.C_below HR0_3.out HB.out))
     (case side4 => exact HC0_3.out)
     rintro e w43 ⟨rfl,hb⟩
     refine ⟨_,rfl,?_⟩
     have n0_:=Aside0.mk (bb_ BK654.out hb)
     have n1_:=Aside0.mk (bb_ BK655.out hb)
     have n2_:=Aside0.mk (bb_ BK656.out hb)
     have n3_:=Aside0.mk (below_step (bl3_ HB.out GE654.out GE655.out GE656.out) hb)
     clear BK654
     clear BK655
     clear BK656
     clear HB
     have BK654:=n0_
     have BK655:=n1_
     have BK656:=n2_
     have HB:=n3_
     clear n0_ n1_ n2_ n3_
     (try clear hb)
     (try clear hb2)
     (try clear hk)
     (try clear hi)
     refine hK.out _ _ ⟨(blk_cell BK655.out 0).trans rfl,(blk_cell BK655.out 1).trans rfl,(blk_cell BK654.out 0).trans rfl,(blk_cell BK654.out 1).trans rfl,(blk_cell BK654.out 2).trans rfl,(blk_cell BK654.out 3).trans rfl⟩ (fun hHeld => ?_)
     clear hK K
     refine norm_ (a':=_) ap_ ?_
     refine pZ (i:=18) (N:=some 70) #[Tt,Tt,Tt,Tt,Tt,Tt,Tt,Tt,Tt,Tt,Tt,Tt,Tt,Tt,Tt,Tt,Tt,Tt,Tt,Ff,Ff] ?_
     refine one_ (i:=19) (N:=none) #[Tt,Tt,Tt,Tt,Tt,Tt,Tt,Tt,Tt,Tt,Tt,Tt,Tt,Tt,Tt,Tt,Tt,Tt,Tt,Tt,Ff] rfl rfl (one_of HT_.out (by kernel_rfl)) (by decide) (fun K hK => ?_)
     have hs44:w43.cell? ⟨gb656,0,none⟩ = some (.int .i64 0):=(blk_cell BK656.out 0).trans rfl
     have hfs44:=blk_frozen BK656.out 0
     have hns44_0:=NB654_656.out
     have hns44_1:=NB655_656.out
     have hms44_0:=NB656_654.out
     have hms44_1:=NB656_655.out
     have hs45:w43.cell? ⟨gb656,1,none⟩ = some (.int .i64 0):=(blk_cell BK656.out 1).trans rfl
     have hfs45:=blk_frozen BK656.out 1
     have hns45_0:=NB654_656.out
     have hns45_1:=NB655_656.out
     have hms45_0:=NB656_654.out
     have hms45_1:=NB656_655.out
     refine skip_ (w1:=?_) (by rfl) rfl ?_ ?_
     rotate_left
     ·go_simp
      rfl
     refine hK.out _ _ ⟨((cell_far (p:=⟨gb656,_,none⟩) NB655_656.out _).trans (((cell_far (p:=⟨gb656,_,none⟩) NB655_656.out _).trans (hHeld.1)))),((cell_far (p:=⟨gb656,_,none⟩) NB655_656.out _).trans (((cell_far (p:=⟨gb656,_,none⟩) NB655_656.out _).trans (hHeld.2.1)))),((cell_far (p:=⟨gb656,_,none⟩) NB654_656.out _).trans (((cell_far (p:=⟨gb656,_,none⟩) NB654_656.out _).trans (hHeld.2.2.1)))),((cell_far (p:=⟨gb656,_,none⟩) NB654_656.out _).trans (((cell_far (p:=⟨gb656,_,none⟩) NB654_656.out _).trans (hHeld.2.2.2.1)))),((cell_far (p:=⟨gb656,_,none⟩) NB654_656.out _).trans (((cell_far (p:=⟨gb656,_,none⟩) NB654_656.out _).trans (hHeld.2.2.2.2.1)))),((cell_far (p:=⟨gb656,_,none⟩) NB654_656.out _).trans (((cell_far (p:=⟨gb656,_,none⟩) NB654_656.out _).trans (hHeld.2.2.2.2.2))))⟩ (fun hHeld => ?_)
     clear hK K
     refine pZ (i:=20) (N:=some 7) #[Tt,Tt,Tt,Tt,Tt,Tt,Tt,Tt,Tt,Tt,Tt,Tt,Tt,Tt,Tt,Tt,Tt,Tt,Tt,Tt,Tt] ?_
     refine done_ (done_of HT_.out (by kernel_rfl)) ?_
     try go_wp2
     refine bodyPost_ret (results_ct rfl _ _ gb656 103 #[.int .i64 a1_0,.int .i64 (wrap64 (a1_1 + 1))] (0,0) _ rfl (by (with_reducible repeat (first | refine blk_drewN ?_ _ | refine blk_drew ?_ | refine blk_alloc ?_ _)); refine blk_put (cs:=#[.int .i64 a1_0,.int .i64 0]) ?_ 1 _ rfl; (with_reducible repeat (first | refine blk_drewN ?_ _ | refine blk_drew ?_ | refine blk_alloc ?_ _)); refine blk_put (cs:=#[.int .i64 0,.int .i64 0]) ?_ 0 _ rfl; (with_reducible repeat (first | refine blk_drewN ?_ _ | refine blk_drew ?_ | refine blk_alloc ?_ _)); exact BK656.out) Tryd.underlying103 rfl (by kernel_rfl)) rfl ?_
     exact ⟨er_,bl3_ HB.out GE654.out GE655.out GE656.out⟩
    ·rw [if_neg c37] at H
     have c37b0:decide (a1_1 < a0_1) = false:=decide_eq_false c37
     clear c37
     simp only [Option.some.injEq,Prod.mk.injEq] at H
     obtain ⟨rfl,rfl,rfl⟩:=H
     go_enter Tryd.func104,Tryd.ntmps104
     try go_wp2_with (first | ((with_reducible refine gate_dst (N:=3) rfl ?_); refine boxE_ (N:=3) (cs:=#[.int .i64 a0_0,.int .i64 a0_1,.slice A0_2 l0_2.length c0_2,.slice A0_3 l0_3.length c0_3]) (t:=26) ?_; intro gb654 hg w46 hbox hb; have n0_:=Aside0.mk (below_step (bl0_ HB.out) hb); have n1_:=Aside0.mk (hbox); have n2_:=Aside0.mk ((bs0_ hg HB.out:w.heap.size ≤ gb654)); have n3_:=Aside0.mk ((bs0_ hg HB.out:w.heap.size ≤ gb654)); clear HB; have HB:=n0_; have BK654:=n1_; have GW654:=n2_; have GE654:=n3_; clear n0_ n1_ n2_ n3_; clear hb hbox hg) | ((with_reducible refine gate_dst (N:=4) rfl ?_); refine boxE_ (N:=4) (cs:=#[.int .i64 a1_0,.int .i64 a1_1]) (t:=103) ?_; intro gb655 hg w47 hbox hb; have n0_:=Aside0.mk (bb_ BK654.out hb); have n1_:=Aside0.mk (below_step (bl1_ HB.out GE654.out) hb); have n2_:=Aside0.mk (hbox); have n3_:=Aside0.mk ((bs1_ hg HB.out GE654.out:w.heap.size ≤ gb655)); have n4_:=Aside0.mk ((bs1_ hg HB.out GE654.out:w.heap.size ≤ gb655)); have n5_:=Aside0.mk ((nl_ hg BK654.out:gb654 ≠ gb655)); have n6_:=Aside0.mk ((ng_ hg BK654.out:gb655 ≠ gb654)); clear BK654; clear HB; have BK654:=n0_; have HB:=n1_; have BK655:=n2_; have GW655:=n3_; have GE655:=n4_; have NB654_655:=n5_; have NB655_654:=n6_; clear n0_ n1_ n2_ n3_ n4_ n5_ n6_; clear hb hbox hg) | ((with_reducible refine gate_dst (N:=6) rfl ?_); refine boxE_ (N:=6) (cs:=#[.int .i64 0,.int .i64 0]) (t:=103) ?_; intro gb656 hg w48 hbox hb; have n0_:=Aside0.mk (bb_ BK654.out hb); have n1_:=Aside0.mk (bb_ BK655.out hb); have n2_:=Aside0.mk (below_step (bl2_ HB.out GE654.out GE655.out) hb); have n3_:=Aside0.mk (hbox); have n4_:=Aside0.mk ((bs2_ hg HB.out GE654.out GE655.out:w.heap.size ≤ gb656)); have n5_:=Aside0.mk ((bs2_ hg HB.out GE654.out GE655.out:w.heap.size ≤ gb656)); have n6_:=Aside0.mk ((nl_ hg BK654.out:gb654 ≠ gb656)); have n7_:=Aside0.mk ((ng_ hg BK654.out:gb656 ≠ gb654)); have n8_:=Aside0.mk ((nl_ hg BK655.out:gb655 ≠ gb656)); have n9_:=Aside0.mk ((ng_ hg BK655.out:gb656 ≠ gb655)); clear BK654; clear BK655; clear HB; have BK654:=n0_; have BK655:=n1_; have HB:=n2_; have BK656:=n3_; have GW656:=n4_; have GE656:=n5_; have NB654_656:=n6_; have NB656_654:=n7_; have NB655_656:=n8_; have NB656_655:=n9_; clear n0_ n1_ n2_ n3_ n4_ n5_ n6_ n7_ n8_ n9_; clear hb hbox hg))
     have n0_:=Aside0.mk (blk_drew BK654.out)
     have n1_:=Aside0.mk (blk_drew BK655.out)
     have n2_:=Aside0.mk (blk_drew BK656.out)
     have n3_:=Aside0.mk (below_drew1 HB.out)
     clear BK654
     clear BK655
     clear BK656
     clear HB
     have BK654:=n0_
     have BK655:=n1_
     have BK656:=n2_
     have HB:=n3_
     clear n0_ n1_ n2_ n3_
     refine start_ (n:=21) (S:=fun w' => w'.cell? ⟨gb655,0,none⟩ = some (.int .i64 a1_0) ∧ w'.cell? ⟨gb655,1,none⟩ = some (.int .i64 a1_1) ∧ w'.cell? ⟨gb654,0,none⟩ = some (.int .i64 a0_0) ∧ w'.cell? ⟨gb654,1,none⟩ = some (.int .i64 a0_1) ∧ w'.cell? ⟨gb654,2,none⟩ = some (.slice A0_2 l0_2.length c0_2) ∧ w'.cell? ⟨gb654,3,none⟩ = some (.slice A0_3 l0_3.length c0_3)) (ds:=[]) #[Ff,Ff,Ff,Ff,Ff,Ff,Ff,Ff,Ff,Ff,Ff,Ff,Ff,Ff,Ff,Ff,Ff,Ff,Ff,Ff,Ff] (by kernel_rfl) rfl rfl ⟨(blk_cell BK655.out 0).trans rfl,(blk_cell BK655.out 1).trans rfl,(blk_cell BK654.out 0).trans rfl,(blk_cell BK654.out 1).trans rfl,(blk_cell BK654.out 2).trans rfl,(blk_cell BK654.out 3).trans rfl⟩ (fun hHeld => ?_); refine with_tabW spec_liNext.tab7 spec_liNext.bits7 (fun HT_ HW_ => ?_)
     generalize w48.drew = w49 at BK654 BK655 BK656 HB hHeld ⊢
     refine pZ (i:=0) (N:=some 52) #[Tt,Ff,Ff,Ff,Ff,Ff,Ff,Ff,Ff,Ff,Ff,Ff,Ff,Ff,Ff,Ff,Ff,Ff,Ff,Ff,Ff] ?_
     refine pZ (i:=2) (N:=some 54) #[Tt,Ff,Tt,Ff,Ff,Ff,Ff,Ff,Ff,Ff,Ff,Ff,Ff,Ff,Ff,Ff,Ff,Ff,Ff,Ff,Ff] ?_
     refine pZ (i:=6) (N:=some 58) #[Tt,Ff,Tt,Ff,Ff,Ff,Tt,Ff,Ff,Ff,Ff,Ff,Ff,Ff,Ff,Ff,Ff,Ff,Ff,Ff,Ff] ?_
     refine pZ (i:=8) (N:=some 60) #[Tt,Ff,Tt,Ff,Ff,Ff,Tt,Ff,Tt,Ff,Ff,Ff,Ff,Ff,Ff,Ff,Ff,Ff,Ff,Ff,Ff] ?_
     refine tZ (i:=1) (N:=some 53) #[Tt,Tt,Tt,Ff,Ff,Ff,Tt,Ff,Tt,Ff,Ff,Ff,Ff,Ff,Ff,Ff,Ff,Ff,Ff,Ff,Ff] ?_
     refine tZ (i:=3) (N:=some 55) #[Tt,Tt,Tt,Tt,Ff,Ff,Tt,Ff,Tt,Ff,Ff,Ff,Ff,Ff,Ff,Ff,Ff,Ff,Ff,Ff,Ff] ?_
     refine pZ (i:=4) (N:=some 56) #[Tt,Tt,Tt,Tt,Tt,Ff,Tt,Ff,Tt,Ff,Ff,Ff,Ff,Ff,Ff,Ff,Ff,Ff,Ff,Ff,Ff] ?_
     refine pZ (i:=5) (N:=some 57) #[Tt,Tt,Tt,Tt,Tt,Tt,Tt,Ff,Tt,Ff,Ff,Ff,Ff,Ff,Ff,Ff,Ff,Ff,Ff,Ff,Ff] ?_
     refine tZ (i:=7) (N:=some 59) #[Tt,Tt,Tt,Tt,Tt,Tt,Tt,Tt,Tt,Ff,Ff,Ff,Ff,Ff,Ff,Ff,Ff,Ff,Ff,Ff,Ff] ?_
     refine tZ (i:=9) (N:=some 61) #[Tt,Tt,Tt,Tt,Tt,Tt,Tt,Tt,Tt,Tt,Ff,Ff,Ff,Ff,Ff,Ff,Ff,Ff,Ff,Ff,Ff] ?_
     refine pZ (i:=10) (N:=some 62) #[Tt,Tt,Tt,Tt,Tt,Tt,Tt,Tt,Tt,Tt,Tt,Ff,Ff,Ff,Ff,Ff,Ff,Ff,Ff,Ff,Ff] ?_
     refine pZ (i:=11) (N:=some 63) #[Tt,Tt,Tt,Tt,Tt,Tt,Tt,Tt,Tt,Tt,Tt,Tt,Ff,Ff,Ff,Ff,Ff,Ff,Ff,Ff,Ff] ?_
     refine pU (i:=12) (N:=some 64) #[Tt,Tt,Tt,Tt,Tt,Tt,Tt,Tt,Tt,Tt,Tt,Tt,Tt,Ff,Ff,Ff,Ff,Ff,Ff,Ff,Ff] ?_
     refine pU (i:=13) (N:=some 65) #[Tt,Tt,Tt,Tt,Tt,Tt,Tt,Tt,Tt,Tt,Tt,Tt,Tt,Tt,Ff,Ff,Ff,Ff,Ff,Ff,Ff] ?_
     refine pU (i:=14) (N:=some 66) #[Tt,Tt,Tt,Tt,Tt,Tt,Tt,Tt,Tt,Tt,Tt,Tt,Tt,Tt,Tt,Ff,Ff,Ff,Ff,Ff,Ff] ?_
     refine pU (i:=15) (N:=some 67) #[Tt,Tt,Tt,Tt,Tt,Tt,Tt,Tt,Tt,Tt,Tt,Tt,Tt,Tt,Tt,Tt,Ff,Ff,Ff,Ff,Ff] ?_
     refine pU (i:=16) (N:=some 68) #[Tt,Tt,Tt,Tt,Tt,Tt,Tt,Tt,Tt,Tt,Tt,Tt,Tt,Tt,Tt,Tt,Tt,Ff,Ff,Ff,Ff] ?_
     refine pU (i:=17) (N:=some 69) #[Tt,Tt,Tt,Tt,Tt,Tt,Tt,Tt,Tt,Tt,Tt,Tt,Tt,Tt,Tt,Tt,Tt,Tt,Ff,Ff,Ff] ?_
     refine pZ (i:=18) (N:=some 70) #[Tt,Tt,Tt,Tt,Tt,Tt,Tt,Tt,Tt,Tt,Tt,Tt,Tt,Tt,Tt,Tt,Tt,Tt,Tt,Ff,Ff] ?_
     refine one_ (i:=19) (N:=none) #[Tt,Tt,Tt,Tt,Tt,Tt,Tt,Tt,Tt,Tt,Tt,Tt,Tt,Tt,Tt,Tt,Tt,Tt,Tt,Tt,Ff] rfl rfl (one_of HT_.out (by kernel_rfl)) (by decide) (fun K hK => ?_)
     have hs50:w49.cell? ⟨gb656,0,none⟩ = some (.int .i64 0):=(blk_cell BK656.out 0).trans rfl
     have hfs50:=blk_frozen BK656.out 0
     have hns50_0:=NB654_656.out
     have hns50_1:=NB655_656.out
     have hms50_0:=NB656_654.out
     have hms50_1:=NB656_655.out
     have hs51:w49.cell? ⟨gb656,1,none⟩ = some (.int .i64 0):=(blk_cell BK656.out 1).trans rfl
     have hfs51:=blk_frozen BK656.out 1
     have hns51_0:=NB654_656.out
     have hns51_1:=NB655_656.out
     have hms51_0:=NB656_654.out
     have hms51_1:=NB656_655.out
     refine skip_ (w1:=?_) (by rfl) rfl ?_ ?_
     rotate_left
     ·go_simp
      rfl
     refine hK.out _ _ ⟨((cell_far (p:=⟨gb656,_,none⟩) NB655_656.out _).trans (((cell_far (p:=⟨gb656,_,none⟩) NB655_656.out _).trans (hHeld.1)))),((cell_far (p:=⟨gb656,_,none⟩) NB655_656.out _).trans (((cell_far (p:=⟨gb656,_,none⟩) NB655_656.out _).trans (hHeld.2.1)))),((cell_far (p:=⟨gb656,_,none⟩) NB654_656.out _).trans (((cell_far (p:=⟨gb656,_,none⟩) NB654_656.out _).trans (hHeld.2.2.1)))),((cell_far (p:=⟨gb656,_,none⟩) NB654_656.out _).trans (((cell_far (p:=⟨gb656,_,none⟩) NB654_656.out _).trans (hHeld.2.2.2.1)))),((cell_far (p:=⟨gb656,_,none⟩) NB654_656.out _).trans (((cell_far (p:=⟨gb656,_,none⟩) NB654_656.out _).trans (hHeld.2.2.2.2.1)))),((cell_far (p:=⟨gb656,_,none⟩) NB654_656.out _).trans (((cell_far (p:=⟨gb656,_,none⟩) NB654_656.out _).trans (hHeld.2.2.2.2.2))))⟩ (fun hHeld => ?_)
     clear hK K
     refine pZ (i:=20) (N:=some 7) #[Tt,Tt,Tt,Tt,Tt,Tt,Tt,Tt,Tt,Tt,Tt,Tt,Tt,Tt,Tt,Tt,Tt,Tt,Tt,Tt,Tt] ?_
     refine done_ (done_of HT_.out (by kernel_rfl)) ?_
     try go_wp2
     refine bodyPost_ret (results_ct rfl _ _ gb656 103 #[.int .i64 a1_0,.int .i64 (wrap64 (a1_1 + 1))] (0,0) _ rfl (by (with_reducible repeat (first | refine blk_drewN ?_ _ | refine blk_drew ?_ | refine blk_alloc ?_ _)); refine blk_put (cs:=#[.int .i64 a1_0,.int .i64 0]) ?_ 1 _ rfl; (with_reducible repeat (first | refine blk_drewN ?_ _ | refine blk_drew ?_ | refine blk_alloc ?_ _)); refine blk_put (cs:=#[.int .i64 0,.int .i64 0]) ?_ 0 _ rfl; (with_reducible repeat (first | refine blk_drewN ?_ _ | refine blk_drew ?_ | refine blk_alloc ?_ _)); exact BK656.out) Tryd.underlying103 rfl (by kernel_rfl)) rfl ?_
     exact ⟨er_,bl3_ HB.out GE654.out GE655.out GE656.out⟩
   ·rw [if_neg c36] at H
    have c36b0:(a2 == 2) = false:=beq_eq_false_iff_ne.mpr c36
    have c36b1:(a2 != 2) = true:=bne_iff_ne.mpr c36
    by_cases c52:a1_0 > 0
    ·rw [if_pos c52] at H
     have c52b0:decide (0 < a1_0) = true:=decide_eq_true c52
     clear c52
     replace H:=Option.bind_eq_some_iff.mp H
     obtain ⟨t660,A530,H⟩:=H
     replace H:(some (wrap64 (a1_0 - 1),a1_1,t660)) = some (r1,r2,r3):=H
     have A53:=Aside0.mk A530
     clear A530
     simp only [Option.some.injEq,Prod.mk.injEq] at H
     obtain ⟨rfl,rfl,rfl⟩:=H
     go_enter Tryd.func104,Tryd.ntmps104
     try go_wp2_with (first | ((with_reducible refine gate_dst (N:=3) rfl ?_); refine boxE_ (N:=3) (cs:=#[.int .i64 a0_0,.int .i64 a0_1,.slice A0_2 l0_2.length c0_2,.slice A0_3 l0_3.length c0_3]) (t:=26) ?_; intro gb654 hg w54 hbox hb; have n0_:=Aside0.mk (below_step (bl0_ HB.out) hb); have n1_:=Aside0.mk (hbox); have n2_:=Aside0.mk ((bs0_ hg HB.out:w.heap.size ≤ gb654)); have n3_:=Aside0.mk ((bs0_ hg HB.out:w.heap.size ≤ gb654)); clear HB; have HB:=n0_; have BK654:=n1_; have GW654:=n2_; have GE654:=n3_; clear n0_ n1_ n2_ n3_; clear hb hbox hg) | ((with_reducible refine gate_dst (N:=4) rfl ?_); refine boxE_ (N:=4) (cs:=#[.int .i64 a1_0,.int .i64 a1_1]) (t:=103) ?_; intro gb655 hg w55 hbox hb; have n0_:=Aside0.mk (bb_ BK654.out hb); have n1_:=Aside0.mk (below_step (bl1_ HB.out GE654.out) hb); have n2_:=Aside0.mk (hbox); have n3_:=Aside0.mk ((bs1_ hg HB.out GE654.out:w.heap.size ≤ gb655)); have n4_:=Aside0.mk ((bs1_ hg HB.out GE654.out:w.heap.size ≤ gb655)); have n5_:=Aside0.mk ((nl_ hg BK654.out:gb654 ≠ gb655)); have n6_:=Aside0.mk ((ng_ hg BK654.out:gb655 ≠ gb654)); clear BK654; clear HB; have BK654:=n0_; have HB:=n1_; have BK655:=n2_; have GW655:=n3_; have GE655:=n4_; have NB654_655:=n5_; have NB655_654:=n6_; clear n0_ n1_ n2_ n3_ n4_ n5_ n6_; clear hb hbox hg) | ((with_reducible refine gate_dst (N:=6) rfl ?_); refine boxE_ (N:=6) (cs:=#[.int .i64 0,.int .i64 0]) (t:=103) ?_; intro gb656 hg w56 hbox hb; have n0_:=Aside0.mk (bb_ BK654.out hb); have n1_:=Aside0.mk (bb_ BK655.out hb); have n2_:=Aside0.mk (below_step (bl2_ HB.out GE654.out GE655.out) hb); have n3_:=Aside0.mk (hbox); have n4_:=Aside0.mk ((bs2_ hg HB.out GE654.out GE655.out:w.heap.size ≤ gb656)); have n5_:=Aside0.mk ((bs2_ hg HB.out GE654.out GE655.out:w.heap.size ≤ gb656)); have n6_:=Aside0.mk ((nl_ hg BK654.out:gb654 ≠ gb656)); have n7_:=Aside0.mk ((ng_ hg BK654.out:gb656 ≠ gb654)); have n8_:=Aside0.mk ((nl_ hg BK655.out:gb655 ≠ gb656)); have n9_:=Aside0.mk ((ng_ hg BK655.out:gb656 ≠ gb655)); clear BK654; clear BK655; clear HB; have BK654:=n0_; have BK655:=n1_; have HB:=n2_; have BK656:=n3_; have GW656:=n4_; have GE656:=n5_; have NB654_656:=n6_; have NB656_654:=n7_; have NB655_656:=n8_; have NB656_655:=n9_; clear n0_ n1_ n2_ n3_ n4_ n5_ n6_ n7_ n8_ n9_; clear hb hbox hg))
     have n0_:=Aside0.mk (blk_drew BK654.out)
     have n1_:=Aside0.mk (blk_drew BK655.out)
     have n2_:=Aside0.mk (blk_drew BK656.out)
     have n3_:=Aside0.mk (below_drew1 HB.out)
     clear BK654
     clear BK655
     clear BK656
     clear HB
     have BK654:=n0_
     have BK655:=n1_
     have BK656:=n2_
     have HB:=n3_
     clear n0_ n1_ n2_ n3_
     refine start_ (n:=20) (S:=fun w' => w'.cell? ⟨gb655,0,none⟩ = some (.int .i64 a1_0) ∧ w'.cell? ⟨gb655,1,none⟩ = some (.int .i64 a1_1) ∧ w'.cell? ⟨gb654,0,none⟩ = some (.int .i64 a0_0) ∧ w'.cell? ⟨gb654,1,none⟩ = some (.int .i64 a0_1) ∧ w'.cell? ⟨gb654,2,none⟩ = some (.slice A0_2 l0_2.length c0_2) ∧ w'.cell? ⟨gb654,3,none⟩ = some (.slice A0_3 l0_3.length c0_3)) (ds:=[]) #[Ff,Ff,Ff,Ff,Ff,Ff,Ff,Ff,Ff,Ff,Ff,Ff,Ff,Ff,Ff,Ff,Ff,Ff,Ff,Ff] (by kernel_rfl) rfl rfl ⟨(blk_cell BK655.out 0).trans rfl,(blk_cell BK655.out 1).trans rfl,(blk_cell BK654.out 0).trans rfl,(blk_cell BK654.out 1).trans rfl,(blk_cell BK654.out 2).trans rfl,(blk_cell BK654.out 3).trans rfl⟩ (fun hHeld => ?_); refine with_tabW spec_liNext.tab8 spec_liNext.bits8 (fun HT_ HW_ => ?_)
     generalize w56.drew = w57 at BK654 BK655 BK656 HB hHeld ⊢
     refine pZ (i:=0) (N:=some 71) #[Tt,Ff,Ff,Ff,Ff,Ff,Ff,Ff,Ff,Ff,Ff,Ff,Ff,Ff,Ff,Ff,Ff,Ff,Ff,Ff] ?_
     refine pZ (i:=3) (N:=some 74) #[Tt,Ff,Ff,Tt,Ff,Ff,Ff,Ff,Ff,Ff,Ff,Ff,Ff,Ff,Ff,Ff,Ff,Ff,Ff,Ff] ?_
     refine pZ (i:=6) (N:=some 77) #[Tt,Ff,Ff,Tt,Ff,Ff,Tt,Ff,Ff,Ff,Ff,Ff,Ff,Ff,Ff,Ff,Ff,Ff,Ff,Ff] ?_
     refine tZ (i:=1) (N:=some 72) #[Tt,Tt,Ff,Tt,Ff,Ff,Tt,Ff,Ff,Ff,Ff,Ff,Ff,Ff,Ff,Ff,Ff,Ff,Ff,Ff] ?_
     refine pZ (i:=2) (N:=some 73) #[Tt,Tt,Tt,Tt,Ff,Ff,Tt,Ff,Ff,Ff,Ff,Ff,Ff,Ff,Ff,Ff,Ff,Ff,Ff,Ff] ?_
     refine tZ (i:=4) (N:=some 75) #[Tt,Tt,Tt,Tt,Tt,Ff,Tt,Ff,Ff,Ff,Ff,Ff,Ff,Ff,Ff,Ff,Ff,Ff,Ff,Ff] ?_
     refine pZ (i:=5) (N:=some 76) #[Tt,Tt,Tt,Tt,Tt,Tt,Tt,Ff,Ff,Ff,Ff,Ff,Ff,Ff,Ff,Ff,Ff,Ff,Ff,Ff] ?_
     refine tZ (i:=7) (N:=some 78) #[Tt,Tt,Tt,Tt,Tt,Tt,Tt,Tt,Ff,Ff,Ff,Ff,Ff,Ff,Ff,Ff,Ff,Ff,Ff,Ff] ?_
     refine pZ (i:=8) (N:=some 79) #[Tt,Tt,Tt,Tt,Tt,Tt,Tt,Tt,Tt,Ff,Ff,Ff,Ff,Ff,Ff,Ff,Ff,Ff,Ff,Ff] ?_
     refine pZ (i:=9) (N:=some 80) #[Tt,Tt,Tt,Tt,Tt,Tt,Tt,Tt,Tt,Tt,Ff,Ff,Ff,Ff,Ff,Ff,Ff,Ff,Ff,Ff] ?_
     refine pZ (i:=11) (N:=some 82) #[Tt,Tt,Tt,Tt,Tt,Tt,Tt,Tt,Tt,Tt,Ff,Tt,Ff,Ff,Ff,Ff,Ff,Ff,Ff,Ff] ?_
     refine pZ (i:=14) (N:=some 85) #[Tt,Tt,Tt,Tt,Tt,Tt,Tt,Tt,Tt,Tt,Ff,Tt,Ff,Ff,Tt,Ff,Ff,Ff,Ff,Ff] ?_
     refine tZ (i:=10) (N:=some 81) #[Tt,Tt,Tt,Tt,Tt,Tt,Tt,Tt,Tt,Tt,Tt,Tt,Ff,Ff,Tt,Ff,Ff,Ff,Ff,Ff] ?_
     refine tZ (i:=12) (N:=some 83) #[Tt,Tt,Tt,Tt,Tt,Tt,Tt,Tt,Tt,Tt,Tt,Tt,Tt,Ff,Tt,Ff,Ff,Ff,Ff,Ff] ?_
     refine pZ (i:=13) (N:=some 84) #[Tt,Tt,Tt,Tt,Tt,Tt,Tt,Tt,Tt,Tt,Tt,Tt,Tt,Tt,Tt,Ff,Ff,Ff,Ff,Ff] ?_
     refine tZ (i:=15) (N:=some 86) #[Tt,Tt,Tt,Tt,Tt,Tt,Tt,Tt,Tt,Tt,Tt,Tt,Tt,Tt,Tt,Tt,Ff,Ff,Ff,Ff] ?_
     refine one_ (i:=16) (N:=some 87) #[Tt,Tt,Tt,Tt,Tt,Tt,Tt,Tt,Tt,Tt,Tt,Tt,Tt,Tt,Tt,Tt,Tt,Ff,Ff,Ff] rfl rfl (one_of HT_.out (by kernel_rfl)) (by decide) (fun K hK => ?_)
     refine goes_ Tryd.func52 (by kernel_rfl) rfl #[.agg #[.int .i64 a0_0,.int .i64 a0_1,.slice A0_2 l0_2.length c0_2,.slice A0_3 l0_3.length c0_3],.bool false,.int .i64 (wrap64 (a1_0 - 1)),.int .i64 a1_1] (by rfl) rfl rfl ob_ ?_
     with_reducible refine (spec_fiHas.calls k a0_0 a0_1 _ _ l0_2 _ _ l0_3 false (wrap64 (a1_0 - 1)) a1_1 t660 _ ?side1 ?side2 ?side3 ?side4 A53.out).mono ?_
     (case side1 => exact kc_ (Kd.C_below HR0_2.out HB.out))
     (case side2 => exact HC0_2.out)
     (case side3 => exact kc_ (Kd.C_below HR0_3.out HB.out))
     (case side4 => exact HC0_3.out)
     rintro e w58 ⟨rfl,hb⟩
     refine ⟨_,rfl,?_⟩
     have n0_:=Aside0.mk (bb_ BK654.out hb)
     have n1_:=Aside0.mk (bb_ BK655.out hb)
     have n2_:=Aside0.mk (bb_ BK656.out hb)
     have n3_:=Aside0.mk (below_step (bl3_ HB.out GE654.out GE655.out GE656.out) hb)
     clear BK654
     clear BK655
     clear BK656
     clear HB
     have BK654:=n0_
     have BK655:=n1_
     have BK656:=n2_
     have HB:=n3_
     clear n0_ n1_ n2_ n3_
     (try clear hb)
     (try clear hb2)
     (try clear hk)
     (try clear hi)
     refine hK.out _ _ ⟨(blk_cell BK655.out 0).trans rfl,(blk_cell BK655.out 1).trans rfl,(blk_cell BK654.out 0).trans rfl,(blk_cell BK654.out 1).trans rfl,(blk_cell BK654.out 2).trans rfl,(blk_cell BK654.out 3).trans rfl⟩ (fun hHeld => ?_)
     clear hK K
     refine norm_ (a':=_) ap_ ?_
     refine pZ (i:=17) (N:=some 88) #[Tt,Tt,Tt,Tt,Tt,Tt,Tt,Tt,Tt,Tt,Tt,Tt,Tt,Tt,Tt,Tt,Tt,Tt,Ff,Ff] ?_
     refine one_ (i:=18) (N:=none) #[Tt,Tt,Tt,Tt,Tt,Tt,Tt,Tt,Tt,Tt,Tt,Tt,Tt,Tt,Tt,Tt,Tt,Tt,Tt,Ff] rfl rfl (one_of HT_.out (by kernel_rfl)) (by decide) (fun K hK => ?_)
     have hs59:w58.cell? ⟨gb656,0,none⟩ = some (.int .i64 0):=(blk_cell BK656.out 0).trans rfl
     have hfs59:=blk_frozen BK656.out 0
     have hns59_0:=NB654_656.out
     have hns59_1:=NB655_656.out
     have hms59_0:=NB656_654.out
     have hms59_1:=NB656_655.out
     have hs60:w58.cell? ⟨gb656,1,none⟩ = some (.int .i64 0):=(blk_cell BK656.out 1).trans rfl
     have hfs60:=blk_frozen BK656.out 1
     have hns60_0:=NB654_656.out
     have hns60_1:=NB655_656.out
     have hms60_0:=NB656_654.out
     have hms60_1:=NB656_655.out
     refine skip_ (w1:=?_) (by rfl) rfl ?_ ?_
     rotate_left
     ·go_simp
      rfl
     refine hK.out _ _ ⟨((cell_far (p:=⟨gb656,_,none⟩) NB655_656.out _).trans (((cell_far (p:=⟨gb656,_,none⟩) NB655_656.out _).trans (hHeld.1)))),((cell_far (p:=⟨gb656,_,none⟩) NB655_656.out _).trans (((cell_far (p:=⟨gb656,_,none⟩) NB655_656.out _).trans (hHeld.2.1)))),((cell_far (p:=⟨gb656,_,none⟩) NB654_656.out _).trans (((cell_far (p:=⟨gb656,_,none⟩) NB654_656.out _).trans (hHeld.2.2.1)))),((cell_far (p:=⟨gb656,_,none⟩) NB654_656.out _).trans (((cell_far (p:=⟨gb656,_,none⟩) NB654_656.out _).trans (hHeld.2.2.2.1)))),((cell_far (p:=⟨gb656,_,none⟩) NB654_656.out _).trans (((cell_far (p:=⟨gb656,_,none⟩) NB654_656.out _).trans (hHeld.2.2.2.2.1)))),((cell_far (p:=⟨gb656,_,none⟩) NB654_656.out _).trans (((cell_far (p:=⟨gb656,_,none⟩) NB654_656.out _).trans (hHeld.2.2.2.2.2))))⟩ (fun hHeld => ?_)
     clear hK K
     refine pZ (i:=19) (N:=some 7) #[Tt,Tt,Tt,Tt,Tt,Tt,Tt,Tt,Tt,Tt,Tt,Tt,Tt,Tt,Tt,Tt,Tt,Tt,Tt,Tt] ?_
     refine done_ (done_of HT_.out (by kernel_rfl)) ?_
     try go_wp2
     refine bodyPost_ret (results_ct rfl _ _ gb656 103 #[.int .i64 (wrap64 (a1_0 - 1)),.int .i64 a1_1] (0,0) _ rfl (by (with_reducible repeat (first | refine blk_drewN ?_ _ | refine blk_drew ?_ | refine blk_alloc ?_ _)); refine blk_put (cs:=#[.int .i64 (wrap64 (a1_0 - 1)),.int .i64 0]) ?_ 1 _ rfl; (with_reducible repeat (first | refine blk_drewN ?_ _ | refine blk_drew ?_ | refine blk_alloc ?_ _)); refine blk_put (cs:=#[.int .i64 0,.int .i64 0]) ?_ 0 _ rfl; (with_reducible repeat (first | refine blk_drewN ?_ _ | refine blk_drew ?_ | refine blk_alloc ?_ _)); exact BK656.out) Tryd.underlying103 rfl (by kernel_rfl)) rfl ?_
     exact ⟨er_,bl3_ HB.out GE654.out GE655.out GE656.out⟩
    ·rw [if_neg c52] at H
     have c52b0:decide (0 < a1_0) = false:=decide_eq_false c52
     clear c52
     simp only [Option.some.injEq,Prod.mk.injEq] at H
     obtain ⟨rfl,rfl,rfl⟩:=H
     go_enter Tryd.func104,Tryd.ntmps104
     try go_wp2_with (first | ((with_reducible refine gate_dst (N:=3) rfl ?_); refine boxE_ (N:=3) (cs:=#[.int .i64 a0_0,.int .i64 a0_1,.slice A0_2 l0_2.length c0_2,.slice A0_3 l0_3.length c0_3]) (t:=26) ?_; intro gb654 hg w61 hbox hb; have n0_:=Aside0.mk (below_step (bl0_ HB.out) hb); have n1_:=Aside0.mk (hbox); have n2_:=Aside0.mk ((bs0_ hg HB.out:w.heap.size ≤ gb654)); have n3_:=Aside0.mk ((bs0_ hg HB.out:w.heap.size ≤ gb654)); clear HB; have HB:=n0_; have BK654:=n1_; have GW654:=n2_; have GE654:=n3_; clear n0_ n1_ n2_ n3_; clear hb hbox hg) | ((with_reducible refine gate_dst (N:=4) rfl ?_); refine boxE_ (N:=4) (cs:=#[.int .i64 a1_0,.int .i64 a1_1]) (t:=103) ?_; intro gb655 hg w62 hbox hb; have n0_:=Aside0.mk (bb_ BK654.out hb); have n1_:=Aside0.mk (below_step (bl1_ HB.out GE654.out) hb); have n2_:=Aside0.mk (hbox); have n3_:=Aside0.mk ((bs1_ hg HB.out GE654.out:w.heap.size ≤ gb655)); have n4_:=Aside0.mk ((bs1_ hg HB.out GE654.out:w.heap.size ≤ gb655)); have n5_:=Aside0.mk ((nl_ hg BK654.out:gb654 ≠ gb655)); have n6_:=Aside0.mk ((ng_ hg BK654.out:gb655 ≠ gb654)); clear BK654; clear HB; have BK654:=n0_; have HB:=n1_; have BK655:=n2_; have GW655:=n3_; have GE655:=n4_; have NB654_655:=n5_; have NB655_654:=n6_; clear n0_ n1_ n2_ n3_ n4_ n5_ n6_; clear hb hbox hg) | ((with_reducible refine gate_dst (N:=6) rfl ?_); refine boxE_ (N:=6) (cs:=#[.int .i64 0,.int .i64 0]) (t:=103) ?_; intro gb656 hg w63 hbox hb; have n0_:=Aside0.mk (bb_ BK654.out hb); have n1_:=Aside0.mk (bb_ BK655.out hb); have n2_:=Aside0.mk (below_step (bl2_ HB.out GE654.out GE655.out) hb); have n3_:=Aside0.mk (hbox); have n4_:=Aside0.mk ((bs2_ hg HB.out GE654.out GE655.out:w.heap.size ≤ gb656)); have n5_:=Aside0.mk ((bs2_ hg HB.out GE654.out GE655.out:w.heap.size ≤ gb656)); have n6_:=Aside0.mk ((nl_ hg BK654.out:gb654 ≠ gb656)); have n7_:=Aside0.mk ((ng_ hg BK654.out:gb656 ≠ gb654)); have n8_:=Aside0.mk ((nl_ hg BK655.out:gb655 ≠ gb656)); have n9_:=Aside0.mk ((ng_ hg BK655.out:gb656 ≠ gb655)); clear BK654; clear BK655; clear HB; have BK654:=n0_; have BK655:=n1_; have HB:=n2_; have BK656:=n3_; have GW656:=n4_; have GE656:=n5_; have NB654_656:=n6_; have NB656_654:=n7_; have NB655_656:=n8_; have NB656_655:=n9_; clear n0_ n1_ n2_ n3_ n4_ n5_ n6_ n7_ n8_ n9_; clear hb hbox hg))
     have n0_:=Aside0.mk (blk_drew BK654.out)
     have n1_:=Aside0.mk (blk_drew BK655.out)
     have n2_:=Aside0.mk (blk_drew BK656.out)
     have n3_:=Aside0.mk (below_drew1 HB.out)
     clear BK654
     clear BK655
     clear BK656
     clear HB
     have BK654:=n0_
     have BK655:=n1_
     have BK656:=n2_
     have HB:=n3_
     clear n0_ n1_ n2_ n3_
     refine start_ (n:=20) (S:=fun w' => w'.cell? ⟨gb655,0,none⟩ = some (.int .i64 a1_0) ∧ w'.cell? ⟨gb655,1,none⟩ = some (.int .i64 a1_1)) (ds:=[]) #[Ff,Ff,Ff,Ff,Ff,Ff,Ff,Ff,Ff,Ff,Ff,Ff,Ff,Ff,Ff,Ff,Ff,Ff,Ff,Ff] (by kernel_rfl) rfl rfl ⟨(blk_cell BK655.out 0).trans rfl,(blk_cell BK655.out 1).trans rfl⟩ (fun hHeld => ?_); refine with_tabW spec_liNext.tab8 spec_liNext.bits8 (fun HT_ HW_ => ?_)
     generalize w63.drew = w64 at BK654 BK655 BK656 HB hHeld ⊢
     refine pZ (i:=0) (N:=some 71) #[Tt,Ff,Ff,Ff,Ff,Ff,Ff,Ff,Ff,Ff,Ff,Ff,Ff,Ff,Ff,Ff,Ff,Ff,Ff,Ff] ?_
     refine pZ (i:=3) (N:=some 74) #[Tt,Ff,Ff,Tt,Ff,Ff,Ff,Ff,Ff,Ff,Ff,Ff,Ff,Ff,Ff,Ff,Ff,Ff,Ff,Ff] ?_
     refine pZ (i:=6) (N:=some 77) #[Tt,Ff,Ff,Tt,Ff,Ff,Tt,Ff,Ff,Ff,Ff,Ff,Ff,Ff,Ff,Ff,Ff,Ff,Ff,Ff] ?_
     refine tZ (i:=1) (N:=some 72) #[Tt,Tt,Ff,Tt,Ff,Ff,Tt,Ff,Ff,Ff,Ff,Ff,Ff,Ff,Ff,Ff,Ff,Ff,Ff,Ff] ?_
     refine pZ (i:=2) (N:=some 73) #[Tt,Tt,Tt,Tt,Ff,Ff,Tt,Ff,Ff,Ff,Ff,Ff,Ff,Ff,Ff,Ff,Ff,Ff,Ff,Ff] ?_
     refine tZ (i:=4) (N:=some 75) #[Tt,Tt,Tt,Tt,Tt,Ff,Tt,Ff,Ff,Ff,Ff,Ff,Ff,Ff,Ff,Ff,Ff,Ff,Ff,Ff] ?_
     refine pZ (i:=5) (N:=some 76) #[Tt,Tt,Tt,Tt,Tt,Tt,Tt,Ff,Ff,Ff,Ff,Ff,Ff,Ff,Ff,Ff,Ff,Ff,Ff,Ff] ?_
     refine tZ (i:=7) (N:=some 78) #[Tt,Tt,Tt,Tt,Tt,Tt,Tt,Tt,Ff,Ff,Ff,Ff,Ff,Ff,Ff,Ff,Ff,Ff,Ff,Ff] ?_
     refine pZ (i:=8) (N:=some 79) #[Tt,Tt,Tt,Tt,Tt,Tt,Tt,Tt,Tt,Ff,Ff,Ff,Ff,Ff,Ff,Ff,Ff,Ff,Ff,Ff] ?_
     refine pZ (i:=9) (N:=some 80) #[Tt,Tt,Tt,Tt,Tt,Tt,Tt,Tt,Tt,Tt,Ff,Ff,Ff,Ff,Ff,Ff,Ff,Ff,Ff,Ff] ?_
     refine pU (i:=10) (N:=some 81) #[Tt,Tt,Tt,Tt,Tt,Tt,Tt,Tt,Tt,Tt,Tt,Ff,Ff,Ff,Ff,Ff,Ff,Ff,Ff,Ff] ?_
     refine pU (i:=11) (N:=some 82) #[Tt,Tt,Tt,Tt,Tt,Tt,Tt,Tt,Tt,Tt,Tt,Tt,Ff,Ff,Ff,Ff,Ff,Ff,Ff,Ff] ?_
     refine pU (i:=12) (N:=some 83) #[Tt,Tt,Tt,Tt,Tt,Tt,Tt,Tt,Tt,Tt,Tt,Tt,Tt,Ff,Ff,Ff,Ff,Ff,Ff,Ff] ?_
     refine pU (i:=13) (N:=some 84) #[Tt,Tt,Tt,Tt,Tt,Tt,Tt,Tt,Tt,Tt,Tt,Tt,Tt,Tt,Ff,Ff,Ff,Ff,Ff,Ff] ?_
     refine pU (i:=14) (N:=some 85) #[Tt,Tt,Tt,Tt,Tt,Tt,Tt,Tt,Tt,Tt,Tt,Tt,Tt,Tt,Tt,Ff,Ff,Ff,Ff,Ff] ?_
     refine pU (i:=15) (N:=some 86) #[Tt,Tt,Tt,Tt,Tt,Tt,Tt,Tt,Tt,Tt,Tt,Tt,Tt,Tt,Tt,Tt,Ff,Ff,Ff,Ff] ?_
     refine pU (i:=16) (N:=some 87) #[Tt,Tt,Tt,Tt,Tt,Tt,Tt,Tt,Tt,Tt,Tt,Tt,Tt,Tt,Tt,Tt,Tt,Ff,Ff,Ff] ?_
     refine pZ (i:=17) (N:=some 88) #[Tt,Tt,Tt,Tt,Tt,Tt,Tt,Tt,Tt,Tt,Tt,Tt,Tt,Tt,Tt,Tt,Tt,Tt,Ff,Ff] ?_
     refine one_ (i:=18) (N:=none) #[Tt,Tt,Tt,Tt,Tt,Tt,Tt,Tt,Tt,Tt,Tt,Tt,Tt,Tt,Tt,Tt,Tt,Tt,Tt,Ff] rfl rfl (one_of HT_.out (by kernel_rfl)) (by decide) (fun K hK => ?_)
     have hs65:w64.cell? ⟨gb656,0,none⟩ = some (.int .i64 0):=(blk_cell BK656.out 0).trans rfl
     have hfs65:=blk_frozen BK656.out 0
     have hns65_0:=NB654_656.out
     have hns65_1:=NB655_656.out
     have hms65_0:=NB656_654.out
     have hms65_1:=NB656_655.out
     have hs66:w64.cell? ⟨gb656,1,none⟩ = some (.int .i64 0):=(blk_cell BK656.out 1).trans rfl
     have hfs66:=blk_frozen BK656.out 1
     have hns66_0:=NB654_656.out
     have hns66_1:=NB655_656.out
     have hms66_0:=NB656_654.out
     have hms66_1:=NB656_655.out
     refine skip_ (w1:=?_) (by rfl) rfl ?_ ?_
     rotate_left
     ·go_simp
      rfl
     refine hK.out _ _ ⟨((cell_far (p:=⟨gb656,_,none⟩) NB655_656.out _).trans (((cell_far (p:=⟨gb656,_,none⟩) NB655_656.out _).trans (hHeld.1)))),((cell_far (p:=⟨gb656,_,none⟩) NB655_656.out _).trans (((cell_far (p:=⟨gb656,_,none⟩) NB655_656.out _).trans (hHeld.2))))⟩ (fun hHeld => ?_)
     clear hK K
     refine pZ (i:=19) (N:=some 7) #[Tt,Tt,Tt,Tt,Tt,Tt,Tt,Tt,Tt,Tt,Tt,Tt,Tt,Tt,Tt,Tt,Tt,Tt,Tt,Tt] ?_
     refine done_ (done_of HT_.out (by kernel_rfl)) ?_
     try go_wp2
     refine bodyPost_ret (results_ct rfl _ _ gb656 103 #[.int .i64 (wrap64 (a1_0 - 1)),.int .i64 a1_1] (0,0) _ rfl (by (with_reducible repeat (first | refine blk_drewN ?_ _ | refine blk_drew ?_ | refine blk_alloc ?_ _)); refine blk_put (cs:=#[.int .i64 (wrap64 (a1_0 - 1)),.int .i64 0]) ?_ 1 _ rfl; (with_reducible repeat (first | refine blk_drewN ?_ _ | refine blk_drew ?_ | refine blk_alloc ?_ _)); refine blk_put (cs:=#[.int .i64 0,.int .i64 0]) ?_ 0 _ rfl; (with_reducible repeat (first | refine blk_drewN ?_ _ | refine blk_drew ?_ | refine blk_alloc ?_ _)); exact BK656.out) Tryd.underlying103 rfl (by kernel_rfl)) rfl ?_
     exact ⟨er_,bl3_ HB.out GE654.out GE655.out GE656.out⟩


theorem eqA103 (d:Nat) (w:World) (x0 y0:Int) (x1 y1:Int) :
    (Op.equalIn (d + 2) 103 (.agg #[.int .i64 x0,.int .i64 x1]) (.agg #[.int .i64 y0,.int .i64 y1])).run Tryd.prog w = .ok (x0 == y0 && (x1 == y1)) w:=by
  refine eqA_of Tryd.underlying103 (by kernel_rfl) ?_
  refine eqf_cons (by rfl) (by go_simp; rfl) (by go_simp; rfl) (by go_simp) ?_
  exact eqf_last (by rfl) (by go_simp; rfl) (by go_simp; rfl) (by go_simp)
end Go.Proofs.YtjnajeplfgdklaaDoor.P
namespace Go.Proofs.YtjnajeplfgdklaaDoor.P
open Go.RowKit Go.Proofs.YtjnajeplfgdklaaDoorW.PrintWords Go.Proofs.YtjnajeplfgdklaaDoorW.PrintLast Go.Proofs.YtjnajeplfgdklaaDoorW.PrintMore
attribute [local go_sem] max2_int min2_int max_two min_two max_three min_three max_four min_four   -- for this text's walks alone
set_option linter.unusedVariables false
set_option linter.unusedSimpArgs false

attribute [local go_sem high] eqA103
def spec_liHas.l0:Nat → List (S103) → Int → Int → Int → Int → Option (Bool)
 | 0,_,_,_,_,_ => none
 | k + 1,x7,x8,x9,x662000,x662001 => if x9 < x8 then (if 0 ≤ x9 then (if x9 < (x7.length:Int) then (if (((rd_T103 x7 x9).f0) == x662000 && (((rd_T103 x7 x9).f1) == x662001)) = true then (some true) else (spec_liHas.l0 k x7 x8 (wrap64 (x9 + 1)) x662000 x662001)) else (none)) else (none)) else (some false)
def spec_liHas.f (k:Nat) (l0:List (S103)) (a1_0:Int) (a1_1:Int):Option (Bool):=spec_liHas.l0 k l0 (l0.length:Int) 0 a1_0 a1_1
theorem spec_liHas.mono_l:∀ k,(∀ y0 y1 y2 y3 y4,LeO (spec_liHas.l0 k y0 y1 y2 y3 y4) (spec_liHas.l0 (k + 1) y0 y1 y2 y3 y4))
 | 0 => fun _ _ _ _ _ r h => by simp [spec_liHas.l0] at h
 | k + 1 => by
  have ih0:=spec_liHas.mono_l k
  ·intro y0 y1 y2 y3 y4
   unfold spec_liHas.l0
   repeat' first
   | (with_reducible exact ih0 _ _ _ _ _)
   | (with_reducible exact LeO.refl _)
   | (with_reducible exact LeO.none _)
   | (with_reducible refine LeO.ite ?_ ?_)
   | (with_reducible refine LeO.bind ?_ (fun _ => ?_))
   | exact ih0 _ _ _ _ _
   | exact LeO.none _
   | refine LeO.ite ?_ ?_
   | refine LeO.bind ?_ (fun _ => ?_)
theorem spec_liHas.mono:∀ a0 a1 a2 k,LeO (spec_liHas.f k a0 a1 a2) (spec_liHas.f (k + 1) a0 a1 a2):=by
 intro a0 a1 a2 k
 have ih0:=spec_liHas.mono_l k
 unfold spec_liHas.f
 repeat' first
   | (with_reducible exact ih0 _ _ _ _ _)
   | (with_reducible exact LeO.refl _)
   | (with_reducible exact LeO.none _)
   | (with_reducible refine LeO.ite ?_ ?_)
   | (with_reducible refine LeO.bind ?_ (fun _ => ?_))
   | exact ih0 _ _ _ _ _
   | exact LeO.none _
   | refine LeO.ite ?_ ?_
   | refine LeO.bind ?_ (fun _ => ?_)
set_option maxHeartbeats 8000000 in
set_option maxRecDepth 100000 in
theorem spec_liHas.calls (k:Nat) (A0:Option Addr) (c0:Nat) (l0:List (S103)) (a1_0:Int) (a1_1:Int) (r:Bool) (w:World) (hr0:Kd.C k103 w A0 l0.length l0) (hc0:l0.length ≤ c0) (h:spec_liHas.f k l0 a1_0 a1_1 = some r) :
  Calls Tryd.prog 110 #[.slice A0 l0.length c0,.agg #[.int .i64 a1_0,.int .i64 a1_1]] w fun e w' => e = .returned (.bool r) ∧ Below w.heap.size w w':=by
 have hu103:=Tryd.underlying103
 have HR0:=Aside0.mk hr0
 have HC0:=Aside0.mk hc0
 clear hr0 hc0
 have HB:=Aside0.mk (Below.refl w.heap.size w)
 have H:(spec_liHas.l0 k l0 (l0.length:Int) 0 a1_0 a1_1) = some r:=h
 clear h
 have H':=Aside0.mk H
 clear H
 go_enter Tryd.func110,Tryd.ntmps110
 go_wp2_with (first | ((with_reducible refine gate_dst (N:=3) rfl ?_); refine boxE_ (N:=3) (cs:=#[.int .i64 a1_0,.int .i64 a1_1]) (t:=103) ?_; intro gb661 hg w3 hbox hb; have n0_:=Aside0.mk (below_step (bl0_ HB.out) hb); have n1_:=Aside0.mk (hbox); have n2_:=Aside0.mk ((bs0_ hg HB.out:w.heap.size ≤ gb661)); have n3_:=Aside0.mk ((bs0_ hg HB.out:w.heap.size ≤ gb661)); clear HB; have HB:=n0_; have BK661:=n1_; have GW661:=n2_; have GE661:=n3_; clear n0_ n1_ n2_ n3_; clear hb hbox hg))
 go_loopg [9] k (fun kq v9 w' => ∃ (x9_1:Int),v9 = .int .i64 x9_1 ∧ Aside0 (spec_liHas.l0 kq l0 (l0.length:Int) x9_1 a1_0 a1_1 = some r) ∧ Aside0 (kq ≤ k) ∧ Aside0 (w'.heap[gb661]? = some (.cells #[.int .i64 a1_0,.int .i64 a1_1] 103 (0,0))) ∧ Aside0 (Below w.heap.size w w'))
 case atStart => exact ⟨(0),rs_,H',⟨Nat.le_refl _⟩,⟨bk_ BK661.out⟩,⟨bl1_ HB.out GE661.out⟩⟩
 case round =>
  clear H'
  try clear c1
  try clear p2
  obtain ⟨x9_1,rfl,HA,HK1,BK661,HB⟩:=hrel
  cases gk with
  | zero => exact absurd HA.out (by simp [spec_liHas.l0])
  | succ k1 =>
   have H:=HA.out
   clear HA
   simp only [spec_liHas.l0] at H
   by_cases c4:x9_1 < (l0.length:Int)
   ·rw [if_pos c4] at H
    have c4b0:decide (x9_1 < (l0.length:Int)) = true:=decide_eq_true c4
    clear c4
    by_cases c5:0 ≤ x9_1
    ·rw [if_pos c5] at H
     have c5b0:decide (0 ≤ x9_1) = true:=decide_eq_true c5
     clear c5
     by_cases c6:x9_1 < (l0.length:Int)
     ·rw [if_pos c6] at H
      have c6b0:decide (x9_1 < (l0.length:Int)) = true:=decide_eq_true c6
      clear c6
      by_cases c7:(((rd_T103 l0 x9_1).f0) == a1_0 && (((rd_T103 l0 x9_1).f1) == a1_1)) = true
      ·rw [if_pos c7] at H
       have c7b0:(((rd_T103 l0 x9_1).f0) == a1_0 && (((rd_T103 l0 x9_1).f1) == a1_1)) = true:=c7
       (try (have c7b1:decide (((rd_T103 l0 x9_1).f0) = a1_0 && (((rd_T103 l0 x9_1).f1) == a1_1)) = true:=by simpa using c7))
       (try (have c7b2:(((rd_T103 l0 x9_1).f0) == a1_0 && (((rd_T103 l0 x9_1).f1) == a1_1)) = true:=by simpa using c7))
       clear c7
       obtain rfl:=Option.some.inj H
       have p662:0 ≤ (x9_1:Int):=of_decide_eq_true as_
       have q662:x9_1 < (l0.length:Int):=of_decide_eq_true as_
       obtain ⟨ad662,e662,hx662_0,hx662_1⟩:=at_T103 HR0.out x9_1 p662 q662
       cases e662
       replace hx662_0:=(HB.out.cell (World.block_lt_of_cell? w _ hx662_0)).trans hx662_0
       replace hx662_1:=(HB.out.cell (World.block_lt_of_cell? w _ hx662_1)).trans hx662_1
       replace p662:=eq_true p662
       replace q662:=eq_true q662
       go_wp2_with (first | ((with_reducible refine gate_dst (N:=6) rfl ?_); refine boxE_ (N:=6) (cs:=#[.int .i64 0,.int .i64 0]) (t:=103) ?_; intro gb663 hg w8 hbox hb; have n0_:=Aside0.mk (bb_ BK661.out hb); have n1_:=Aside0.mk (below_step (bl1_ HB.out GE661.out) hb); have n2_:=Aside0.mk (hbox); have n3_:=Aside0.mk ((bs1_ hg HB.out GE661.out:w.heap.size ≤ gb663)); have n4_:=Aside0.mk ((bs1_ hg HB.out GE661.out:w.heap.size ≤ gb663)); have n5_:=Aside0.mk ((nl_ hg BK661.out:gb661 ≠ gb663)); have n6_:=Aside0.mk ((ng_ hg BK661.out:gb663 ≠ gb661)); clear BK661; clear HB; have BK661:=n0_; have HB:=n1_; have BK663:=n2_; have GW663:=n3_; have GE663:=n4_; have NB661_663:=n5_; have NB663_661:=n6_; clear n0_ n1_ n2_ n3_ n4_ n5_ n6_; clear hb hbox hg; have hnb9:=NB663_661.out; have hnc9:=NB661_663.out; have hcz10_0:w8.cell? ⟨gb663,0,none⟩ = some (.int .i64 0):=(blk_cell BK663.out 0).trans rfl; have hcz10_1:w8.cell? ⟨gb663,1,none⟩ = some (.int .i64 0):=(blk_cell BK663.out 1).trans rfl; have hfz10_0:=blk_frozen BK663.out 0; have hfz10_1:=blk_frozen BK663.out 1; have hcz11_0:w8.cell? ⟨gb661,0,none⟩ = some (.int .i64 a1_0):=(blk_cell BK661.out 0).trans rfl; have hcz11_1:w8.cell? ⟨gb661,1,none⟩ = some (.int .i64 a1_1):=(blk_cell BK661.out 1).trans rfl; have hfz11_0:=blk_frozen BK661.out 0; have hfz11_1:=blk_frozen BK661.out 1))
       go_ret
       exact ⟨er_,bl2_ HB.out GE661.out GE663.out⟩
      ·rw [if_neg c7] at H
       have c7b0:(((rd_T103 l0 x9_1).f0) == a1_0 && (((rd_T103 l0 x9_1).f1) == a1_1)) = false:=by simpa using c7
       (try (have c7b1:decide (((rd_T103 l0 x9_1).f0) = a1_0 && (((rd_T103 l0 x9_1).f1) == a1_1)) = false:=by simpa using c7))
       (try (have c7b2:(((rd_T103 l0 x9_1).f0) == a1_0 && (((rd_T103 l0 x9_1).f1) == a1_1)) = false:=by simpa using c7))
       (try (have c7b3:¬ (((rd_T103 l0 x9_1).f0) = a1_0 && (((rd_T103 l0 x9_1).f1) == a1_1)):=by simpa using c7))
       clear c7
       have H':=Aside0.mk H
       clear H
       have p662:0 ≤ (x9_1:Int):=of_decide_eq_true as_
       have q662:x9_1 < (l0.length:Int):=of_decide_eq_true as_
       obtain ⟨ad662,e662,hx662_0,hx662_1⟩:=at_T103 HR0.out x9_1 p662 q662
       cases e662
       replace hx662_0:=(HB.out.cell (World.block_lt_of_cell? w _ hx662_0)).trans hx662_0
       replace hx662_1:=(HB.out.cell (World.block_lt_of_cell? w _ hx662_1)).trans hx662_1
       replace p662:=eq_true p662
       replace q662:=eq_true q662
       go_wp2_with (first | ((with_reducible refine gate_dst (N:=6) rfl ?_); refine boxE_ (N:=6) (cs:=#[.int .i64 0,.int .i64 0]) (t:=103) ?_; intro gb663 hg w12 hbox hb; have n0_:=Aside0.mk (bb_ BK661.out hb); have n1_:=Aside0.mk (below_step (bl1_ HB.out GE661.out) hb); have n2_:=Aside0.mk (hbox); have n3_:=Aside0.mk ((bs1_ hg HB.out GE661.out:w.heap.size ≤ gb663)); have n4_:=Aside0.mk ((bs1_ hg HB.out GE661.out:w.heap.size ≤ gb663)); have n5_:=Aside0.mk ((nl_ hg BK661.out:gb661 ≠ gb663)); have n6_:=Aside0.mk ((ng_ hg BK661.out:gb663 ≠ gb661)); clear BK661; clear HB; have BK661:=n0_; have HB:=n1_; have BK663:=n2_; have GW663:=n3_; have GE663:=n4_; have NB661_663:=n5_; have NB663_661:=n6_; clear n0_ n1_ n2_ n3_ n4_ n5_ n6_; clear hb hbox hg; have hnb13:=NB663_661.out; have hnc13:=NB661_663.out; have hcz14_0:w12.cell? ⟨gb663,0,none⟩ = some (.int .i64 0):=(blk_cell BK663.out 0).trans rfl; have hcz14_1:w12.cell? ⟨gb663,1,none⟩ = some (.int .i64 0):=(blk_cell BK663.out 1).trans rfl; have hfz14_0:=blk_frozen BK663.out 0; have hfz14_1:=blk_frozen BK663.out 1; have hcz15_0:w12.cell? ⟨gb661,0,none⟩ = some (.int .i64 a1_0):=(blk_cell BK661.out 0).trans rfl; have hcz15_1:w12.cell? ⟨gb661,1,none⟩ = some (.int .i64 a1_1):=(blk_cell BK661.out 1).trans rfl; have hfz15_0:=blk_frozen BK661.out 0; have hfz15_1:=blk_frozen BK661.out 1))
       go_roundg k1
       case measure => have:=HK1.out; omega
       case rel => exact ⟨(wrap64 (x9_1 + 1)),rs_,H',⟨by have:=HK1.out; omega⟩,⟨bf2_ NB661_663.out NB661_663.out BK661.out⟩,⟨bl2_ HB.out GE661.out GE663.out⟩⟩
     ·rw [if_neg c6] at H
      exact absurd H (by simp)
    ·rw [if_neg c5] at H
     exact absurd H (by simp)
   ·rw [if_neg c4] at H
    have c4b0:decide (x9_1 < (l0.length:Int)) = false:=decide_eq_false c4
    clear c4
    obtain rfl:=Option.some.inj H
    go_wp2
    go_ret
    exact ⟨er_,bl1_ HB.out GE661.out⟩

end Go.Proofs.YtjnajeplfgdklaaDoor.P
namespace Go.Proofs.YtjnajeplfgdklaaDoor.P
open Go.RowKit Go.Proofs.YtjnajeplfgdklaaDoorW.PrintWords Go.Proofs.YtjnajeplfgdklaaDoorW.PrintLast Go.Proofs.YtjnajeplfgdklaaDoorW.PrintMore
attribute [local go_sem] max2_int min2_int max_two min_two max_three min_three max_four min_four   -- for this text's walks alone
set_option linter.unusedVariables false
set_option linter.unusedSimpArgs false

mutual
def spec_liReach.l0:Nat → List (S103) → Int → Int → Int → List Int → List Int → Option ((List (S103)))
 | 0,_,_,_,_,_,_ => none
 | k + 1,x5,x6,x665000,x665001,x665002,x665003 => if x6 < (x5.length:Int) then (spec_liReach.l1 k x5 x6 0 x665000 x665001 x665002 x665003) else (some x5)
def spec_liReach.l1:Nat → List (S103) → Int → Int → Int → Int → List Int → List Int → Option ((List (S103)))
 | 0,_,_,_,_,_,_,_ => none
 | k + 1,x5,x6,x7,x665000,x665001,x665002,x665003 => if x7 < 4 then (if 0 ≤ x6 then (if x6 < (x5.length:Int) then ((spec_liNext.f k x665000 x665001 x665002 x665003 ((rd_T103 x5 x6).f0) ((rd_T103 x5 x6).f1) x7).bind fun bt670 => (if bt670.2.2 = true then ((spec_liHas.f k x5 bt670.1 bt670.2.1).bind fun t674 => (if t674 = true then (spec_liReach.l1 k x5 x6 (wrap64 (x7 + 1)) x665000 x665001 x665002 x665003) else (if x5.length < 8796093022208 then (spec_liReach.l1 k (x5 ++ [(⟨bt670.1,bt670.2.1⟩:S103)]) x6 (wrap64 (x7 + 1)) x665000 x665001 x665002 x665003) else (none)))) else (spec_liReach.l1 k x5 x6 (wrap64 (x7 + 1)) x665000 x665001 x665002 x665003))) else (none)) else (none)) else (spec_liReach.l0 k x5 (wrap64 (x6 + 1)) x665000 x665001 x665002 x665003)
end
def spec_liReach.f (k:Nat) (a0_0:Int) (a0_1:Int) (l0_2:List Int) (l0_3:List Int) (a1_0:Int) (a1_1:Int):Option ((List (S103))):=spec_liReach.l0 k (([(⟨a1_0,a1_1⟩:S103)]:List (S103))) 0 a0_0 a0_1 l0_2 l0_3
theorem spec_liReach.mono_l:∀ k,(∀ y0 y1 y2 y3 y4 y5,LeO (spec_liReach.l0 k y0 y1 y2 y3 y4 y5) (spec_liReach.l0 (k + 1) y0 y1 y2 y3 y4 y5)) ∧ (∀ y0 y1 y2 y3 y4 y5 y6,LeO (spec_liReach.l1 k y0 y1 y2 y3 y4 y5 y6) (spec_liReach.l1 (k + 1) y0 y1 y2 y3 y4 y5 y6))
 | 0 => ⟨fun _ _ _ _ _ _ r h => by simp [spec_liReach.l0] at h,fun _ _ _ _ _ _ _ r h => by simp [spec_liReach.l1] at h⟩
 | k + 1 => by
  obtain ⟨ih0,ih1⟩:=spec_liReach.mono_l k
  refine ⟨?_,?_⟩
  ·intro y0 y1 y2 y3 y4 y5
   unfold spec_liReach.l0
   repeat' first
   | (with_reducible exact ih0 _ _ _ _ _ _)
   | (with_reducible exact ih1 _ _ _ _ _ _ _)
   | (with_reducible exact spec_liHas.mono _ _ _ _)
   | (with_reducible exact spec_liNext.mono _ _ _ _ _ _ _ _)
   | (with_reducible exact LeO.refl _)
   | (with_reducible exact LeO.none _)
   | (with_reducible refine LeO.ite ?_ ?_)
   | (with_reducible refine LeO.bind ?_ (fun _ => ?_))
   | exact ih0 _ _ _ _ _ _
   | exact ih1 _ _ _ _ _ _ _
   | exact spec_liHas.mono _ _ _ _
   | exact spec_liNext.mono _ _ _ _ _ _ _ _
   | exact LeO.none _
   | refine LeO.ite ?_ ?_
   | refine LeO.bind ?_ (fun _ => ?_)
  ·intro y0 y1 y2 y3 y4 y5 y6
   unfold spec_liReach.l1
   repeat' first
   | (with_reducible exact ih0 _ _ _ _ _ _)
   | (with_reducible exact ih1 _ _ _ _ _ _ _)
   | (with_reducible exact spec_liHas.mono _ _ _ _)
   | (with_reducible exact spec_liNext.mono _ _ _ _ _ _ _ _)
   | (with_reducible exact LeO.refl _)
   | (with_reducible exact LeO.none _)
   | (with_reducible refine LeO.ite ?_ ?_)
   | (with_reducible refine LeO.bind ?_ (fun _ => ?_))
   | exact ih0 _ _ _ _ _ _
   | exact ih1 _ _ _ _ _ _ _
   | exact spec_liHas.mono _ _ _ _
   | exact spec_liNext.mono _ _ _ _ _ _ _ _
   | exact LeO.none _
   | refine LeO.ite ?_ ?_
   | refine LeO.bind ?_ (fun _ => ?_)
theorem spec_liReach.mono:∀ a0 a1 a2 a3 a4 a5 k,LeO (spec_liReach.f k a0 a1 a2 a3 a4 a5) (spec_liReach.f (k + 1) a0 a1 a2 a3 a4 a5):=by
 intro a0 a1 a2 a3 a4 a5 k
 obtain ⟨ih0,ih1⟩:=spec_liReach.mono_l k
 unfold spec_liReach.f
 repeat' first
   | (with_reducible exact ih0 _ _ _ _ _ _)
   | (with_reducible exact ih1 _ _ _ _ _ _ _)
   | (with_reducible exact spec_liHas.mono _ _ _ _)
   | (with_reducible exact spec_liNext.mono _ _ _ _ _ _ _ _)
   | (with_reducible exact LeO.refl _)
   | (with_reducible exact LeO.none _)
   | (with_reducible refine LeO.ite ?_ ?_)
   | (with_reducible refine LeO.bind ?_ (fun _ => ?_))
   | exact ih0 _ _ _ _ _ _
   | exact ih1 _ _ _ _ _ _ _
   | exact spec_liHas.mono _ _ _ _
   | exact spec_liNext.mono _ _ _ _ _ _ _ _
   | exact LeO.none _
   | refine LeO.ite ?_ ?_
   | refine LeO.bind ?_ (fun _ => ?_)
def spec_liReach.T8:Bool × List (List Nat × List Nat):=(true,[([],[]),([],[]),([],[]),([1,2],[1,2]),([3],[3]),([],[]),([0,4,5],[0,4,5]),([6],[6]),([7],[7]),([7],[7]),([],[]),([10,8,6,0,1,2,3,4,5,6,7,8,10],[8,10]),([9,11,0,1,2,3,4,5,6,7,8,9,10,11],[9])])
def spec_liReach.B8:List Nat:=[0,0,0,6,14,0,63,127,255,255,0,1535,4095]
theorem spec_liReach.tab8:rtab .any (opsOf Tryd.f103 8) = spec_liReach.T8:=by kernel_rfl
theorem spec_liReach.bits8:waitsOk spec_liReach.T8.2 spec_liReach.B8 = true:=by kernel_rfl
set_option maxHeartbeats 8000000 in
set_option maxRecDepth 100000 in
theorem spec_liReach.calls (k:Nat) (a0_0:Int) (a0_1:Int) (A0_2:Option Addr) (c0_2:Nat) (l0_2:List Int) (A0_3:Option Addr) (c0_3:Nat) (l0_3:List Int) (a1_0:Int) (a1_1:Int) (r:List (S103)) (w:World) (hr0_2:Kd.C (Kd.int .i64) w A0_2 l0_2.length l0_2) (hc0_2:l0_2.length ≤ c0_2) (hr0_3:Kd.C (Kd.int .i64) w A0_3 l0_3.length l0_3) (hc0_3:l0_3.length ≤ c0_3) (h:spec_liReach.f k a0_0 a0_1 l0_2 l0_3 a1_0 a1_1 = some r) :
  Calls Tryd.prog 103 #[.agg #[.int .i64 a0_0,.int .i64 a0_1,.slice A0_2 l0_2.length c0_2,.slice A0_3 l0_3.length c0_3],.agg #[.int .i64 a1_0,.int .i64 a1_1]] w fun e w' => ∃ v0_:Value,e = .returned (v0_) ∧ Kd.R k103 103 w' w.heap.size (fun _ => True) v0_ r ∧ Below w.heap.size w w':=by
 have hu26:=Tryd.underlying26
 have hu103:=Tryd.underlying103
 have HR0_2:=Aside0.mk hr0_2
 have HC0_2:=Aside0.mk hc0_2
 clear hr0_2 hc0_2
 have HR0_3:=Aside0.mk hr0_3
 have HC0_3:=Aside0.mk hc0_3
 clear hr0_3 hc0_3
 have HB:=Aside0.mk (Below.refl w.heap.size w)
 have H:(spec_liReach.l0 k (([(⟨a1_0,a1_1⟩:S103)]:List (S103))) 0 a0_0 a0_1 l0_2 l0_3) = some r:=h
 clear h
 obtain ⟨y666,hy666⟩:∃ y_:List (S103),y_ = (([(⟨a1_0,a1_1⟩:S103)]:List (S103))):=⟨_,rfl⟩
 replace H:(spec_liReach.l0 k y666 0 a0_0 a0_1 l0_2 l0_3) = some r:=by first | (rw [hy666]; with_reducible exact H) | (have H2_:=(Option.bind_some _ _).symm.trans H; rw [hy666]; with_reducible exact H2_) | (have H2_:=(Option.bind_some _ _).symm.trans H; with_reducible exact H2_) | with_reducible exact H | (rw [hy666]; exact H) | exact H
 have Ny666:=Aside0.mk hy666
 clear hy666
 have H':=Aside0.mk H
 clear H
 go_enter Tryd.func103,Tryd.ntmps103
 go_wp2_with (first | ((with_reducible refine gate_dst (N:=2) rfl ?_); refine boxE_ (N:=2) (cs:=#[.int .i64 a0_0,.int .i64 a0_1,.slice A0_2 l0_2.length c0_2,.slice A0_3 l0_3.length c0_3]) (t:=26) ?_; intro gb664 hg w3 hbox hb; have n0_:=Aside0.mk (below_step (bl0_ HB.out) hb); have n1_:=Aside0.mk (hbox); have n2_:=Aside0.mk ((bs0_ hg HB.out:w.heap.size ≤ gb664)); have n3_:=Aside0.mk ((bs0_ hg HB.out:w.heap.size ≤ gb664)); clear HB; have HB:=n0_; have BK664:=n1_; have GW664:=n2_; have GE664:=n3_; clear n0_ n1_ n2_ n3_; clear hb hbox hg) | ((with_reducible refine gate_dst (N:=3) rfl ?_); refine boxE_ (N:=3) (cs:=#[.int .i64 a1_0,.int .i64 a1_1]) (t:=103) ?_; intro gb665 hg w4 hbox hb; have n0_:=Aside0.mk (bb_ BK664.out hb); have n1_:=Aside0.mk (below_step (bl1_ HB.out GE664.out) hb); have n2_:=Aside0.mk (hbox); have n3_:=Aside0.mk ((bs1_ hg HB.out GE664.out:w.heap.size ≤ gb665)); have n4_:=Aside0.mk ((bs1_ hg HB.out GE664.out:w.heap.size ≤ gb665)); have n5_:=Aside0.mk ((nl_ hg BK664.out:gb664 ≠ gb665)); have n6_:=Aside0.mk ((ng_ hg BK664.out:gb665 ≠ gb664)); clear BK664; clear HB; have BK664:=n0_; have HB:=n1_; have BK665:=n2_; have GW665:=n3_; have GE665:=n4_; have NB664_665:=n5_; have NB665_664:=n6_; clear n0_ n1_ n2_ n3_ n4_ n5_ n6_; clear hb hbox hg; have hnb5:=NB665_664.out; have hnc5:=NB664_665.out; have hcz6_0:w4.cell? ⟨gb665,0,none⟩ = some (.int .i64 a1_0):=(blk_cell BK665.out 0).trans rfl; have hcz6_1:w4.cell? ⟨gb665,1,none⟩ = some (.int .i64 a1_1):=(blk_cell BK665.out 1).trans rfl; have hfz6_0:=blk_frozen BK665.out 0; have hfz6_1:=blk_frozen BK665.out 1) | ((with_reducible refine gate_dst (N:=11) rfl ?_); refine Kd.R_lit k103 _ 103 ?hg (N:=11) ?hd (xs:=([(⟨a1_0,a1_1⟩:S103)]:List (S103))) (inner:=[.int .i64 a1_0,.int .i64 a1_1]) (ok:=fun _ => True) (okp:=fun _ => True) ?hr ?hp (fun _ hk => hk) trivial (Below.refl _ _) (Nat.le_refl _) (by simp) ?_; (case hd => rfl); (case hg => rfl); (case hr => first | (go_simp; done) | (go_simp; rfl)); (case hp => exact (Reps.c2 (show Kd.M k103 _ _ _ (⟨a1_0,a1_1⟩:S103) [.int .i64 a1_0,.int .i64 a1_1] from (k103_mkM _ _ _ (⟨a1_0,a1_1⟩:S103) )) (Reps.none _ _))); intro v667 w7 ho8 hb hg_ hnew_; clear hg_ hnew_; (first | rw [← Ny666.out] at ho8 | (simp only [Int.reduceToNat] at ho8; rw [← Ny666.out] at ho8)); have n0_:=Aside0.mk (Kd.R_lower (Kd.R_newB ho8 (g:=gb665) (o:=.cells #[.int .i64 a1_0,.int .i64 a1_1] 103 (0,0)) (bk_ BK665.out)) (below_size (bl2_ HB.out GE664.out GE665.out))); have n1_:=Aside0.mk (bb_ BK664.out hb); have n2_:=Aside0.mk (bb_ BK665.out hb); have n3_:=Aside0.mk (below_step (bl2_ HB.out GE664.out GE665.out) hb); clear BK664; clear BK665; clear HB; have HO668:=n0_; have BK664:=n1_; have BK665:=n2_; have HB:=n3_; clear n0_ n1_ n2_ n3_; clear hb ho8))
 go_loopg [5,6] k (fun kq v5 v6 w' => ∃ (x5_1:List (S103)) (x6_1:Int),v6 = .int .i64 x6_1 ∧ Aside0 (spec_liReach.l0 kq x5_1 x6_1 a0_0 a0_1 l0_2 l0_3 = some r) ∧ Aside0 (kq ≤ k) ∧ Aside0 (Kd.R k103 103 w' w.heap.size (fun k_ => k_ ≠ gb665) v5 x5_1) ∧ Aside0 (w'.heap[gb664]? = some (.cells #[.int .i64 a0_0,.int .i64 a0_1,(.slice A0_2 l0_2.length c0_2),(.slice A0_3 l0_3.length c0_3)] 26 (0,0))) ∧ Aside0 (w'.heap[gb665]? = some (.cells #[.int .i64 a1_0,.int .i64 a1_1] 103 (0,0))) ∧ Aside0 (Below w.heap.size w w'))
 case atStart => exact ⟨(y666),(0),rs_,H',⟨Nat.le_refl _⟩,⟨by (with_reducible repeat (first | apply Kd.R_alloc | apply Kd.R_drewN | apply Kd.R_drew)); exact Kd.R_mono HO668.out (fun _ hk => hk.2)⟩,⟨bk_ BK664.out⟩,⟨bk_ BK665.out⟩,⟨bl2_ HB.out GE664.out GE665.out⟩⟩
 case round =>
  clear H'
  try clear c1
  try clear c2
  try clear p2
  try clear c5
  try clear hcz6_0
  try clear hcz6_1
  try clear hfz6_0
  try clear hfz6_1
  obtain ⟨x5_1,x6_1,rfl,HA,HK1,HO_5,BK664,BK665,HB⟩:=hrel
  cases gk with
  | zero => exact absurd HA.out (by simp [spec_liReach.l0])
  | succ k1 =>
   have H:=HA.out
   clear HA
   simp only [spec_liReach.l0] at H
   by_cases c9:x6_1 < (x5_1.length:Int)
   ·rw [if_pos c9] at H
    have c9b0:decide (x6_1 < (x5_1.length:Int)) = true:=decide_eq_true c9
    clear c9
    have H':=Aside0.mk H
    clear H
    obtain ⟨Ao10,co10,eo10⟩:=Kd.R_slice HO_5.out
    subst eo10
    go_wp2
    go_loopg [5,7] k1 (fun kq v5 v7 w' => ∃ (x5_2:List (S103)) (x7_2:Int),v7 = .int .i64 x7_2 ∧ Aside0 (spec_liReach.l1 kq x5_2 x6_1 x7_2 a0_0 a0_1 l0_2 l0_3 = some r) ∧ Aside0 (kq ≤ k1) ∧ Aside0 (Kd.R k103 103 w' w.heap.size (fun k_ => k_ ≠ gb665) v5 x5_2) ∧ Aside0 (w'.heap[gb664]? = some (.cells #[.int .i64 a0_0,.int .i64 a0_1,(.slice A0_2 l0_2.length c0_2),(.slice A0_3 l0_3.length c0_3)] 26 (0,0))) ∧ Aside0 (w'.heap[gb665]? = some (.cells #[.int .i64 a1_0,.int .i64 a1_1] 103 (0,0))) ∧ Aside0 (Below w.heap.size w w'))
    case atStart => exact ⟨(x5_1),(0),rs_,H',⟨Nat.le_refl _⟩,⟨kr_ HO_5.out⟩,⟨bk_ BK664.out⟩,⟨bk_ BK665.out⟩,⟨bl2_ HB.out GE664.out GE665.out⟩⟩
    case round =>
     clear H'
     try clear c1
     try clear c2
     try clear p2
     try clear c5
     try clear c9
     try clear c9b0
     try clear c10
     try clear hcz6_0
     try clear hcz6_1
     try clear hfz6_0
     try clear hfz6_1
     try clear p2
     obtain ⟨x5_2,x7_2,rfl,HA,HK2,HO_5,BK664,BK665,HB⟩:=hrel
     cases gk with
     | zero => exact absurd HA.out (by simp [spec_liReach.l1])
     | succ k2 =>
      have H:=HA.out
      clear HA
      simp only [spec_liReach.l1] at H
      by_cases c11:x7_2 < 4
      ·rw [if_pos c11] at H
       have c11b0:decide (x7_2 < 4) = true:=decide_eq_true c11
       clear c11
       by_cases c12:0 ≤ x6_1
       ·rw [if_pos c12] at H
        have c12b0:decide (0 ≤ x6_1) = true:=decide_eq_true c12
        clear c12
        by_cases c13:x6_1 < (x5_2.length:Int)
        ·rw [if_pos c13] at H
         have c13b0:decide (x6_1 < (x5_2.length:Int)) = true:=decide_eq_true c13
         clear c13
         replace H:=Option.bind_eq_some_iff.mp H
         obtain ⟨⟨t670,t671,t672⟩,A140,H⟩:=H
         replace H:(if t672 = true then ((spec_liHas.f k2 x5_2 t670 t671).bind fun t674 => (if t674 = true then (spec_liReach.l1 k2 x5_2 x6_1 (wrap64 (x7_2 + 1)) a0_0 a0_1 l0_2 l0_3) else (if x5_2.length < 8796093022208 then (spec_liReach.l1 k2 (x5_2 ++ [(⟨t670,t671⟩:S103)]) x6_1 (wrap64 (x7_2 + 1)) a0_0 a0_1 l0_2 l0_3) else (none)))) else (spec_liReach.l1 k2 x5_2 x6_1 (wrap64 (x7_2 + 1)) a0_0 a0_1 l0_2 l0_3)) = some r:=H
         have A14:=Aside0.mk A140
         clear A140
         by_cases c15:t672 = true
         ·subst c15
          have H1:((spec_liHas.f k2 x5_2 t670 t671).bind fun t674 => (if t674 = true then (spec_liReach.l1 k2 x5_2 x6_1 (wrap64 (x7_2 + 1)) a0_0 a0_1 l0_2 l0_3) else (if x5_2.length < 8796093022208 then (spec_liReach.l1 k2 (x5_2 ++ [(⟨t670,t671⟩:S103)]) x6_1 (wrap64 (x7_2 + 1)) a0_0 a0_1 l0_2 l0_3) else (none)))) = some r:=by rw [if_pos rfl] at H; exact H
          clear H
          have H:=H1
          clear H1
          replace H:=Option.bind_eq_some_iff.mp H
          obtain ⟨t674,A160,H⟩:=H
          replace H:(if t674 = true then (spec_liReach.l1 k2 x5_2 x6_1 (wrap64 (x7_2 + 1)) a0_0 a0_1 l0_2 l0_3) else (if x5_2.length < 8796093022208 then (spec_liReach.l1 k2 (x5_2 ++ [(⟨t670,t671⟩:S103)]) x6_1 (wrap64 (x7_2 + 1)) a0_0 a0_1 l0_2 l0_3) else (none))) = some r:=H
          have A16:=Aside0.mk A160
          clear A160
          by_cases c17:t674 = true
          ·subst c17
           have H1:(spec_liReach.l1 k2 x5_2 x6_1 (wrap64 (x7_2 + 1)) a0_0 a0_1 l0_2 l0_3) = some r:=by rw [if_pos rfl] at H; exact H
           clear H
           have H:=H1
           clear H1
           have H':=Aside0.mk H
           clear H
           try go_wp2
           have n0_:=Aside0.mk (Kd.R_drew HO_5.out)
           have n1_:=Aside0.mk (blk_drew BK664.out)
           have n2_:=Aside0.mk (blk_drew BK665.out)
           have n3_:=Aside0.mk (below_drew1 HB.out)
           clear HO_5
           clear BK664
           clear BK665
           clear HB
           have HO_5:=n0_
           have BK664:=n1_
           have BK665:=n2_
           have HB:=n3_
           clear n0_ n1_ n2_ n3_
           obtain ⟨Ao19,co19,eo19⟩:=Kd.R_slice HO_5.out
           (first | subst eo19 | (injection eo19 with f1_ f2_ f3_; have f4_:=f1_.symm; have f5_:=f3_.symm; clear f1_ f2_ f3_; subst f4_; subst f5_))
           have p669:0 ≤ (x6_1:Int):=of_decide_eq_true as_
           have q669:x6_1 < (x5_2.length:Int):=of_decide_eq_true as_
           obtain ⟨ad669,e669,hx669_0,hx669_1⟩:=at_T103 (Kd.R_reads' HO_5.out).2.2 x6_1 p669 q669
           cases e669
           replace p669:=eq_true p669
           replace q669:=eq_true q669
           refine start_ (n:=13) (S:=fun w' => w'.cell? ⟨gb664,0,none⟩ = some (.int .i64 a0_0) ∧ w'.cell? ⟨gb664,1,none⟩ = some (.int .i64 a0_1) ∧ w'.cell? ⟨gb664,2,none⟩ = some (.slice A0_2 l0_2.length c0_2) ∧ w'.cell? ⟨gb664,3,none⟩ = some (.slice A0_3 l0_3.length c0_3) ∧ w'.cell? (ad669.add ((x6_1).toNat * 2)) = some (.int .i64 ((rd_T103 x5_2 x6_1).f0)) ∧ w'.cell? ⟨(ad669.add ((x6_1).toNat * 2)).block,(ad669.add ((x6_1).toNat * 2)).off + 1,none⟩ = some (.int .i64 ((rd_T103 x5_2 x6_1).f1))) (ds:=[]) #[Ff,Ff,Ff,Ff,Ff,Ff,Ff,Ff,Ff,Ff,Ff,Ff,Ff] (by kernel_rfl) rfl rfl ⟨(blk_cell BK664.out 0).trans rfl,(blk_cell BK664.out 1).trans rfl,(blk_cell BK664.out 2).trans rfl,(blk_cell BK664.out 3).trans rfl,hx669_0,hx669_1⟩ (fun hHeld => ?_); refine with_tabW spec_liReach.tab8 spec_liReach.bits8 (fun HT_ HW_ => ?_)
           generalize wr.drew = w18 at HO_5 BK664 BK665 HB hx669_0 hx669_1 hHeld ⊢
           refine pZ (i:=1) (N:=some 24) #[Ff,Tt,Ff,Ff,Ff,Ff,Ff,Ff,Ff,Ff,Ff,Ff,Ff] ?_
           refine pZ (i:=2) (N:=some 25) #[Ff,Tt,Tt,Ff,Ff,Ff,Ff,Ff,Ff,Ff,Ff,Ff,Ff] ?_
           refine pZ (i:=3) (N:=some 26) #[Ff,Tt,Tt,Tt,Ff,Ff,Ff,Ff,Ff,Ff,Ff,Ff,Ff] ?_
           refine pZ (i:=5) (N:=some 28) #[Ff,Tt,Tt,Tt,Ff,Tt,Ff,Ff,Ff,Ff,Ff,Ff,Ff] ?_
           refine tZ (i:=0) (N:=some 23) #[Tt,Tt,Tt,Tt,Ff,Tt,Ff,Ff,Ff,Ff,Ff,Ff,Ff] ?_
           refine tZ (i:=4) (N:=some 27) #[Tt,Tt,Tt,Tt,Tt,Tt,Ff,Ff,Ff,Ff,Ff,Ff,Ff] ?_
           refine join_ (σ:=Nat) 2 #[Tt,Tt,Tt,Tt,Tt,Tt,Tt,Tt,Tt,Tt,Tt,Ff,Ff] (fun s_ => [(29,.tuple #[.agg #[.int .i64 t670,.int .i64 t671],.bool true]),(8,.pointer (some ⟨s_,0,none⟩)),(22,.tuple #[.agg #[.int .i64 t670,.int .i64 t671],.bool true]),(30,.agg #[.int .i64 t670,.int .i64 t671]),(31,.bool true)]) (fun s_ w' => (w'.cell? ⟨gb664,0,none⟩ = some (.int .i64 a0_0) ∧ w'.cell? ⟨gb664,1,none⟩ = some (.int .i64 a0_1) ∧ w'.cell? ⟨gb664,2,none⟩ = some (.slice A0_2 l0_2.length c0_2) ∧ w'.cell? ⟨gb664,3,none⟩ = some (.slice A0_3 l0_3.length c0_3) ∧ w'.cell? (ad669.add ((x6_1).toNat * 2)) = some (.int .i64 ((rd_T103 x5_2 x6_1).f0)) ∧ w'.cell? ⟨(ad669.add ((x6_1).toNat * 2)).block,(ad669.add ((x6_1).toNat * 2)).off + 1,none⟩ = some (.int .i64 ((rd_T103 x5_2 x6_1).f1))) ∧ (Kd.R k103 103 w' w.heap.size (fun k_ => k_ ≠ gb665 ∧ k_ ≠ s_) (.slice (some ad669) x5_2.length co19) x5_2) ∧ (w'.heap[gb664]? = some (.cells #[.int .i64 a0_0,.int .i64 a0_1,.slice A0_2 l0_2.length c0_2,.slice A0_3 l0_3.length c0_3] 26 (0,0))) ∧ (w'.heap[gb665]? = some (.cells #[.int .i64 a1_0,.int .i64 a1_1] 103 (0,0))) ∧ (w'.heap[s_]? = some (.cells #[.int .i64 0,.int .i64 0] 103 (0,0))) ∧ (w.heap.size ≤ s_) ∧ (w.heap.size ≤ s_) ∧ (gb664 ≠ s_) ∧ (s_ ≠ gb664) ∧ (gb665 ≠ s_) ∧ (s_ ≠ gb665) ∧ (Below w.heap.size w w')) ?_ ?_
           rotate_left
           ·intro hCont
            refine two_ (i:=6) (j:=10) (Ni:=some 29) (Nj:=some 8) #[Tt,Tt,Tt,Tt,Tt,Tt,Tt,Ff,Ff,Ff,Ff,Ff,Ff] #[Tt,Tt,Tt,Tt,Tt,Tt,Ff,Ff,Ff,Ff,Tt,Ff,Ff] rfl rfl rfl rfl (two_of HT_.out (by kernel_rfl)) (by decide) (by decide) (fun K hK => ?_) (fun K hK => ?_)
            ·skip
             refine goes_ Tryd.func104 (by kernel_rfl) rfl #[.agg #[.int .i64 a0_0,.int .i64 a0_1,.slice A0_2 l0_2.length c0_2,.slice A0_3 l0_3.length c0_3],.agg #[.int .i64 ((rd_T103 x5_2 x6_1).f0),.int .i64 ((rd_T103 x5_2 x6_1).f1)],.int .i64 x7_2] (by rfl) rfl rfl ob_ ?_
             with_reducible refine (spec_liNext.calls k2 a0_0 a0_1 _ _ l0_2 _ _ l0_3 ((rd_T103 x5_2 x6_1).f0) ((rd_T103 x5_2 x6_1).f1) x7_2 t670 t671 true _ ?side1 ?side2 ?side3 ?side4 A14.out).mono ?_
             (case side1 => exact kc_ (Kd.C_below HR0_2.out HB.out))
             (case side2 => exact HC0_2.out)
             (case side3 => exact kc_ (Kd.C_below HR0_3.out HB.out))
             (case side4 => exact HC0_3.out)
             rintro e w20 ⟨rfl,hb⟩
             have HS4_:=(hb.cell (World.block_lt_of_cell? _ _ (hHeld.2.2.2.2.1))).trans (hHeld.2.2.2.2.1)
             have HS5_:=(hb.cell (World.block_lt_of_cell? _ _ (hHeld.2.2.2.2.2))).trans (hHeld.2.2.2.2.2)
             refine ⟨_,rfl,?_⟩
             have n0_:=Aside0.mk (Kd.R_below (kr_ HO_5.out) hb)
             have n1_:=Aside0.mk (bb_ BK664.out hb)
             have n2_:=Aside0.mk (bb_ BK665.out hb)
             have n3_:=Aside0.mk (below_step (bl2_ HB.out GE664.out GE665.out) hb)
             clear HO_5
             clear BK664
             clear BK665
             clear HB
             have HO_5:=n0_
             have BK664:=n1_
             have BK665:=n2_
             have HB:=n3_
             clear n0_ n1_ n2_ n3_
             (try clear hb)
             (try clear hb2)
             (try clear hk)
             (try clear hi)
             refine hK.out _ _ ⟨(blk_cell BK664.out 0).trans rfl,(blk_cell BK664.out 1).trans rfl,(blk_cell BK664.out 2).trans rfl,(blk_cell BK664.out 3).trans rfl,HS4_,HS5_⟩ (fun hHeld => ?_)
             clear hK K
             refine norm_ (a':=_) ap_ ?_
             refine pZ (i:=7) (N:=some 22) #[Tt,Tt,Tt,Tt,Tt,Tt,Tt,Tt,Ff,Ff,Ff,Ff,Ff] ?_
             refine pZ (i:=8) (N:=some 30) #[Tt,Tt,Tt,Tt,Tt,Tt,Tt,Tt,Tt,Ff,Ff,Ff,Ff] ?_
             refine pZ (i:=9) (N:=some 31) #[Tt,Tt,Tt,Tt,Tt,Tt,Tt,Tt,Tt,Tt,Ff,Ff,Ff] ?_
             refine one_ (i:=10) (N:=some 8) #[Tt,Tt,Tt,Tt,Tt,Tt,Tt,Tt,Tt,Tt,Tt,Ff,Ff] rfl rfl (one_of HT_.out (by kernel_rfl)) (by decide) (fun K hK => ?_)
             refine box_step ?hg (N:=8) ?hd (cs:=#[.int .i64 0,.int .i64 0]) (t:=103) ?hr ?_; (case hd => rfl); (case hg => rfl); (case hr => first | (go_simp; done) | (go_simp; rfl))
             intro gb673 hg w21 hbox hb
             have HS4_:=(hb.cell (World.block_lt_of_cell? _ _ (hHeld.2.2.2.2.1))).trans (hHeld.2.2.2.2.1)
             have HS5_:=(hb.cell (World.block_lt_of_cell? _ _ (hHeld.2.2.2.2.2))).trans (hHeld.2.2.2.2.2)
             have n0_:=Aside0.mk (Kd.R_below (Kd.R_elderB (kr_ HO_5.out) gb673 (Nat.le_of_eq hg.symm)) hb)
             have n1_:=Aside0.mk (bb_ BK664.out hb)
             have n2_:=Aside0.mk (bb_ BK665.out hb)
             have n3_:=Aside0.mk (below_step (bl2_ HB.out GE664.out GE665.out) hb)
             have n4_:=Aside0.mk (hbox)
             have n5_:=Aside0.mk ((bs2_ hg HB.out GE664.out GE665.out:w.heap.size ≤ gb673))
             have n6_:=Aside0.mk ((bs2_ hg HB.out GE664.out GE665.out:w.heap.size ≤ gb673))
             have n7_:=Aside0.mk ((nl_ hg BK664.out:gb664 ≠ gb673))
             have n8_:=Aside0.mk ((ng_ hg BK664.out:gb673 ≠ gb664))
             have n9_:=Aside0.mk ((nl_ hg BK665.out:gb665 ≠ gb673))
             have n10_:=Aside0.mk ((ng_ hg BK665.out:gb673 ≠ gb665))
             clear HO_5
             clear BK664
             clear BK665
             clear HB
             have HO_5:=n0_
             have BK664:=n1_
             have BK665:=n2_
             have HB:=n3_
             have BK673:=n4_
             have GW673:=n5_
             have GE673:=n6_
             have NB664_673:=n7_
             have NB673_664:=n8_
             have NB665_673:=n9_
             have NB673_665:=n10_
             clear n0_ n1_ n2_ n3_ n4_ n5_ n6_ n7_ n8_ n9_ n10_
             clear hb hbox hg
             refine hK.out _ _ ⟨(blk_cell BK664.out 0).trans rfl,(blk_cell BK664.out 1).trans rfl,(blk_cell BK664.out 2).trans rfl,(blk_cell BK664.out 3).trans rfl,HS4_,HS5_⟩ (fun hHeld => ?_)
             clear hK K
             refine norm_ (a':=_) ap_ ?_
             exact norm_ (by simp only [putAll,Act.put,List.setIfInBounds_toArray,List.set_cons_zero,List.set_cons_succ]) (hCont (gb673) _ ⟨hHeld,(kr_ HO_5.out),(bk_ BK664.out),(bk_ BK665.out),(bk_ BK673.out),GW673.out,GE673.out,NB664_673.out,NB673_664.out,NB665_673.out,NB673_665.out,(bl3_ HB.out GE664.out GE665.out GE673.out)⟩)
            ·skip
             refine box_step ?hg (N:=8) ?hd (cs:=#[.int .i64 0,.int .i64 0]) (t:=103) ?hr ?_; (case hd => rfl); (case hg => rfl); (case hr => first | (go_simp; done) | (go_simp; rfl))
             intro gb673 hg w20 hbox hb
             have HS4_:=(hb.cell (World.block_lt_of_cell? _ _ (hHeld.2.2.2.2.1))).trans (hHeld.2.2.2.2.1)
             have HS5_:=(hb.cell (World.block_lt_of_cell? _ _ (hHeld.2.2.2.2.2))).trans (hHeld.2.2.2.2.2)
             have n0_:=Aside0.mk (Kd.R_below (Kd.R_elderB (kr_ HO_5.out) gb673 (Nat.le_of_eq hg.symm)) hb)
             have n1_:=Aside0.mk (bb_ BK664.out hb)
             have n2_:=Aside0.mk (bb_ BK665.out hb)
             have n3_:=Aside0.mk (below_step (bl2_ HB.out GE664.out GE665.out) hb)
             have n4_:=Aside0.mk (hbox)
             have n5_:=Aside0.mk ((bs2_ hg HB.out GE664.out GE665.out:w.heap.size ≤ gb673))
             have n6_:=Aside0.mk ((bs2_ hg HB.out GE664.out GE665.out:w.heap.size ≤ gb673))
             have n7_:=Aside0.mk ((nl_ hg BK664.out:gb664 ≠ gb673))
             have n8_:=Aside0.mk ((ng_ hg BK664.out:gb673 ≠ gb664))
             have n9_:=Aside0.mk ((nl_ hg BK665.out:gb665 ≠ gb673))
             have n10_:=Aside0.mk ((ng_ hg BK665.out:gb673 ≠ gb665))
             clear HO_5
             clear BK664
             clear BK665
             clear HB
             have HO_5:=n0_
             have BK664:=n1_
             have BK665:=n2_
             have HB:=n3_
             have BK673:=n4_
             have GW673:=n5_
             have GE673:=n6_
             have NB664_673:=n7_
             have NB673_664:=n8_
             have NB665_673:=n9_
             have NB673_665:=n10_
             clear n0_ n1_ n2_ n3_ n4_ n5_ n6_ n7_ n8_ n9_ n10_
             clear hb hbox hg
             refine hK.out _ _ ⟨(blk_cell BK664.out 0).trans rfl,(blk_cell BK664.out 1).trans rfl,(blk_cell BK664.out 2).trans rfl,(blk_cell BK664.out 3).trans rfl,HS4_,HS5_⟩ (fun hHeld => ?_)
             clear hK K
             refine norm_ (a':=_) ap_ ?_
             refine one_ (i:=6) (N:=some 29) #[Tt,Tt,Tt,Tt,Tt,Tt,Tt,Ff,Ff,Ff,Tt,Ff,Ff] rfl rfl (one_of HT_.out (by kernel_rfl)) (by decide) (fun K hK => ?_)
             refine goes_ Tryd.func104 (by kernel_rfl) rfl #[.agg #[.int .i64 a0_0,.int .i64 a0_1,.slice A0_2 l0_2.length c0_2,.slice A0_3 l0_3.length c0_3],.agg #[.int .i64 ((rd_T103 x5_2 x6_1).f0),.int .i64 ((rd_T103 x5_2 x6_1).f1)],.int .i64 x7_2] (by rfl) rfl rfl ob_ ?_
             with_reducible refine (spec_liNext.calls k2 a0_0 a0_1 _ _ l0_2 _ _ l0_3 ((rd_T103 x5_2 x6_1).f0) ((rd_T103 x5_2 x6_1).f1) x7_2 t670 t671 true _ ?side1 ?side2 ?side3 ?side4 A14.out).mono ?_
             (case side1 => exact kc_ (Kd.C_below HR0_2.out HB.out))
             (case side2 => exact HC0_2.out)
             (case side3 => exact kc_ (Kd.C_below HR0_3.out HB.out))
             (case side4 => exact HC0_3.out)
             rintro e w21 ⟨rfl,hb⟩
             have HS4_:=(hb.cell (World.block_lt_of_cell? _ _ (hHeld.2.2.2.2.1))).trans (hHeld.2.2.2.2.1)
             have HS5_:=(hb.cell (World.block_lt_of_cell? _ _ (hHeld.2.2.2.2.2))).trans (hHeld.2.2.2.2.2)
             refine ⟨_,rfl,?_⟩
             have n0_:=Aside0.mk (Kd.R_below (kr_ HO_5.out) hb)
             have n1_:=Aside0.mk (bb_ BK664.out hb)
             have n2_:=Aside0.mk (bb_ BK665.out hb)
             have n3_:=Aside0.mk (bb_ BK673.out hb)
             have n4_:=Aside0.mk (below_step (bl3_ HB.out GE664.out GE665.out GE673.out) hb)
             clear HO_5
             clear BK664
             clear BK665
             clear BK673
             clear HB
             have HO_5:=n0_
             have BK664:=n1_
             have BK665:=n2_
             have BK673:=n3_
             have HB:=n4_
             clear n0_ n1_ n2_ n3_ n4_
             (try clear hb)
             (try clear hb2)
             (try clear hk)
             (try clear hi)
             refine hK.out _ _ ⟨(blk_cell BK664.out 0).trans rfl,(blk_cell BK664.out 1).trans rfl,(blk_cell BK664.out 2).trans rfl,(blk_cell BK664.out 3).trans rfl,HS4_,HS5_⟩ (fun hHeld => ?_)
             clear hK K
             refine norm_ (a':=_) ap_ ?_
             refine pZ (i:=7) (N:=some 22) #[Tt,Tt,Tt,Tt,Tt,Tt,Tt,Tt,Ff,Ff,Tt,Ff,Ff] ?_
             refine pZ (i:=8) (N:=some 30) #[Tt,Tt,Tt,Tt,Tt,Tt,Tt,Tt,Tt,Ff,Tt,Ff,Ff] ?_
             refine pZ (i:=9) (N:=some 31) #[Tt,Tt,Tt,Tt,Tt,Tt,Tt,Tt,Tt,Tt,Tt,Ff,Ff] ?_
             exact norm_ (by simp only [putAll,Act.put,List.setIfInBounds_toArray,List.set_cons_zero,List.set_cons_succ]) (hCont (gb673) _ ⟨hHeld,(kr_ HO_5.out),(bk_ BK664.out),(bk_ BK665.out),(bk_ BK673.out),GW673.out,GE673.out,NB664_673.out,NB673_664.out,NB665_673.out,NB673_665.out,(bl3_ HB.out GE664.out GE665.out GE673.out)⟩)
           rintro gb673 w22 ⟨hS_,h0_,h1_,h2_,h3_,h4_,h5_,h6_,h7_,h8_,h9_,h10_⟩
           have n0_:Aside0 (Kd.R k103 103 w22 w.heap.size (fun k_ => k_ ≠ gb665 ∧ k_ ≠ gb673) (.slice (some ad669) x5_2.length co19) x5_2):=⟨h0_⟩
           have n1_:Aside0 (w22.heap[gb664]? = some (.cells #[.int .i64 a0_0,.int .i64 a0_1,.slice A0_2 l0_2.length c0_2,.slice A0_3 l0_3.length c0_3] 26 (0,0))):=⟨h1_⟩
           have n2_:Aside0 (w22.heap[gb665]? = some (.cells #[.int .i64 a1_0,.int .i64 a1_1] 103 (0,0))):=⟨h2_⟩
           have n3_:Aside0 (w22.heap[gb673]? = some (.cells #[.int .i64 0,.int .i64 0] 103 (0,0))):=⟨h3_⟩
           have n4_:Aside0 (w.heap.size ≤ gb673):=⟨h4_⟩
           have n5_:Aside0 (w.heap.size ≤ gb673):=⟨h5_⟩
           have n6_:Aside0 (gb664 ≠ gb673):=⟨h6_⟩
           have n7_:Aside0 (gb673 ≠ gb664):=⟨h7_⟩
           have n8_:Aside0 (gb665 ≠ gb673):=⟨h8_⟩
           have n9_:Aside0 (gb673 ≠ gb665):=⟨h9_⟩
           have n10_:Aside0 (Below w.heap.size w w22):=⟨h10_⟩
           clear HO_5
           clear BK664
           clear BK665
           clear HB
           clear h0_ h1_ h2_ h3_ h4_ h5_ h6_ h7_ h8_ h9_ h10_
           have HO_5:=n0_
           have BK664:=n1_
           have BK665:=n2_
           have BK673:=n3_
           have GW673:=n4_
           have GE673:=n5_
           have NB664_673:=n6_
           have NB673_664:=n7_
           have NB665_673:=n8_
           have NB673_665:=n9_
           have HB:=n10_
           clear n0_ n1_ n2_ n3_ n4_ n5_ n6_ n7_ n8_ n9_ n10_
           have hHeld:w22.cell? ⟨gb664,0,none⟩ = some (.int .i64 a0_0) ∧ w22.cell? ⟨gb664,1,none⟩ = some (.int .i64 a0_1) ∧ w22.cell? ⟨gb664,2,none⟩ = some (.slice A0_2 l0_2.length c0_2) ∧ w22.cell? ⟨gb664,3,none⟩ = some (.slice A0_3 l0_3.length c0_3) ∧ w22.cell? (ad669.add ((x6_1).toNat * 2)) = some (.int .i64 ((rd_T103 x5_2 x6_1).f0)) ∧ w22.cell? ⟨(ad669.add ((x6_1).toNat * 2)).block,(ad669.add ((x6_1).toNat * 2)).off + 1,none⟩ = some (.int .i64 ((rd_T103 x5_2 x6_1).f1)):=hS_
           refine norm_ (a':=?_) ?_ ?_
           rotate_left
           ·simp only [putAll,Act.put,List.setIfInBounds_toArray,List.set_cons_zero,List.set_cons_succ]
            rfl
           refine one_ (i:=11) (N:=none) #[Tt,Tt,Tt,Tt,Tt,Tt,Tt,Tt,Tt,Tt,Tt,Tt,Ff] rfl rfl (one_of HT_.out (by kernel_rfl)) (by decide) (fun K hK => ?_)
           have hs23:w22.cell? ⟨gb673,0,none⟩ = some (.int .i64 0):=(blk_cell BK673.out 0).trans rfl
           have hfs23:=blk_frozen BK673.out 0
           have hns23_0:=NB664_673.out
           have hns23_1:=NB665_673.out
           have hms23_0:=NB673_664.out
           have hms23_1:=NB673_665.out
           have hs24:w22.cell? ⟨gb673,1,none⟩ = some (.int .i64 0):=(blk_cell BK673.out 1).trans rfl
           have hfs24:=blk_frozen BK673.out 1
           have hns24_0:=NB664_673.out
           have hns24_1:=NB665_673.out
           have hms24_0:=NB673_664.out
           have hms24_1:=NB673_665.out
           refine skip_ (w1:=?_) (by rfl) rfl ?_ ?_
           rotate_left
           ·go_simp
            rfl
           refine hK.out _ _ ⟨((cell_far (p:=⟨gb673,_,none⟩) NB664_673.out _).trans (((cell_far (p:=⟨gb673,_,none⟩) NB664_673.out _).trans (hHeld.1)))),((cell_far (p:=⟨gb673,_,none⟩) NB664_673.out _).trans (((cell_far (p:=⟨gb673,_,none⟩) NB664_673.out _).trans (hHeld.2.1)))),((cell_far (p:=⟨gb673,_,none⟩) NB664_673.out _).trans (((cell_far (p:=⟨gb673,_,none⟩) NB664_673.out _).trans (hHeld.2.2.1)))),((cell_far (p:=⟨gb673,_,none⟩) NB664_673.out _).trans (((cell_far (p:=⟨gb673,_,none⟩) NB664_673.out _).trans (hHeld.2.2.2.1)))),((cell_far (p:=⟨gb673,_,none⟩) (by first | exact Kd.own_blk (Kd.R_away HO_5.out (fun _ hk => hk.2)) | (rw [add_block]; exact Kd.own_blk (Kd.R_away HO_5.out (fun _ hk => hk.2))) | (show (Addr.add _ _).block ≠ _; rw [add_block]; exact Kd.own_blk (Kd.R_away HO_5.out (fun _ hk => hk.2))) | (dsimp only; exact Kd.own_blk (Kd.R_away HO_5.out (fun _ hk => hk.2)))) _).trans (((cell_far (p:=⟨gb673,_,none⟩) (by first | exact Kd.own_blk (Kd.R_away HO_5.out (fun _ hk => hk.2)) | (rw [add_block]; exact Kd.own_blk (Kd.R_away HO_5.out (fun _ hk => hk.2))) | (show (Addr.add _ _).block ≠ _; rw [add_block]; exact Kd.own_blk (Kd.R_away HO_5.out (fun _ hk => hk.2))) | (dsimp only; exact Kd.own_blk (Kd.R_away HO_5.out (fun _ hk => hk.2)))) _).trans (hHeld.2.2.2.2.1)))),((cell_far (p:=⟨gb673,_,none⟩) (by first | exact Kd.own_blk (Kd.R_away HO_5.out (fun _ hk => hk.2)) | (rw [add_block]; exact Kd.own_blk (Kd.R_away HO_5.out (fun _ hk => hk.2))) | (show (Addr.add _ _).block ≠ _; rw [add_block]; exact Kd.own_blk (Kd.R_away HO_5.out (fun _ hk => hk.2))) | (dsimp only; exact Kd.own_blk (Kd.R_away HO_5.out (fun _ hk => hk.2)))) _).trans (((cell_far (p:=⟨gb673,_,none⟩) (by first | exact Kd.own_blk (Kd.R_away HO_5.out (fun _ hk => hk.2)) | (rw [add_block]; exact Kd.own_blk (Kd.R_away HO_5.out (fun _ hk => hk.2))) | (show (Addr.add _ _).block ≠ _; rw [add_block]; exact Kd.own_blk (Kd.R_away HO_5.out (fun _ hk => hk.2))) | (dsimp only; exact Kd.own_blk (Kd.R_away HO_5.out (fun _ hk => hk.2)))) _).trans (hHeld.2.2.2.2.2))))⟩ (fun hHeld => ?_)
           clear hK K
           refine pZ (i:=12) (N:=some 9) #[Tt,Tt,Tt,Tt,Tt,Tt,Tt,Tt,Tt,Tt,Tt,Tt,Tt] ?_
           refine done_ (done_of HT_.out (by kernel_rfl)) ?_
           have hnb25:=NB673_664.out
           have hnc25:=NB664_673.out
           have hnb26:=NB673_665.out
           have hnc26:=NB665_673.out
           have hcz27_0:w22.cell? ⟨gb673,0,none⟩ = some (.int .i64 0):=(blk_cell BK673.out 0).trans rfl
           have hcz27_1:w22.cell? ⟨gb673,1,none⟩ = some (.int .i64 0):=(blk_cell BK673.out 1).trans rfl
           have hfz27_0:=blk_frozen BK673.out 0
           have hfz27_1:=blk_frozen BK673.out 1
           try go_wp2_with (first | (go_at_call 110; (with_reducible refine (spec_liHas.calls k2 _ _ x5_2 t670 t671 true _ ?side1 ?side2 A16.out).mono ?_); (case side1 => refine (Kd.R_reads' (e:=103) (base:=w.heap.size) (ok:=fun k_ => (k_ ≠ gb665 ∧ k_ ≠ gb673)) (n:=x5_2.length) (c:=co19) ?_).2.2; exact (by (with_reducible repeat (first | apply Kd.R_alloc | apply Kd.R_drewN | apply Kd.R_drew)); exact (Kd.R_mono (Kd.R_far (p:=⟨gb673,1,none⟩) (Kd.R_far (p:=⟨gb673,0,none⟩) (Kd.R_mono HO_5.out (fun k_ hk => (⟨hk,hk.2⟩:_ ∧ k_ ≠ gb673))) (fun _ hk => hk.2) (.int .i64 t670)) (fun _ hk => hk.2) (.int .i64 t671)) (fun _ h_ => h_.1)))); (case side2 => exact (Kd.R_reads' HO_5.out).2.1); rintro e w28 ⟨rfl,hb⟩; have n0_:=Aside0.mk (Kd.R_below (by (with_reducible repeat (first | apply Kd.R_alloc | apply Kd.R_drewN | apply Kd.R_drew)); exact (Kd.R_mono (Kd.R_far (p:=⟨gb673,1,none⟩) (Kd.R_far (p:=⟨gb673,0,none⟩) (Kd.R_mono HO_5.out (fun k_ hk => (⟨hk,hk.2⟩:_ ∧ k_ ≠ gb673))) (fun _ hk => hk.2) (.int .i64 t670)) (fun _ hk => hk.2) (.int .i64 t671)) (fun _ h_ => h_.1))) hb); have n1_:=Aside0.mk (blk_below (g:=gb664) (o:=.cells #[.int .i64 a0_0,.int .i64 a0_1,.slice A0_2 l0_2.length c0_2,.slice A0_3 l0_3.length c0_3] 26 (0,0)) (bf2_ NB664_673.out NB664_673.out BK664.out) hb); have n2_:=Aside0.mk (blk_below (g:=gb665) (o:=.cells #[.int .i64 a1_0,.int .i64 a1_1] 103 (0,0)) (bf2_ NB665_673.out NB665_673.out BK665.out) hb); have n3_:=Aside0.mk (blk_below (g:=gb673) (o:=.cells #[.int .i64 t670,.int .i64 t671] 103 (0,0)) (by (with_reducible repeat (first | refine blk_drewN ?_ _ | refine blk_drew ?_ | refine blk_alloc ?_ _)); refine blk_put (cs:=#[.int .i64 t670,.int .i64 0]) ?_ 1 _ rfl; (with_reducible repeat (first | refine blk_drewN ?_ _ | refine blk_drew ?_ | refine blk_alloc ?_ _)); refine blk_put (cs:=#[.int .i64 0,.int .i64 0]) ?_ 0 _ rfl; (with_reducible repeat (first | refine blk_drewN ?_ _ | refine blk_drew ?_ | refine blk_alloc ?_ _)); exact BK673.out) hb); have n4_:=Aside0.mk (below_step (bl3_ HB.out GE664.out GE665.out GE673.out) hb); clear HO_5; clear BK664; clear BK665; clear BK673; clear HB; have HO_5:=n0_; have BK664:=n1_; have BK665:=n2_; have BK673:=n3_; have HB:=n4_; clear n0_ n1_ n2_ n3_ n4_; (try clear hb); (try clear hb2); (try clear hk); (try clear hi)))
           go_roundg k2
           case measure => have:=HK1.out; have:=HK2.out; omega
           case rel => exact ⟨(x5_2),(wrap64 (x7_2 + 1)),rs_,H',⟨by have:=HK1.out; have:=HK2.out; omega⟩,⟨by (with_reducible repeat (first | apply Kd.R_alloc | apply Kd.R_drewN | apply Kd.R_drew)); exact Kd.R_mono HO_5.out (fun _ hk => hk.1)⟩,⟨bk_ BK664.out⟩,⟨bk_ BK665.out⟩,⟨bl3_ HB.out GE664.out GE665.out GE673.out⟩⟩
          ·replace c17:=Bool.eq_false_iff.mpr c17
           subst c17
           have H1:(if x5_2.length < 8796093022208 then (spec_liReach.l1 k2 (x5_2 ++ [(⟨t670,t671⟩:S103)]) x6_1 (wrap64 (x7_2 + 1)) a0_0 a0_1 l0_2 l0_3) else (none)) = some r:=by rw [if_neg (show ¬ (false = true) by decide)] at H; exact H
           clear H
           have H:=H1
           clear H1
           by_cases c29:x5_2.length < 8796093022208
           ·rw [if_pos c29] at H
            have LMc29:=Aside0.mk c29
            clear c29
            obtain ⟨y675,hy675⟩:∃ y_:List (S103),y_ = (x5_2 ++ [(⟨t670,t671⟩:S103)]):=⟨_,rfl⟩
            replace H:(spec_liReach.l1 k2 y675 x6_1 (wrap64 (x7_2 + 1)) a0_0 a0_1 l0_2 l0_3) = some r:=by first | (rw [hy675]; with_reducible exact H) | (have H2_:=(Option.bind_some _ _).symm.trans H; rw [hy675]; with_reducible exact H2_) | (have H2_:=(Option.bind_some _ _).symm.trans H; with_reducible exact H2_) | with_reducible exact H | (rw [hy675]; exact H) | exact H
            have Ny675:=Aside0.mk hy675
            clear hy675
            have H':=Aside0.mk H
            clear H
            try go_wp2
            have n0_:=Aside0.mk (Kd.R_drew HO_5.out)
            have n1_:=Aside0.mk (blk_drew BK664.out)
            have n2_:=Aside0.mk (blk_drew BK665.out)
            have n3_:=Aside0.mk (below_drew1 HB.out)
            clear HO_5
            clear BK664
            clear BK665
            clear HB
            have HO_5:=n0_
            have BK664:=n1_
            have BK665:=n2_
            have HB:=n3_
            clear n0_ n1_ n2_ n3_
            obtain ⟨Ao31,co31,eo31⟩:=Kd.R_slice HO_5.out
            (first | subst eo31 | (injection eo31 with f1_ f2_ f3_; have f4_:=f1_.symm; have f5_:=f3_.symm; clear f1_ f2_ f3_; subst f4_; subst f5_))
            have p669:0 ≤ (x6_1:Int):=of_decide_eq_true as_
            have q669:x6_1 < (x5_2.length:Int):=of_decide_eq_true as_
            obtain ⟨ad669,e669,hx669_0,hx669_1⟩:=at_T103 (Kd.R_reads' HO_5.out).2.2 x6_1 p669 q669
            cases e669
            replace p669:=eq_true p669
            replace q669:=eq_true q669
            refine start_ (n:=13) (S:=fun w' => w'.cell? ⟨gb664,0,none⟩ = some (.int .i64 a0_0) ∧ w'.cell? ⟨gb664,1,none⟩ = some (.int .i64 a0_1) ∧ w'.cell? ⟨gb664,2,none⟩ = some (.slice A0_2 l0_2.length c0_2) ∧ w'.cell? ⟨gb664,3,none⟩ = some (.slice A0_3 l0_3.length c0_3) ∧ w'.cell? (ad669.add ((x6_1).toNat * 2)) = some (.int .i64 ((rd_T103 x5_2 x6_1).f0)) ∧ w'.cell? ⟨(ad669.add ((x6_1).toNat * 2)).block,(ad669.add ((x6_1).toNat * 2)).off + 1,none⟩ = some (.int .i64 ((rd_T103 x5_2 x6_1).f1))) (ds:=[]) #[Ff,Ff,Ff,Ff,Ff,Ff,Ff,Ff,Ff,Ff,Ff,Ff,Ff] (by kernel_rfl) rfl rfl ⟨(blk_cell BK664.out 0).trans rfl,(blk_cell BK664.out 1).trans rfl,(blk_cell BK664.out 2).trans rfl,(blk_cell BK664.out 3).trans rfl,hx669_0,hx669_1⟩ (fun hHeld => ?_); refine with_tabW spec_liReach.tab8 spec_liReach.bits8 (fun HT_ HW_ => ?_)
            generalize wr.drew = w30 at HO_5 BK664 BK665 HB hx669_0 hx669_1 hHeld ⊢
            refine pZ (i:=1) (N:=some 24) #[Ff,Tt,Ff,Ff,Ff,Ff,Ff,Ff,Ff,Ff,Ff,Ff,Ff] ?_
            refine pZ (i:=2) (N:=some 25) #[Ff,Tt,Tt,Ff,Ff,Ff,Ff,Ff,Ff,Ff,Ff,Ff,Ff] ?_
            refine pZ (i:=3) (N:=some 26) #[Ff,Tt,Tt,Tt,Ff,Ff,Ff,Ff,Ff,Ff,Ff,Ff,Ff] ?_
            refine pZ (i:=5) (N:=some 28) #[Ff,Tt,Tt,Tt,Ff,Tt,Ff,Ff,Ff,Ff,Ff,Ff,Ff] ?_
            refine tZ (i:=0) (N:=some 23) #[Tt,Tt,Tt,Tt,Ff,Tt,Ff,Ff,Ff,Ff,Ff,Ff,Ff] ?_
            refine tZ (i:=4) (N:=some 27) #[Tt,Tt,Tt,Tt,Tt,Tt,Ff,Ff,Ff,Ff,Ff,Ff,Ff] ?_
            refine join_ (σ:=Nat) 2 #[Tt,Tt,Tt,Tt,Tt,Tt,Tt,Tt,Tt,Tt,Tt,Ff,Ff] (fun s_ => [(29,.tuple #[.agg #[.int .i64 t670,.int .i64 t671],.bool true]),(8,.pointer (some ⟨s_,0,none⟩)),(22,.tuple #[.agg #[.int .i64 t670,.int .i64 t671],.bool true]),(30,.agg #[.int .i64 t670,.int .i64 t671]),(31,.bool true)]) (fun s_ w' => (w'.cell? ⟨gb664,0,none⟩ = some (.int .i64 a0_0) ∧ w'.cell? ⟨gb664,1,none⟩ = some (.int .i64 a0_1) ∧ w'.cell? ⟨gb664,2,none⟩ = some (.slice A0_2 l0_2.length c0_2) ∧ w'.cell? ⟨gb664,3,none⟩ = some (.slice A0_3 l0_3.length c0_3) ∧ w'.cell? (ad669.add ((x6_1).toNat * 2)) = some (.int .i64 ((rd_T103 x5_2 x6_1).f0)) ∧ w'.cell? ⟨(ad669.add ((x6_1).toNat * 2)).block,(ad669.add ((x6_1).toNat * 2)).off + 1,none⟩ = some (.int .i64 ((rd_T103 x5_2 x6_1).f1))) ∧ (Kd.R k103 103 w' w.heap.size (fun k_ => k_ ≠ gb665 ∧ k_ ≠ s_) (.slice (some ad669) x5_2.length co31) x5_2) ∧ (w'.heap[gb664]? = some (.cells #[.int .i64 a0_0,.int .i64 a0_1,.slice A0_2 l0_2.length c0_2,.slice A0_3 l0_3.length c0_3] 26 (0,0))) ∧ (w'.heap[gb665]? = some (.cells #[.int .i64 a1_0,.int .i64 a1_1] 103 (0,0))) ∧ (w'.heap[s_]? = some (.cells #[.int .i64 0,.int .i64 0] 103 (0,0))) ∧ (w.heap.size ≤ s_) ∧ (w.heap.size ≤ s_) ∧ (gb664 ≠ s_) ∧ (s_ ≠ gb664) ∧ (gb665 ≠ s_) ∧ (s_ ≠ gb665) ∧ (Below w.heap.size w w')) ?_ ?_
            rotate_left
            ·intro hCont
             refine two_ (i:=6) (j:=10) (Ni:=some 29) (Nj:=some 8) #[Tt,Tt,Tt,Tt,Tt,Tt,Tt,Ff,Ff,Ff,Ff,Ff,Ff] #[Tt,Tt,Tt,Tt,Tt,Tt,Ff,Ff,Ff,Ff,Tt,Ff,Ff] rfl rfl rfl rfl (two_of HT_.out (by kernel_rfl)) (by decide) (by decide) (fun K hK => ?_) (fun K hK => ?_)
             ·skip
              refine goes_ Tryd.func104 (by kernel_rfl) rfl #[.agg #[.int .i64 a0_0,.int .i64 a0_1,.slice A0_2 l0_2.length c0_2,.slice A0_3 l0_3.length c0_3],.agg #[.int .i64 ((rd_T103 x5_2 x6_1).f0),.int .i64 ((rd_T103 x5_2 x6_1).f1)],.int .i64 x7_2] (by rfl) rfl rfl ob_ ?_
              with_reducible refine (spec_liNext.calls k2 a0_0 a0_1 _ _ l0_2 _ _ l0_3 ((rd_T103 x5_2 x6_1).f0) ((rd_T103 x5_2 x6_1).f1) x7_2 t670 t671 true _ ?side1 ?side2 ?side3 ?side4 A14.out).mono ?_
              (case side1 => exact kc_ (Kd.C_below HR0_2.out HB.out))
              (case side2 => exact HC0_2.out)
              (case side3 => exact kc_ (Kd.C_below HR0_3.out HB.out))
              (case side4 => exact HC0_3.out)
              rintro e w32 ⟨rfl,hb⟩
              have HS4_:=(hb.cell (World.block_lt_of_cell? _ _ (hHeld.2.2.2.2.1))).trans (hHeld.2.2.2.2.1)
              have HS5_:=(hb.cell (World.block_lt_of_cell? _ _ (hHeld.2.2.2.2.2))).trans (hHeld.2.2.2.2.2)
              refine ⟨_,rfl,?_⟩
              have n0_:=Aside0.mk (Kd.R_below (kr_ HO_5.out) hb)
              have n1_:=Aside0.mk (bb_ BK664.out hb)
              have n2_:=Aside0.mk (bb_ BK665.out hb)
              have n3_:=Aside0.mk (below_step (bl2_ HB.out GE664.out GE665.out) hb)
              clear HO_5
              clear BK664
              clear BK665
              clear HB
              have HO_5:=n0_
              have BK664:=n1_
              have BK665:=n2_
              have HB:=n3_
              clear n0_ n1_ n2_ n3_
              (try clear hb)
              (try clear hb2)
              (try clear hk)
              (try clear hi)
              refine hK.out _ _ ⟨(blk_cell BK664.out 0).trans rfl,(blk_cell BK664.out 1).trans rfl,(blk_cell BK664.out 2).trans rfl,(blk_cell BK664.out 3).trans rfl,HS4_,HS5_⟩ (fun hHeld => ?_)
              clear hK K
              refine norm_ (a':=_) ap_ ?_
              refine pZ (i:=7) (N:=some 22) #[Tt,Tt,Tt,Tt,Tt,Tt,Tt,Tt,Ff,Ff,Ff,Ff,Ff] ?_
              refine pZ (i:=8) (N:=some 30) #[Tt,Tt,Tt,Tt,Tt,Tt,Tt,Tt,Tt,Ff,Ff,Ff,Ff] ?_
              refine pZ (i:=9) (N:=some 31) #[Tt,Tt,Tt,Tt,Tt,Tt,Tt,Tt,Tt,Tt,Ff,Ff,Ff] ?_
              refine one_ (i:=10) (N:=some 8) #[Tt,Tt,Tt,Tt,Tt,Tt,Tt,Tt,Tt,Tt,Tt,Ff,Ff] rfl rfl (one_of HT_.out (by kernel_rfl)) (by decide) (fun K hK => ?_)
              refine box_step ?hg (N:=8) ?hd (cs:=#[.int .i64 0,.int .i64 0]) (t:=103) ?hr ?_; (case hd => rfl); (case hg => rfl); (case hr => first | (go_simp; done) | (go_simp; rfl))
              intro gb673 hg w33 hbox hb
              have HS4_:=(hb.cell (World.block_lt_of_cell? _ _ (hHeld.2.2.2.2.1))).trans (hHeld.2.2.2.2.1)
              have HS5_:=(hb.cell (World.block_lt_of_cell? _ _ (hHeld.2.2.2.2.2))).trans (hHeld.2.2.2.2.2)
              have n0_:=Aside0.mk (Kd.R_below (Kd.R_elderB (kr_ HO_5.out) gb673 (Nat.le_of_eq hg.symm)) hb)
              have n1_:=Aside0.mk (bb_ BK664.out hb)
              have n2_:=Aside0.mk (bb_ BK665.out hb)
              have n3_:=Aside0.mk (below_step (bl2_ HB.out GE664.out GE665.out) hb)
              have n4_:=Aside0.mk (hbox)
              have n5_:=Aside0.mk ((bs2_ hg HB.out GE664.out GE665.out:w.heap.size ≤ gb673))
              have n6_:=Aside0.mk ((bs2_ hg HB.out GE664.out GE665.out:w.heap.size ≤ gb673))
              have n7_:=Aside0.mk ((nl_ hg BK664.out:gb664 ≠ gb673))
              have n8_:=Aside0.mk ((ng_ hg BK664.out:gb673 ≠ gb664))
              have n9_:=Aside0.mk ((nl_ hg BK665.out:gb665 ≠ gb673))
              have n10_:=Aside0.mk ((ng_ hg BK665.out:gb673 ≠ gb665))
              clear HO_5
              clear BK664
              clear BK665
              clear HB
              have HO_5:=n0_
              have BK664:=n1_
              have BK665:=n2_
              have HB:=n3_
              have BK673:=n4_
              have GW673:=n5_
              have GE673:=n6_
              have NB664_673:=n7_
              have NB673_664:=n8_
              have NB665_673:=n9_
              have NB673_665:=n10_
              clear n0_ n1_ n2_ n3_ n4_ n5_ n6_ n7_ n8_ n9_ n10_
              clear hb hbox hg
              refine hK.out _ _ ⟨(blk_cell BK664.out 0).trans rfl,(blk_cell BK664.out 1).trans rfl,(blk_cell BK664.out 2).trans rfl,(blk_cell BK664.out 3).trans rfl,HS4_,HS5_⟩ (fun hHeld => ?_)
              clear hK K
              refine norm_ (a':=_) ap_ ?_
              exact norm_ (by simp only [putAll,Act.put,List.setIfInBounds_toArray,List.set_cons_zero,List.set_cons_succ]) (hCont (gb673) _ ⟨hHeld,(kr_ HO_5.out),(bk_ BK664.out),(bk_ BK665.out),(bk_ BK673.out),GW673.out,GE673.out,NB664_673.out,NB673_664.out,NB665_673.out,NB673_665.out,(bl3_ HB.out GE664.out GE665.out GE673.out)⟩)
             ·skip
              refine box_step ?hg (N:=8) ?hd (cs:=#[.int .i64 0,.int .i64 0]) (t:=103) ?hr ?_; (case hd => rfl); (case hg => rfl); (case hr => first | (go_simp; done) | (go_simp; rfl))
              intro gb673 hg w32 hbox hb
              have HS4_:=(hb.cell (World.block_lt_of_cell? _ _ (hHeld.2.2.2.2.1))).trans (hHeld.2.2.2.2.1)
              have HS5_:=(hb.cell (World.block_lt_of_cell? _ _ (hHeld.2.2.2.2.2))).trans (hHeld.2.2.2.2.2)
              have n0_:=Aside0.mk (Kd.R_below (Kd.R_elderB (kr_ HO_5.out) gb673 (Nat.le_of_eq hg.symm)) hb)
              have n1_:=Aside0.mk (bb_ BK664.out hb)
              have n2_:=Aside0.mk (bb_ BK665.out hb)
              have n3_:=Aside0.mk (below_step (bl2_ HB.out GE664.out GE665.out) hb)
              have n4_:=Aside0.mk (hbox)
              have n5_:=Aside0.mk ((bs2_ hg HB.out GE664.out GE665.out:w.heap.size ≤ gb673))
              have n6_:=Aside0.mk ((bs2_ hg HB.out GE664.out GE665.out:w.heap.size ≤ gb673))
              have n7_:=Aside0.mk ((nl_ hg BK664.out:gb664 ≠ gb673))
              have n8_:=Aside0.mk ((ng_ hg BK664.out:gb673 ≠ gb664))
              have n9_:=Aside0.mk ((nl_ hg BK665.out:gb665 ≠ gb673))
              have n10_:=Aside0.mk ((ng_ hg BK665.out:gb673 ≠ gb665))
              clear HO_5
              clear BK664
              clear BK665
              clear HB
              have HO_5:=n0_
              have BK664:=n1_
              have BK665:=n2_
              have HB:=n3_
              have BK673:=n4_
              have GW673:=n5_
              have GE673:=n6_
              have NB664_673:=n7_
              have NB673_664:=n8_
              have NB665_673:=n9_
              have NB673_665:=n10_
              clear n0_ n1_ n2_ n3_ n4_ n5_ n6_ n7_ n8_ n9_ n10_
              clear hb hbox hg
              refine hK.out _ _ ⟨(blk_cell BK664.out 0).trans rfl,(blk_cell BK664.out 1).trans rfl,(blk_cell BK664.out 2).trans rfl,(blk_cell BK664.out 3).trans rfl,HS4_,HS5_⟩ (fun hHeld => ?_)
              clear hK K
              refine norm_ (a':=_) ap_ ?_
              refine one_ (i:=6) (N:=some 29) #[Tt,Tt,Tt,Tt,Tt,Tt,Tt,Ff,Ff,Ff,Tt,Ff,Ff] rfl rfl (one_of HT_.out (by kernel_rfl)) (by decide) (fun K hK => ?_)
              refine goes_ Tryd.func104 (by kernel_rfl) rfl #[.agg #[.int .i64 a0_0,.int .i64 a0_1,.slice A0_2 l0_2.length c0_2,.slice A0_3 l0_3.length c0_3],.agg #[.int .i64 ((rd_T103 x5_2 x6_1).f0),.int .i64 ((rd_T103 x5_2 x6_1).f1)],.int .i64 x7_2] (by rfl) rfl rfl ob_ ?_
              with_reducible refine (spec_liNext.calls k2 a0_0 a0_1 _ _ l0_2 _ _ l0_3 ((rd_T103 x5_2 x6_1).f0) ((rd_T103 x5_2 x6_1).f1) x7_2 t670 t671 true _ ?side1 ?side2 ?side3 ?side4 A14.out).mono ?_
              (case side1 => exact kc_ (Kd.C_below HR0_2.out HB.out))
              (case side2 => exact HC0_2.out)
              (case side3 => exact kc_ (Kd.C_below HR0_3.out HB.out))
              (case side4 => exact HC0_3.out)
              rintro e w33 ⟨rfl,hb⟩
              have HS4_:=(hb.cell (World.block_lt_of_cell? _ _ (hHeld.2.2.2.2.1))).trans (hHeld.2.2.2.2.1)
              have HS5_:=(hb.cell (World.block_lt_of_cell? _ _ (hHeld.2.2.2.2.2))).trans (hHeld.2.2.2.2.2)
              refine ⟨_,rfl,?_⟩
              have n0_:=Aside0.mk (Kd.R_below (kr_ HO_5.out) hb)
              have n1_:=Aside0.mk (bb_ BK664.out hb)
              have n2_:=Aside0.mk (bb_ BK665.out hb)
              have n3_:=Aside0.mk (bb_ BK673.out hb)
              have n4_:=Aside0.mk (below_step (bl3_ HB.out GE664.out GE665.out GE673.out) hb)
              clear HO_5
              clear BK664
              clear BK665
              clear BK673
              clear HB
              have HO_5:=n0_
              have BK664:=n1_
              have BK665:=n2_
              have BK673:=n3_
              have HB:=n4_
              clear n0_ n1_ n2_ n3_ n4_
              (try clear hb)
              (try clear hb2)
              (try clear hk)
              (try clear hi)
              refine hK.out _ _ ⟨(blk_cell BK664.out 0).trans rfl,(blk_cell BK664.out 1).trans rfl,(blk_cell BK664.out 2).trans rfl,(blk_cell BK664.out 3).trans rfl,HS4_,HS5_⟩ (fun hHeld => ?_)
              clear hK K
              refine norm_ (a':=_) ap_ ?_
              refine pZ (i:=7) (N:=some 22) #[Tt,Tt,Tt,Tt,Tt,Tt,Tt,Tt,Ff,Ff,Tt,Ff,Ff] ?_
              refine pZ (i:=8) (N:=some 30) #[Tt,Tt,Tt,Tt,Tt,Tt,Tt,Tt,Tt,Ff,Tt,Ff,Ff] ?_
              refine pZ (i:=9) (N:=some 31) #[Tt,Tt,Tt,Tt,Tt,Tt,Tt,Tt,Tt,Tt,Tt,Ff,Ff] ?_
              exact norm_ (by simp only [putAll,Act.put,List.setIfInBounds_toArray,List.set_cons_zero,List.set_cons_succ]) (hCont (gb673) _ ⟨hHeld,(kr_ HO_5.out),(bk_ BK664.out),(bk_ BK665.out),(bk_ BK673.out),GW673.out,GE673.out,NB664_673.out,NB673_664.out,NB665_673.out,NB673_665.out,(bl3_ HB.out GE664.out GE665.out GE673.out)⟩)
            rintro gb673 w34 ⟨hS_,h0_,h1_,h2_,h3_,h4_,h5_,h6_,h7_,h8_,h9_,h10_⟩
            have n0_:Aside0 (Kd.R k103 103 w34 w.heap.size (fun k_ => k_ ≠ gb665 ∧ k_ ≠ gb673) (.slice (some ad669) x5_2.length co31) x5_2):=⟨h0_⟩
            have n1_:Aside0 (w34.heap[gb664]? = some (.cells #[.int .i64 a0_0,.int .i64 a0_1,.slice A0_2 l0_2.length c0_2,.slice A0_3 l0_3.length c0_3] 26 (0,0))):=⟨h1_⟩
            have n2_:Aside0 (w34.heap[gb665]? = some (.cells #[.int .i64 a1_0,.int .i64 a1_1] 103 (0,0))):=⟨h2_⟩
            have n3_:Aside0 (w34.heap[gb673]? = some (.cells #[.int .i64 0,.int .i64 0] 103 (0,0))):=⟨h3_⟩
            have n4_:Aside0 (w.heap.size ≤ gb673):=⟨h4_⟩
            have n5_:Aside0 (w.heap.size ≤ gb673):=⟨h5_⟩
            have n6_:Aside0 (gb664 ≠ gb673):=⟨h6_⟩
            have n7_:Aside0 (gb673 ≠ gb664):=⟨h7_⟩
            have n8_:Aside0 (gb665 ≠ gb673):=⟨h8_⟩
            have n9_:Aside0 (gb673 ≠ gb665):=⟨h9_⟩
            have n10_:Aside0 (Below w.heap.size w w34):=⟨h10_⟩
            clear HO_5
            clear BK664
            clear BK665
            clear HB
            clear h0_ h1_ h2_ h3_ h4_ h5_ h6_ h7_ h8_ h9_ h10_
            have HO_5:=n0_
            have BK664:=n1_
            have BK665:=n2_
            have BK673:=n3_
            have GW673:=n4_
            have GE673:=n5_
            have NB664_673:=n6_
            have NB673_664:=n7_
            have NB665_673:=n8_
            have NB673_665:=n9_
            have HB:=n10_
            clear n0_ n1_ n2_ n3_ n4_ n5_ n6_ n7_ n8_ n9_ n10_
            have hHeld:w34.cell? ⟨gb664,0,none⟩ = some (.int .i64 a0_0) ∧ w34.cell? ⟨gb664,1,none⟩ = some (.int .i64 a0_1) ∧ w34.cell? ⟨gb664,2,none⟩ = some (.slice A0_2 l0_2.length c0_2) ∧ w34.cell? ⟨gb664,3,none⟩ = some (.slice A0_3 l0_3.length c0_3) ∧ w34.cell? (ad669.add ((x6_1).toNat * 2)) = some (.int .i64 ((rd_T103 x5_2 x6_1).f0)) ∧ w34.cell? ⟨(ad669.add ((x6_1).toNat * 2)).block,(ad669.add ((x6_1).toNat * 2)).off + 1,none⟩ = some (.int .i64 ((rd_T103 x5_2 x6_1).f1)):=hS_
            refine norm_ (a':=?_) ?_ ?_
            rotate_left
            ·simp only [putAll,Act.put,List.setIfInBounds_toArray,List.set_cons_zero,List.set_cons_succ]
             rfl
            refine one_ (i:=11) (N:=none) #[Tt,Tt,Tt,Tt,Tt,Tt,Tt,Tt,Tt,Tt,Tt,Tt,Ff] rfl rfl (one_of HT_.out (by kernel_rfl)) (by decide) (fun K hK => ?_)
            have hs35:w34.cell? ⟨gb673,0,none⟩ = some (.int .i64 0):=(blk_cell BK673.out 0).trans rfl
            have hfs35:=blk_frozen BK673.out 0
            have hns35_0:=NB664_673.out
            have hns35_1:=NB665_673.out
            have hms35_0:=NB673_664.out
            have hms35_1:=NB673_665.out
            have hs36:w34.cell? ⟨gb673,1,none⟩ = some (.int .i64 0):=(blk_cell BK673.out 1).trans rfl
            have hfs36:=blk_frozen BK673.out 1
            have hns36_0:=NB664_673.out
            have hns36_1:=NB665_673.out
            have hms36_0:=NB673_664.out
            have hms36_1:=NB673_665.out
            refine skip_ (w1:=?_) (by rfl) rfl ?_ ?_
            rotate_left
            ·go_simp
             rfl
            refine hK.out _ _ ⟨((cell_far (p:=⟨gb673,_,none⟩) NB664_673.out _).trans (((cell_far (p:=⟨gb673,_,none⟩) NB664_673.out _).trans (hHeld.1)))),((cell_far (p:=⟨gb673,_,none⟩) NB664_673.out _).trans (((cell_far (p:=⟨gb673,_,none⟩) NB664_673.out _).trans (hHeld.2.1)))),((cell_far (p:=⟨gb673,_,none⟩) NB664_673.out _).trans (((cell_far (p:=⟨gb673,_,none⟩) NB664_673.out _).trans (hHeld.2.2.1)))),((cell_far (p:=⟨gb673,_,none⟩) NB664_673.out _).trans (((cell_far (p:=⟨gb673,_,none⟩) NB664_673.out _).trans (hHeld.2.2.2.1)))),((cell_far (p:=⟨gb673,_,none⟩) (by first | exact Kd.own_blk (Kd.R_away HO_5.out (fun _ hk => hk.2)) | (rw [add_block]; exact Kd.own_blk (Kd.R_away HO_5.out (fun _ hk => hk.2))) | (show (Addr.add _ _).block ≠ _; rw [add_block]; exact Kd.own_blk (Kd.R_away HO_5.out (fun _ hk => hk.2))) | (dsimp only; exact Kd.own_blk (Kd.R_away HO_5.out (fun _ hk => hk.2)))) _).trans (((cell_far (p:=⟨gb673,_,none⟩) (by first | exact Kd.own_blk (Kd.R_away HO_5.out (fun _ hk => hk.2)) | (rw [add_block]; exact Kd.own_blk (Kd.R_away HO_5.out (fun _ hk => hk.2))) | (show (Addr.add _ _).block ≠ _; rw [add_block]; exact Kd.own_blk (Kd.R_away HO_5.out (fun _ hk => hk.2))) | (dsimp only; exact Kd.own_blk (Kd.R_away HO_5.out (fun _ hk => hk.2)))) _).trans (hHeld.2.2.2.2.1)))),((cell_far (p:=⟨gb673,_,none⟩) (by first | exact Kd.own_blk (Kd.R_away HO_5.out (fun _ hk => hk.2)) | (rw [add_block]; exact Kd.own_blk (Kd.R_away HO_5.out (fun _ hk => hk.2))) | (show (Addr.add _ _).block ≠ _; rw [add_block]; exact Kd.own_blk (Kd.R_away HO_5.out (fun _ hk => hk.2))) | (dsimp only; exact Kd.own_blk (Kd.R_away HO_5.out (fun _ hk => hk.2)))) _).trans (((cell_far (p:=⟨gb673,_,none⟩) (by first | exact Kd.own_blk (Kd.R_away HO_5.out (fun _ hk => hk.2)) | (rw [add_block]; exact Kd.own_blk (Kd.R_away HO_5.out (fun _ hk => hk.2))) | (show (Addr.add _ _).block ≠ _; rw [add_block]; exact Kd.own_blk (Kd.R_away HO_5.out (fun _ hk => hk.2))) | (dsimp only; exact Kd.own_blk (Kd.R_away HO_5.out (fun _ hk => hk.2)))) _).trans (hHeld.2.2.2.2.2))))⟩ (fun hHeld => ?_)
            clear hK K
            refine pZ (i:=12) (N:=some 9) #[Tt,Tt,Tt,Tt,Tt,Tt,Tt,Tt,Tt,Tt,Tt,Tt,Tt] ?_
            refine done_ (done_of HT_.out (by kernel_rfl)) ?_
            have hnb37:=NB673_664.out
            have hnc37:=NB664_673.out
            have hnb38:=NB673_665.out
            have hnc38:=NB665_673.out
            have hcz39_0:w34.cell? ⟨gb673,0,none⟩ = some (.int .i64 0):=(blk_cell BK673.out 0).trans rfl
            have hcz39_1:w34.cell? ⟨gb673,1,none⟩ = some (.int .i64 0):=(blk_cell BK673.out 1).trans rfl
            have hfz39_0:=blk_frozen BK673.out 0
            have hfz39_1:=blk_frozen BK673.out 1
            try go_wp2_with (first | (go_at_call 110; (with_reducible refine (spec_liHas.calls k2 _ _ x5_2 t670 t671 false _ ?side1 ?side2 A16.out).mono ?_); (case side1 => refine (Kd.R_reads' (e:=103) (base:=w.heap.size) (ok:=fun k_ => (k_ ≠ gb665 ∧ k_ ≠ gb673)) (n:=x5_2.length) (c:=co31) ?_).2.2; exact (by (with_reducible repeat (first | apply Kd.R_alloc | apply Kd.R_drewN | apply Kd.R_drew)); exact (Kd.R_mono (Kd.R_far (p:=⟨gb673,1,none⟩) (Kd.R_far (p:=⟨gb673,0,none⟩) (Kd.R_mono HO_5.out (fun k_ hk => (⟨hk,hk.2⟩:_ ∧ k_ ≠ gb673))) (fun _ hk => hk.2) (.int .i64 t670)) (fun _ hk => hk.2) (.int .i64 t671)) (fun _ h_ => h_.1)))); (case side2 => exact (Kd.R_reads' HO_5.out).2.1); rintro e w40 ⟨rfl,hb⟩; have n0_:=Aside0.mk (Kd.R_below (by (with_reducible repeat (first | apply Kd.R_alloc | apply Kd.R_drewN | apply Kd.R_drew)); exact (Kd.R_mono (Kd.R_far (p:=⟨gb673,1,none⟩) (Kd.R_far (p:=⟨gb673,0,none⟩) (Kd.R_mono HO_5.out (fun k_ hk => (⟨hk,hk.2⟩:_ ∧ k_ ≠ gb673))) (fun _ hk => hk.2) (.int .i64 t670)) (fun _ hk => hk.2) (.int .i64 t671)) (fun _ h_ => h_.1))) hb); have n1_:=Aside0.mk (blk_below (g:=gb664) (o:=.cells #[.int .i64 a0_0,.int .i64 a0_1,.slice A0_2 l0_2.length c0_2,.slice A0_3 l0_3.length c0_3] 26 (0,0)) (bf2_ NB664_673.out NB664_673.out BK664.out) hb); have n2_:=Aside0.mk (blk_below (g:=gb665) (o:=.cells #[.int .i64 a1_0,.int .i64 a1_1] 103 (0,0)) (bf2_ NB665_673.out NB665_673.out BK665.out) hb); have n3_:=Aside0.mk (blk_below (g:=gb673) (o:=.cells #[.int .i64 t670,.int .i64 t671] 103 (0,0)) (by (with_reducible repeat (first | refine blk_drewN ?_ _ | refine blk_drew ?_ | refine blk_alloc ?_ _)); refine blk_put (cs:=#[.int .i64 t670,.int .i64 0]) ?_ 1 _ rfl; (with_reducible repeat (first | refine blk_drewN ?_ _ | refine blk_drew ?_ | refine blk_alloc ?_ _)); refine blk_put (cs:=#[.int .i64 0,.int .i64 0]) ?_ 0 _ rfl; (with_reducible repeat (first | refine blk_drewN ?_ _ | refine blk_drew ?_ | refine blk_alloc ?_ _)); exact BK673.out) hb); have n4_:=Aside0.mk (below_step (bl3_ HB.out GE664.out GE665.out GE673.out) hb); clear HO_5; clear BK664; clear BK665; clear BK673; clear HB; have HO_5:=n0_; have BK664:=n1_; have BK665:=n2_; have BK673:=n3_; have HB:=n4_; clear n0_ n1_ n2_ n3_ n4_; (try clear hb); (try clear hb2); (try clear hk); (try clear hi); have hcz41_0:w40.cell? ⟨gb673,0,none⟩ = some (.int .i64 t670):=(blk_cell BK673.out 0).trans rfl; have hcz41_1:w40.cell? ⟨gb673,1,none⟩ = some (.int .i64 t671):=(blk_cell BK673.out 1).trans rfl; have hfz41_0:=blk_frozen BK673.out 0; have hfz41_1:=blk_frozen BK673.out 1) | ((with_reducible refine gate_builtin (b:=.append) (xs:=#[.tmp 39,.tmp 41]) rfl ?_); at_builtin; refine Kd.R_append k103 (w0:=w) w.heap.size rfl (.tmp 39) (.tmp 41) 104 103 (.agg #[(.int .i64 0),(.int .i64 0)]) 16 rfl Tryd.underlying104 info103 rfl (by decide) (by omega) (.slice (some ad669) x5_2.length co31) x5_2 (⟨t670,t671⟩:S103) [.int .i64 t670,.int .i64 t671] (fun k_ => k_ ≠ gb665 ∧ k_ ≠ gb673) (fun _ => False) rfl rfl ?aP (fun _ hk => hk.elim) ?aF ?aO ?aB ?aS ?aL ?_; (case aP => exact k103_mkM _ _ _ (⟨t670,t671⟩:S103)); (case aB => exact (bl3_ HB.out GE664.out GE665.out GE673.out)); (case aF => exact (fun k_ hk => ⟨Kd.freshB (g:=gb665) (o:=.cells #[.int .i64 a1_0,.int .i64 a1_1] 103 (0,0)) (bk_ BK665.out) k_ hk,Kd.freshB (g:=gb673) (o:=.cells #[.int .i64 t670,.int .i64 t671] 103 (0,0)) (bk_ BK673.out) k_ hk⟩)); (case aO => exact (kr_ HO_5.out)); (case aS => exact (below_size (bl3_ HB.out GE664.out GE665.out GE673.out))); (case aL => have:=LMc29.out; omega); intro v676 w42 ho hb hg hat; rw [← Ny675.out] at ho; have n0_:=Aside0.mk (blk_grown (g:=gb664) (o:=.cells #[.int .i64 a0_0,.int .i64 a0_1,.slice A0_2 l0_2.length c0_2,.slice A0_3 l0_3.length c0_3] 26 (0,0)) (bk_ BK664.out) hg (Kd.R_ne HO_5.out BK664.out (by decide))); have n1_:=Aside0.mk (blk_grown (g:=gb665) (o:=.cells #[.int .i64 a1_0,.int .i64 a1_1] 103 (0,0)) (bk_ BK665.out) hg (Kd.R_away HO_5.out (fun _ hk => hk.1))); have n2_:=Aside0.mk (blk_grown (g:=gb673) (o:=.cells #[.int .i64 t670,.int .i64 t671] 103 (0,0)) (bk_ BK673.out) hg (Kd.R_away HO_5.out (fun _ hk => hk.2))); have n3_:=Aside0.mk (hb); have n4_:=Aside0.mk (ho); clear BK664; clear BK665; clear BK673; clear HB; clear HO_5; have BK664:=n0_; have BK665:=n1_; have BK673:=n2_; have HB:=n3_; have HO677:=n4_; clear n0_ n1_ n2_ n3_ n4_; clear ho hb hg hat))
            go_roundg k2
            case measure => have:=HK1.out; have:=HK2.out; omega
            case rel => exact ⟨(y675),(wrap64 (x7_2 + 1)),rs_,H',⟨by have:=HK1.out; have:=HK2.out; omega⟩,⟨by (with_reducible repeat (first | apply Kd.R_alloc | apply Kd.R_drewN | apply Kd.R_drew)); exact Kd.R_mono HO677.out (fun _ hk => hk.1)⟩,⟨bk_ BK664.out⟩,⟨bk_ BK665.out⟩,⟨bl3_ HB.out GE664.out GE665.out GE673.out⟩⟩
           ·rw [if_neg c29] at H
            exact absurd H (by simp)
         ·replace c15:=Bool.eq_false_iff.mpr c15
          subst c15
          have H1:(spec_liReach.l1 k2 x5_2 x6_1 (wrap64 (x7_2 + 1)) a0_0 a0_1 l0_2 l0_3) = some r:=by rw [if_neg (show ¬ (false = true) by decide)] at H; exact H
          clear H
          have H:=H1
          clear H1
          have H':=Aside0.mk H
          clear H
          try go_wp2
          have n0_:=Aside0.mk (Kd.R_drew HO_5.out)
          have n1_:=Aside0.mk (blk_drew BK664.out)
          have n2_:=Aside0.mk (blk_drew BK665.out)
          have n3_:=Aside0.mk (below_drew1 HB.out)
          clear HO_5
          clear BK664
          clear BK665
          clear HB
          have HO_5:=n0_
          have BK664:=n1_
          have BK665:=n2_
          have HB:=n3_
          clear n0_ n1_ n2_ n3_
          obtain ⟨Ao44,co44,eo44⟩:=Kd.R_slice HO_5.out
          (first | subst eo44 | (injection eo44 with f1_ f2_ f3_; have f4_:=f1_.symm; have f5_:=f3_.symm; clear f1_ f2_ f3_; subst f4_; subst f5_))
          have p669:0 ≤ (x6_1:Int):=of_decide_eq_true as_
          have q669:x6_1 < (x5_2.length:Int):=of_decide_eq_true as_
          obtain ⟨ad669,e669,hx669_0,hx669_1⟩:=at_T103 (Kd.R_reads' HO_5.out).2.2 x6_1 p669 q669
          cases e669
          replace p669:=eq_true p669
          replace q669:=eq_true q669
          refine start_ (n:=13) (S:=fun w' => w'.cell? ⟨gb664,0,none⟩ = some (.int .i64 a0_0) ∧ w'.cell? ⟨gb664,1,none⟩ = some (.int .i64 a0_1) ∧ w'.cell? ⟨gb664,2,none⟩ = some (.slice A0_2 l0_2.length c0_2) ∧ w'.cell? ⟨gb664,3,none⟩ = some (.slice A0_3 l0_3.length c0_3) ∧ w'.cell? (ad669.add ((x6_1).toNat * 2)) = some (.int .i64 ((rd_T103 x5_2 x6_1).f0)) ∧ w'.cell? ⟨(ad669.add ((x6_1).toNat * 2)).block,(ad669.add ((x6_1).toNat * 2)).off + 1,none⟩ = some (.int .i64 ((rd_T103 x5_2 x6_1).f1))) (ds:=[]) #[Ff,Ff,Ff,Ff,Ff,Ff,Ff,Ff,Ff,Ff,Ff,Ff,Ff] (by kernel_rfl) rfl rfl ⟨(blk_cell BK664.out 0).trans rfl,(blk_cell BK664.out 1).trans rfl,(blk_cell BK664.out 2).trans rfl,(blk_cell BK664.out 3).trans rfl,hx669_0,hx669_1⟩ (fun hHeld => ?_); refine with_tabW spec_liReach.tab8 spec_liReach.bits8 (fun HT_ HW_ => ?_)
          generalize wr.drew = w43 at HO_5 BK664 BK665 HB hx669_0 hx669_1 hHeld ⊢
          refine pZ (i:=1) (N:=some 24) #[Ff,Tt,Ff,Ff,Ff,Ff,Ff,Ff,Ff,Ff,Ff,Ff,Ff] ?_
          refine pZ (i:=2) (N:=some 25) #[Ff,Tt,Tt,Ff,Ff,Ff,Ff,Ff,Ff,Ff,Ff,Ff,Ff] ?_
          refine pZ (i:=3) (N:=some 26) #[Ff,Tt,Tt,Tt,Ff,Ff,Ff,Ff,Ff,Ff,Ff,Ff,Ff] ?_
          refine pZ (i:=5) (N:=some 28) #[Ff,Tt,Tt,Tt,Ff,Tt,Ff,Ff,Ff,Ff,Ff,Ff,Ff] ?_
          refine tZ (i:=0) (N:=some 23) #[Tt,Tt,Tt,Tt,Ff,Tt,Ff,Ff,Ff,Ff,Ff,Ff,Ff] ?_
          refine tZ (i:=4) (N:=some 27) #[Tt,Tt,Tt,Tt,Tt,Tt,Ff,Ff,Ff,Ff,Ff,Ff,Ff] ?_
          refine join_ (σ:=Nat) 2 #[Tt,Tt,Tt,Tt,Tt,Tt,Tt,Tt,Tt,Tt,Tt,Ff,Ff] (fun s_ => [(29,.tuple #[.agg #[.int .i64 t670,.int .i64 t671],.bool false]),(8,.pointer (some ⟨s_,0,none⟩)),(22,.tuple #[.agg #[.int .i64 t670,.int .i64 t671],.bool false]),(30,.agg #[.int .i64 t670,.int .i64 t671]),(31,.bool false)]) (fun s_ w' => (w'.cell? ⟨gb664,0,none⟩ = some (.int .i64 a0_0) ∧ w'.cell? ⟨gb664,1,none⟩ = some (.int .i64 a0_1) ∧ w'.cell? ⟨gb664,2,none⟩ = some (.slice A0_2 l0_2.length c0_2) ∧ w'.cell? ⟨gb664,3,none⟩ = some (.slice A0_3 l0_3.length c0_3) ∧ w'.cell? (ad669.add ((x6_1).toNat * 2)) = some (.int .i64 ((rd_T103 x5_2 x6_1).f0)) ∧ w'.cell? ⟨(ad669.add ((x6_1).toNat * 2)).block,(ad669.add ((x6_1).toNat * 2)).off + 1,none⟩ = some (.int .i64 ((rd_T103 x5_2 x6_1).f1))) ∧ (Kd.R k103 103 w' w.heap.size (fun k_ => k_ ≠ gb665 ∧ k_ ≠ s_) (.slice (some ad669) x5_2.length co44) x5_2) ∧ (w'.heap[gb664]? = some (.cells #[.int .i64 a0_0,.int .i64 a0_1,.slice A0_2 l0_2.length c0_2,.slice A0_3 l0_3.length c0_3] 26 (0,0))) ∧ (w'.heap[gb665]? = some (.cells #[.int .i64 a1_0,.int .i64 a1_1] 103 (0,0))) ∧ (w'.heap[s_]? = some (.cells #[.int .i64 0,.int .i64 0] 103 (0,0))) ∧ (w.heap.size ≤ s_) ∧ (w.heap.size ≤ s_) ∧ (gb664 ≠ s_) ∧ (s_ ≠ gb664) ∧ (gb665 ≠ s_) ∧ (s_ ≠ gb665) ∧ (Below w.heap.size w w')) ?_ ?_
          rotate_left
          ·intro hCont
           refine two_ (i:=6) (j:=10) (Ni:=some 29) (Nj:=some 8) #[Tt,Tt,Tt,Tt,Tt,Tt,Tt,Ff,Ff,Ff,Ff,Ff,Ff] #[Tt,Tt,Tt,Tt,Tt,Tt,Ff,Ff,Ff,Ff,Tt,Ff,Ff] rfl rfl rfl rfl (two_of HT_.out (by kernel_rfl)) (by decide) (by decide) (fun K hK => ?_) (fun K hK => ?_)
           ·skip
            refine goes_ Tryd.func104 (by kernel_rfl) rfl #[.agg #[.int .i64 a0_0,.int .i64 a0_1,.slice A0_2 l0_2.length c0_2,.slice A0_3 l0_3.length c0_3],.agg #[.int .i64 ((rd_T103 x5_2 x6_1).f0),.int .i64 ((rd_T103 x5_2 x6_1).f1)],.int .i64 x7_2] (by rfl) rfl rfl ob_ ?_
            with_reducible refine (spec_liNext.calls k2 a0_0 a0_1 _ _ l0_2 _ _ l0_3 ((rd_T103 x5_2 x6_1).f0) ((rd_T103 x5_2 x6_1).f1) x7_2 t670 t671 false _ ?side1 ?side2 ?side3 ?side4 A14.out).mono ?_
            (case side1 => exact kc_ (Kd.C_below HR0_2.out HB.out))
            (case side2 => exact HC0_2.out)
            (case side3 => exact kc_ (Kd.C_below HR0_3.out HB.out))
            (case side4 => exact HC0_3.out)
            rintro e w45 ⟨rfl,hb⟩
            have HS4_:=(hb.cell (World.block_lt_of_cell? _ _ (hHeld.2.2.2.2.1))).trans (hHeld.2.2.2.2.1)
            have HS5_:=(hb.cell (World.block_lt_of_cell? _ _ (hHeld.2.2.2.2.2))).trans (hHeld.2.2.2.2.2)
            refine ⟨_,rfl,?_⟩
            have n0_:=Aside0.mk (Kd.R_below (kr_ HO_5.out) hb)
            have n1_:=Aside0.mk (bb_ BK664.out hb)
            have n2_:=Aside0.mk (bb_ BK665.out hb)
            have n3_:=Aside0.mk (below_step (bl2_ HB.out GE664.out GE665.out) hb)
            clear HO_5
            clear BK664
            clear BK665
            clear HB
            have HO_5:=n0_
            have BK664:=n1_
            have BK665:=n2_
            have HB:=n3_
            clear n0_ n1_ n2_ n3_
            (try clear hb)
            (try clear hb2)
            (try clear hk)
            (try clear hi)
            refine hK.out _ _ ⟨(blk_cell BK664.out 0).trans rfl,(blk_cell BK664.out 1).trans rfl,(blk_cell BK664.out 2).trans rfl,(blk_cell BK664.out 3).trans rfl,HS4_,HS5_⟩ (fun hHeld => ?_)
            clear hK K
            refine norm_ (a':=_) ap_ ?_
            refine pZ (i:=7) (N:=some 22) #[Tt,Tt,Tt,Tt,Tt,Tt,Tt,Tt,Ff,Ff,Ff,Ff,Ff] ?_
            refine pZ (i:=8) (N:=some 30) #[Tt,Tt,Tt,Tt,Tt,Tt,Tt,Tt,Tt,Ff,Ff,Ff,Ff] ?_
            refine pZ (i:=9) (N:=some 31) #[Tt,Tt,Tt,Tt,Tt,Tt,Tt,Tt,Tt,Tt,Ff,Ff,Ff] ?_
            refine one_ (i:=10) (N:=some 8) #[Tt,Tt,Tt,Tt,Tt,Tt,Tt,Tt,Tt,Tt,Tt,Ff,Ff] rfl rfl (one_of HT_.out (by kernel_rfl)) (by decide) (fun K hK => ?_)
            refine box_step ?hg (N:=8) ?hd (cs:=#[.int .i64 0,.int .i64 0]) (t:=103) ?hr ?_; (case hd => rfl); (case hg => rfl); (case hr => first | (go_simp; done) | (go_simp; rfl))
            intro gb673 hg w46 hbox hb
            have HS4_:=(hb.cell (World.block_lt_of_cell? _ _ (hHeld.2.2.2.2.1))).trans (hHeld.2.2.2.2.1)
            have HS5_:=(hb.cell (World.block_lt_of_cell? _ _ (hHeld.2.2.2.2.2))).trans (hHeld.2.2.2.2.2)
            have n0_:=Aside0.mk (Kd.R_below (Kd.R_elderB (kr_ HO_5.out) gb673 (Nat.le_of_eq hg.symm)) hb)
            have n1_:=Aside0.mk (bb_ BK664.out hb)
            have n2_:=Aside0.mk (bb_ BK665.out hb)
            have n3_:=Aside0.mk (below_step (bl2_ HB.out GE664.out GE665.out) hb)
            have n4_:=Aside0.mk (hbox)
            have n5_:=Aside0.mk ((bs2_ hg HB.out GE664.out GE665.out:w.heap.size ≤ gb673))
            have n6_:=Aside0.mk ((bs2_ hg HB.out GE664.out GE665.out:w.heap.size ≤ gb673))
            have n7_:=Aside0.mk ((nl_ hg BK664.out:gb664 ≠ gb673))
            have n8_:=Aside0.mk ((ng_ hg BK664.out:gb673 ≠ gb664))
            have n9_:=Aside0.mk ((nl_ hg BK665.out:gb665 ≠ gb673))
            have n10_:=Aside0.mk ((ng_ hg BK665.out:gb673 ≠ gb665))
            clear HO_5
            clear BK664
            clear BK665
            clear HB
            have HO_5:=n0_
            have BK664:=n1_
            have BK665:=n2_
            have HB:=n3_
            have BK673:=n4_
            have GW673:=n5_
            have GE673:=n6_
            have NB664_673:=n7_
            have NB673_664:=n8_
            have NB665_673:=n9_
            have NB673_665:=n10_
            clear n0_ n1_ n2_ n3_ n4_ n5_ n6_ n7_ n8_ n9_ n10_
            clear hb hbox hg
            refine hK.out _ _ ⟨(blk_cell BK664.out 0).trans rfl,(blk_cell BK664.out 1).trans rfl,(blk_cell BK664.out 2).trans rfl,(blk_cell BK664.out 3).trans rfl,HS4_,HS5_⟩ (fun hHeld => ?_)
            clear hK K
            refine norm_ (a':=_) ap_ ?_
            exact norm_ (by simp only [putAll,Act.put,List.setIfInBounds_toArray,List.set_cons_zero,List.set_cons_succ]) (hCont (gb673) _ ⟨hHeld,(kr_ HO_5.out),(bk_ BK664.out),(bk_ BK665.out),(bk_ BK673.out),GW673.out,GE673.out,NB664_673.out,NB673_664.out,NB665_673.out,NB673_665.out,(bl3_ HB.out GE664.out GE665.out GE673.out)⟩)
           ·skip
            refine box_step ?hg (N:=8) ?hd (cs:=#[.int .i64 0,.int .i64 0]) (t:=103) ?hr ?_; (case hd => rfl); (case hg => rfl); (case hr => first | (go_simp; done) | (go_simp; rfl))
            intro gb673 hg w45 hbox hb
            have HS4_:=(hb.cell (World.block_lt_of_cell? _ _ (hHeld.2.2.2.2.1))).trans (hHeld.2.2.2.2.1)
            have HS5_:=(hb.cell (World.block_lt_of_cell? _ _ (hHeld.2.2.2.2.2))).trans (hHeld.2.2.2.2.2)
            have n0_:=Aside0.mk (Kd.R_below (Kd.R_elderB (kr_ HO_5.out) gb673 (Nat.le_of_eq hg.symm)) hb)
            have n1_:=Aside0.mk (bb_ BK664.out hb)
            have n2_:=Aside0.mk (bb_ BK665.out hb)
            have n3_:=Aside0.mk (below_step (bl2_ HB.out GE664.out GE665.out) hb)
            have n4_:=Aside0.mk (hbox)
            have n5_:=Aside0.mk ((bs2_ hg HB.out GE664.out GE665.out:w.heap.size ≤ gb673))
            have n6_:=Aside0.mk ((bs2_ hg HB.out GE664.out GE665.out:w.heap.size ≤ gb673))
            have n7_:=Aside0.mk ((nl_ hg BK664.out:gb664 ≠ gb673))
            have n8_:=Aside0.mk ((ng_ hg BK664.out:gb673 ≠ gb664))
            have n9_:=Aside0.mk ((nl_ hg BK665.out:gb665 ≠ gb673))
            have n10_:=Aside0.mk ((ng_ hg BK665.out:gb673 ≠ gb665))
            clear HO_5
            clear BK664
            clear BK665
            clear HB
            have HO_5:=n0_
            have BK664:=n1_
            have BK665:=n2_
            have HB:=n3_
            have BK673:=n4_
            have GW673:=n5_
            have GE673:=n6_
            have NB664_673:=n7_
            have NB673_664:=n8_
            have NB665_673:=n9_
            have NB673_665:=n10_
            clear n0_ n1_ n2_ n3_ n4_ n5_ n6_ n7_ n8_ n9_ n10_
            clear hb hbox hg
            refine hK.out _ _ ⟨(blk_cell BK664.out 0).trans rfl,(blk_cell BK664.out 1).trans rfl,(blk_cell BK664.out 2).trans rfl,(blk_cell BK664.out 3).trans rfl,HS4_,HS5_⟩ (fun hHeld => ?_)
            clear hK K
            refine norm_ (a':=_) ap_ ?_
            refine one_ (i:=6) (N:=some 29) #[Tt,Tt,Tt,Tt,Tt,Tt,Tt,Ff,Ff,Ff,Tt,Ff,Ff] rfl rfl (one_of HT_.out (by kernel_rfl)) (by decide) (fun K hK => ?_)
            refine goes_ Tryd.func104 (by kernel_rfl) rfl #[.agg #[.int .i64 a0_0,.int .i64 a0_1,.slice A0_2 l0_2.length c0_2,.slice A0_3 l0_3.length c0_3],.agg #[.int .i64 ((rd_T103 x5_2 x6_1).f0),.int .i64 ((rd_T103 x5_2 x6_1).f1)],.int .i64 x7_2] (by rfl) rfl rfl ob_ ?_
            with_reducible refine (spec_liNext.calls k2 a0_0 a0_1 _ _ l0_2 _ _ l0_3 ((rd_T103 x5_2 x6_1).f0) ((rd_T103 x5_2 x6_1).f1) x7_2 t670 t671 false _ ?side1 ?side2 ?side3 ?side4 A14.out).mono ?_
            (case side1 => exact kc_ (Kd.C_below HR0_2.out HB.out))
            (case side2 => exact HC0_2.out)
            (case side3 => exact kc_ (Kd.C_below HR0_3.out HB.out))
            (case side4 => exact HC0_3.out)
            rintro e w46 ⟨rfl,hb⟩
            have HS4_:=(hb.cell (World.block_lt_of_cell? _ _ (hHeld.2.2.2.2.1))).trans (hHeld.2.2.2.2.1)
            have HS5_:=(hb.cell (World.block_lt_of_cell? _ _ (hHeld.2.2.2.2.2))).trans (hHeld.2.2.2.2.2)
            refine ⟨_,rfl,?_⟩
            have n0_:=Aside0.mk (Kd.R_below (kr_ HO_5.out) hb)
            have n1_:=Aside0.mk (bb_ BK664.out hb)
            have n2_:=Aside0.mk (bb_ BK665.out hb)
            have n3_:=Aside0.mk (bb_ BK673.out hb)
            have n4_:=Aside0.mk (below_step (bl3_ HB.out GE664.out GE665.out GE673.out) hb)
            clear HO_5
            clear BK664
            clear BK665
            clear BK673
            clear HB
            have HO_5:=n0_
            have BK664:=n1_
            have BK665:=n2_
            have BK673:=n3_
            have HB:=n4_
            clear n0_ n1_ n2_ n3_ n4_
            (try clear hb)
            (try clear hb2)
            (try clear hk)
            (try clear hi)
            refine hK.out _ _ ⟨(blk_cell BK664.out 0).trans rfl,(blk_cell BK664.out 1).trans rfl,(blk_cell BK664.out 2).trans rfl,(blk_cell BK664.out 3).trans rfl,HS4_,HS5_⟩ (fun hHeld => ?_)
            clear hK K
            refine norm_ (a':=_) ap_ ?_
            refine pZ (i:=7) (N:=some 22) #[Tt,Tt,Tt,Tt,Tt,Tt,Tt,Tt,Ff,Ff,Tt,Ff,Ff] ?_
            refine pZ (i:=8) (N:=some 30) #[Tt,Tt,Tt,Tt,Tt,Tt,Tt,Tt,Tt,Ff,Tt,Ff,Ff] ?_
            refine pZ (i:=9) (N:=some 31) #[Tt,Tt,Tt,Tt,Tt,Tt,Tt,Tt,Tt,Tt,Tt,Ff,Ff] ?_
            exact norm_ (by simp only [putAll,Act.put,List.setIfInBounds_toArray,List.set_cons_zero,List.set_cons_succ]) (hCont (gb673) _ ⟨hHeld,(kr_ HO_5.out),(bk_ BK664.out),(bk_ BK665.out),(bk_ BK673.out),GW673.out,GE673.out,NB664_673.out,NB673_664.out,NB665_673.out,NB673_665.out,(bl3_ HB.out GE664.out GE665.out GE673.out)⟩)
          rintro gb673 w47 ⟨hS_,h0_,h1_,h2_,h3_,h4_,h5_,h6_,h7_,h8_,h9_,h10_⟩
          have n0_:Aside0 (Kd.R k103 103 w47 w.heap.size (fun k_ => k_ ≠ gb665 ∧ k_ ≠ gb673) (.slice (some ad669) x5_2.length co44) x5_2):=⟨h0_⟩
          have n1_:Aside0 (w47.heap[gb664]? = some (.cells #[.int .i64 a0_0,.int .i64 a0_1,.slice A0_2 l0_2.length c0_2,.slice A0_3 l0_3.length c0_3] 26 (0,0))):=⟨h1_⟩
          have n2_:Aside0 (w47.heap[gb665]? = some (.cells #[.int .i64 a1_0,.int .i64 a1_1] 103 (0,0))):=⟨h2_⟩
          have n3_:Aside0 (w47.heap[gb673]? = some (.cells #[.int .i64 0,.int .i64 0] 103 (0,0))):=⟨h3_⟩
          have n4_:Aside0 (w.heap.size ≤ gb673):=⟨h4_⟩
          have n5_:Aside0 (w.heap.size ≤ gb673):=⟨h5_⟩
          have n6_:Aside0 (gb664 ≠ gb673):=⟨h6_⟩
          have n7_:Aside0 (gb673 ≠ gb664):=⟨h7_⟩
          have n8_:Aside0 (gb665 ≠ gb673):=⟨h8_⟩
          have n9_:Aside0 (gb673 ≠ gb665):=⟨h9_⟩
          have n10_:Aside0 (Below w.heap.size w w47):=⟨h10_⟩
          clear HO_5
          clear BK664
          clear BK665
          clear HB
          clear h0_ h1_ h2_ h3_ h4_ h5_ h6_ h7_ h8_ h9_ h10_
          have HO_5:=n0_
          have BK664:=n1_
          have BK665:=n2_
          have BK673:=n3_
          have GW673:=n4_
          have GE673:=n5_
          have NB664_673:=n6_
          have NB673_664:=n7_
          have NB665_673:=n8_
          have NB673_665:=n9_
          have HB:=n10_
          clear n0_ n1_ n2_ n3_ n4_ n5_ n6_ n7_ n8_ n9_ n10_
          have hHeld:w47.cell? ⟨gb664,0,none⟩ = some (.int .i64 a0_0) ∧ w47.cell? ⟨gb664,1,none⟩ = some (.int .i64 a0_1) ∧ w47.cell? ⟨gb664,2,none⟩ = some (.slice A0_2 l0_2.length c0_2) ∧ w47.cell? ⟨gb664,3,none⟩ = some (.slice A0_3 l0_3.length c0_3) ∧ w47.cell? (ad669.add ((x6_1).toNat * 2)) = some (.int .i64 ((rd_T103 x5_2 x6_1).f0)) ∧ w47.cell? ⟨(ad669.add ((x6_1).toNat * 2)).block,(ad669.add ((x6_1).toNat * 2)).off + 1,none⟩ = some (.int .i64 ((rd_T103 x5_2 x6_1).f1)):=hS_
          refine norm_ (a':=?_) ?_ ?_
          rotate_left
          ·simp only [putAll,Act.put,List.setIfInBounds_toArray,List.set_cons_zero,List.set_cons_succ]
           rfl
          refine one_ (i:=11) (N:=none) #[Tt,Tt,Tt,Tt,Tt,Tt,Tt,Tt,Tt,Tt,Tt,Tt,Ff] rfl rfl (one_of HT_.out (by kernel_rfl)) (by decide) (fun K hK => ?_)
          have hs48:w47.cell? ⟨gb673,0,none⟩ = some (.int .i64 0):=(blk_cell BK673.out 0).trans rfl
          have hfs48:=blk_frozen BK673.out 0
          have hns48_0:=NB664_673.out
          have hns48_1:=NB665_673.out
          have hms48_0:=NB673_664.out
          have hms48_1:=NB673_665.out
          have hs49:w47.cell? ⟨gb673,1,none⟩ = some (.int .i64 0):=(blk_cell BK673.out 1).trans rfl
          have hfs49:=blk_frozen BK673.out 1
          have hns49_0:=NB664_673.out
          have hns49_1:=NB665_673.out
          have hms49_0:=NB673_664.out
          have hms49_1:=NB673_665.out
          refine skip_ (w1:=?_) (by rfl) rfl ?_ ?_
          rotate_left
          ·go_simp
           rfl
          refine hK.out _ _ ⟨((cell_far (p:=⟨gb673,_,none⟩) NB664_673.out _).trans (((cell_far (p:=⟨gb673,_,none⟩) NB664_673.out _).trans (hHeld.1)))),((cell_far (p:=⟨gb673,_,none⟩) NB664_673.out _).trans (((cell_far (p:=⟨gb673,_,none⟩) NB664_673.out _).trans (hHeld.2.1)))),((cell_far (p:=⟨gb673,_,none⟩) NB664_673.out _).trans (((cell_far (p:=⟨gb673,_,none⟩) NB664_673.out _).trans (hHeld.2.2.1)))),((cell_far (p:=⟨gb673,_,none⟩) NB664_673.out _).trans (((cell_far (p:=⟨gb673,_,none⟩) NB664_673.out _).trans (hHeld.2.2.2.1)))),((cell_far (p:=⟨gb673,_,none⟩) (by first | exact Kd.own_blk (Kd.R_away HO_5.out (fun _ hk => hk.2)) | (rw [add_block]; exact Kd.own_blk (Kd.R_away HO_5.out (fun _ hk => hk.2))) | (show (Addr.add _ _).block ≠ _; rw [add_block]; exact Kd.own_blk (Kd.R_away HO_5.out (fun _ hk => hk.2))) | (dsimp only; exact Kd.own_blk (Kd.R_away HO_5.out (fun _ hk => hk.2)))) _).trans (((cell_far (p:=⟨gb673,_,none⟩) (by first | exact Kd.own_blk (Kd.R_away HO_5.out (fun _ hk => hk.2)) | (rw [add_block]; exact Kd.own_blk (Kd.R_away HO_5.out (fun _ hk => hk.2))) | (show (Addr.add _ _).block ≠ _; rw [add_block]; exact Kd.own_blk (Kd.R_away HO_5.out (fun _ hk => hk.2))) | (dsimp only; exact Kd.own_blk (Kd.R_away HO_5.out (fun _ hk => hk.2)))) _).trans (hHeld.2.2.2.2.1)))),((cell_far (p:=⟨gb673,_,none⟩) (by first | exact Kd.own_blk (Kd.R_away HO_5.out (fun _ hk => hk.2)) | (rw [add_block]; exact Kd.own_blk (Kd.R_away HO_5.out (fun _ hk => hk.2))) | (show (Addr.add _ _).block ≠ _; rw [add_block]; exact Kd.own_blk (Kd.R_away HO_5.out (fun _ hk => hk.2))) | (dsimp only; exact Kd.own_blk (Kd.R_away HO_5.out (fun _ hk => hk.2)))) _).trans (((cell_far (p:=⟨gb673,_,none⟩) (by first | exact Kd.own_blk (Kd.R_away HO_5.out (fun _ hk => hk.2)) | (rw [add_block]; exact Kd.own_blk (Kd.R_away HO_5.out (fun _ hk => hk.2))) | (show (Addr.add _ _).block ≠ _; rw [add_block]; exact Kd.own_blk (Kd.R_away HO_5.out (fun _ hk => hk.2))) | (dsimp only; exact Kd.own_blk (Kd.R_away HO_5.out (fun _ hk => hk.2)))) _).trans (hHeld.2.2.2.2.2))))⟩ (fun hHeld => ?_)
          clear hK K
          refine pZ (i:=12) (N:=some 9) #[Tt,Tt,Tt,Tt,Tt,Tt,Tt,Tt,Tt,Tt,Tt,Tt,Tt] ?_
          refine done_ (done_of HT_.out (by kernel_rfl)) ?_
          try go_wp2
          go_roundg k2
          case measure => have:=HK1.out; have:=HK2.out; omega
          case rel => exact ⟨(x5_2),(wrap64 (x7_2 + 1)),rs_,H',⟨by have:=HK1.out; have:=HK2.out; omega⟩,⟨by (with_reducible repeat (first | apply Kd.R_alloc | apply Kd.R_drewN | apply Kd.R_drew)); exact Kd.R_mono (Kd.R_far (p:=⟨gb673,1,none⟩) (Kd.R_far (p:=⟨gb673,0,none⟩) (Kd.R_mono HO_5.out (fun k_ hk => (⟨hk,hk.2⟩:_ ∧ k_ ≠ gb673))) (fun _ hk => hk.2) (.int .i64 t670)) (fun _ hk => hk.2) (.int .i64 t671)) (fun _ hk => hk.1.1)⟩,⟨bf2_ NB664_673.out NB664_673.out BK664.out⟩,⟨bf2_ NB665_673.out NB665_673.out BK665.out⟩,⟨bl3_ HB.out GE664.out GE665.out GE673.out⟩⟩
        ·rw [if_neg c13] at H
         exact absurd H (by simp)
       ·rw [if_neg c12] at H
        exact absurd H (by simp)
      ·rw [if_neg c11] at H
       have c11b0:decide (x7_2 < 4) = false:=decide_eq_false c11
       clear c11
       have H':=Aside0.mk H
       clear H
       go_wp2
       go_roundg k2
       case measure => have:=HK1.out; have:=HK2.out; omega
       case rel => exact ⟨(x5_2),(wrap64 (x6_1 + 1)),rs_,H',⟨by have:=HK1.out; have:=HK2.out; omega⟩,⟨kr_ HO_5.out⟩,⟨bk_ BK664.out⟩,⟨bk_ BK665.out⟩,⟨bl2_ HB.out GE664.out GE665.out⟩⟩
   ·rw [if_neg c9] at H
    have c9b0:decide (x6_1 < (x5_1.length:Int)) = false:=decide_eq_false c9
    clear c9
    obtain rfl:=Option.some.inj H
    obtain ⟨Ao50,co50,eo50⟩:=Kd.R_slice HO_5.out
    subst eo50
    go_wp2
    go_ret
    exact ⟨_,er_,by (with_reducible repeat (first | apply Kd.R_alloc | apply Kd.R_drewN | apply Kd.R_drew)); exact Kd.R_mono HO_5.out (fun _ hk => trivial),bl2_ HB.out GE664.out GE665.out⟩


mutual
def spec_liPart.l0:Nat → List (S103) → Int → Int → Int → Int → List Int → List Int → Int → Int → List Int → List Int → Option (Int × Int × List Int × List Int)
 | 0,_,_,_,_,_,_,_,_,_,_,_ => none
 | k + 1,x19,x20,x21,x679000,x679001,x679002,x679003,x682000,x682001,x682002,x682003 => if x21 < x20 then (if 0 ≤ x21 then (if x21 < (x19.length:Int) then ((spec_liNext.f k x679000 x679001 x679002 x679003 ((rd_T103 x19 x21).f0) ((rd_T103 x19 x21).f1) 1).bind fun bt687 => (if bt687.2.2 = true then ((spec_fiPut.f k x682000 x682001 x682002 x682003 false ((rd_T103 x19 x21).f0) ((rd_T103 x19 x21).f1)).bind fun bt691 => (spec_liPart.j1 k x19 x20 x21 x679000 x679001 x679002 x679003 bt691.1 bt691.2.1 bt691.2.2.1 bt691.2.2.2 ((rd_T103 x19 x21).f0) ((rd_T103 x19 x21).f1))) else (spec_liPart.j1 k x19 x20 x21 x679000 x679001 x679002 x679003 x682000 x682001 x682002 x682003 ((rd_T103 x19 x21).f0) ((rd_T103 x19 x21).f1)))) else (none)) else (none)) else (some (x682000,x682001,x682002,x682003))
def spec_liPart.j1:Nat → List (S103) → Int → Int → Int → Int → List Int → List Int → Int → Int → List Int → List Int → Int → Int → Option (Int × Int × List Int × List Int)
 | 0,_,_,_,_,_,_,_,_,_,_,_,_,_ => none
 | k + 1,x19,x20,x21,x679000,x679001,x679002,x679003,x682000,x682001,x682002,x682003,x687000,x687001 => (spec_liNext.f k x679000 x679001 x679002 x679003 x687000 x687001 2).bind fun bt699 => (if bt699.2.2 = true then ((spec_fiPut.f k x682000 x682001 x682002 x682003 true x687000 x687001).bind fun bt703 => (spec_liPart.l0 k x19 x20 (wrap64 (x21 + 1)) x679000 x679001 x679002 x679003 bt703.1 bt703.2.1 bt703.2.2.1 bt703.2.2.2)) else (spec_liPart.l0 k x19 x20 (wrap64 (x21 + 1)) x679000 x679001 x679002 x679003 x682000 x682001 x682002 x682003))
end
def spec_liPart.f (k:Nat) (a0_0:Int) (a0_1:Int) (l0_2:List Int) (l0_3:List Int) (a1_0:Int) (a1_1:Int):Option (Int × Int × List Int × List Int):=(spec_liReach.f k a0_0 a0_1 l0_2 l0_3 a1_0 a1_1).bind fun t682 => (spec_liPart.l0 k t682 (t682.length:Int) 0 a0_0 a0_1 l0_2 l0_3 a0_0 a0_1 ([]:List Int) ([]:List Int))
theorem spec_liPart.mono_l:∀ k,(∀ y0 y1 y2 y3 y4 y5 y6 y7 y8 y9 y10,LeO (spec_liPart.l0 k y0 y1 y2 y3 y4 y5 y6 y7 y8 y9 y10) (spec_liPart.l0 (k + 1) y0 y1 y2 y3 y4 y5 y6 y7 y8 y9 y10)) ∧ (∀ y0 y1 y2 y3 y4 y5 y6 y7 y8 y9 y10 y11 y12,LeO (spec_liPart.j1 k y0 y1 y2 y3 y4 y5 y6 y7 y8 y9 y10 y11 y12) (spec_liPart.j1 (k + 1) y0 y1 y2 y3 y4 y5 y6 y7 y8 y9 y10 y11 y12))
 | 0 => ⟨fun _ _ _ _ _ _ _ _ _ _ _ r h => by simp [spec_liPart.l0] at h,fun _ _ _ _ _ _ _ _ _ _ _ _ _ r h => by simp [spec_liPart.j1] at h⟩
 | k + 1 => by
  obtain ⟨ih0,ih1⟩:=spec_liPart.mono_l k
  refine ⟨?_,?_⟩
  ·intro y0 y1 y2 y3 y4 y5 y6 y7 y8 y9 y10
   unfold spec_liPart.l0
   repeat' first
   | (with_reducible exact ih0 _ _ _ _ _ _ _ _ _ _ _)
   | (with_reducible exact ih1 _ _ _ _ _ _ _ _ _ _ _ _ _)
   | (with_reducible exact spec_fiPut.mono _ _ _ _ _ _ _ _)
   | (with_reducible exact spec_liNext.mono _ _ _ _ _ _ _ _)
   | (with_reducible exact spec_liReach.mono _ _ _ _ _ _ _)
   | (with_reducible exact LeO.refl _)
   | (with_reducible exact LeO.none _)
   | (with_reducible refine LeO.ite ?_ ?_)
   | (with_reducible refine LeO.bind ?_ (fun _ => ?_))
   | exact ih0 _ _ _ _ _ _ _ _ _ _ _
   | exact ih1 _ _ _ _ _ _ _ _ _ _ _ _ _
   | exact spec_fiPut.mono _ _ _ _ _ _ _ _
   | exact spec_liNext.mono _ _ _ _ _ _ _ _
   | exact spec_liReach.mono _ _ _ _ _ _ _
   | exact LeO.none _
   | refine LeO.ite ?_ ?_
   | refine LeO.bind ?_ (fun _ => ?_)
  ·intro y0 y1 y2 y3 y4 y5 y6 y7 y8 y9 y10 y11 y12
   unfold spec_liPart.j1
   repeat' first
   | (with_reducible exact ih0 _ _ _ _ _ _ _ _ _ _ _)
   | (with_reducible exact ih1 _ _ _ _ _ _ _ _ _ _ _ _ _)
   | (with_reducible exact spec_fiPut.mono _ _ _ _ _ _ _ _)
   | (with_reducible exact spec_liNext.mono _ _ _ _ _ _ _ _)
   | (with_reducible exact spec_liReach.mono _ _ _ _ _ _ _)
   | (with_reducible exact LeO.refl _)
   | (with_reducible exact LeO.none _)
   | (with_reducible refine LeO.ite ?_ ?_)
   | (with_reducible refine LeO.bind ?_ (fun _ => ?_))
   | exact ih0 _ _ _ _ _ _ _ _ _ _ _
   | exact ih1 _ _ _ _ _ _ _ _ _ _ _ _ _
   | exact spec_fiPut.mono _ _ _ _ _ _ _ _
   | exact spec_liNext.mono _ _ _ _ _ _ _ _
   | exact spec_liReach.mono _ _ _ _ _ _ _
   | exact LeO.none _
   | refine LeO.ite ?_ ?_
   | refine LeO.bind ?_ (fun _ => ?_)
theorem spec_liPart.mono:∀ a0 a1 a2 a3 a4 a5 k,LeO (spec_liPart.f k a0 a1 a2 a3 a4 a5) (spec_liPart.f (k + 1) a0 a1 a2 a3 a4 a5):=by
 intro a0 a1 a2 a3 a4 a5 k
 obtain ⟨ih0,ih1⟩:=spec_liPart.mono_l k
 unfold spec_liPart.f
 repeat' first
   | (with_reducible exact ih0 _ _ _ _ _ _ _ _ _ _ _)
   | (with_reducible exact ih1 _ _ _ _ _ _ _ _ _ _ _ _ _)
   | (with_reducible exact spec_fiPut.mono _ _ _ _ _ _ _ _)
   | (with_reducible exact spec_liNext.mono _ _ _ _ _ _ _ _)
   | (with_reducible exact spec_liReach.mono _ _ _ _ _ _ _)
   | (with_reducible exact LeO.refl _)
   | (with_reducible exact LeO.none _)
   | (with_reducible refine LeO.ite ?_ ?_)
   | (with_reducible refine LeO.bind ?_ (fun _ => ?_))
   | exact ih0 _ _ _ _ _ _ _ _ _ _ _
   | exact ih1 _ _ _ _ _ _ _ _ _ _ _ _ _
   | exact spec_fiPut.mono _ _ _ _ _ _ _ _
   | exact spec_liNext.mono _ _ _ _ _ _ _ _
   | exact spec_liReach.mono _ _ _ _ _ _ _
   | exact LeO.none _
   | refine LeO.ite ?_ ?_
   | refine LeO.bind ?_ (fun _ => ?_)
set_option maxHeartbeats 8000000 in
set_option maxRecDepth 100000 in
theorem spec_liPart.calls (k:Nat) (a0_0:Int) (a0_1:Int) (A0_2:Option Addr) (c0_2:Nat) (l0_2:List Int) (A0_3:Option Addr) (c0_3:Nat) (l0_3:List Int) (a1_0:Int) (a1_1:Int) (r1:Int) (r2:Int) (r3:List Int) (r4:List Int) (w:World) (hr0_2:Kd.C (Kd.int .i64) w A0_2 l0_2.length l0_2) (hc0_2:l0_2.length ≤ c0_2) (hr0_3:Kd.C (Kd.int .i64) w A0_3 l0_3.length l0_3) (hc0_3:l0_3.length ≤ c0_3) (h:spec_liPart.f k a0_0 a0_1 l0_2 l0_3 a1_0 a1_1 = some (r1,r2,r3,r4)) :
  Calls Tryd.prog 93 #[.agg #[.int .i64 a0_0,.int .i64 a0_1,.slice A0_2 l0_2.length c0_2,.slice A0_3 l0_3.length c0_3],.agg #[.int .i64 a1_0,.int .i64 a1_1]] w fun e w' => ∃ v2_ v3_:Value,e = .returned (.agg #[.int .i64 r1,.int .i64 r2,v2_,v3_]) ∧ Kd.R (Kd.int .i64) 3 w' w.heap.size (fun k_ => some k_ ≠ (v3_:Value).ownBlock) v2_ r3 ∧ Kd.R (Kd.int .i64) 3 w' w.heap.size (fun k_ => some k_ ≠ (v2_:Value).ownBlock) v3_ r4 ∧ Below w.heap.size w w':=by
 have hu26:=Tryd.underlying26
 have hu103:=Tryd.underlying103
 have HR0_2:=Aside0.mk hr0_2
 have HC0_2:=Aside0.mk hc0_2
 clear hr0_2 hc0_2
 have HR0_3:=Aside0.mk hr0_3
 have HC0_3:=Aside0.mk hc0_3
 clear hr0_3 hc0_3
 have HB:=Aside0.mk (Below.refl w.heap.size w)
 have H:((spec_liReach.f k a0_0 a0_1 l0_2 l0_3 a1_0 a1_1).bind fun t682 => (spec_liPart.l0 k t682 (t682.length:Int) 0 a0_0 a0_1 l0_2 l0_3 a0_0 a0_1 ([]:List Int) ([]:List Int))) = some (r1,r2,r3,r4):=h
 clear h
 replace H:=Option.bind_eq_some_iff.mp H
 obtain ⟨t682,A30,H⟩:=H
 replace H:(spec_liPart.l0 k t682 (t682.length:Int) 0 a0_0 a0_1 l0_2 l0_3 a0_0 a0_1 ([]:List Int) ([]:List Int)) = some (r1,r2,r3,r4):=H
 have A3:=Aside0.mk A30
 clear A30
 have H':=Aside0.mk H
 clear H
 go_enter Tryd.func93,Tryd.ntmps93
 go_wp2_with (first | ((with_reducible refine gate_dst (N:=2) rfl ?_); refine boxE_ (N:=2) (cs:=#[.int .i64 a0_0,.int .i64 a0_1,.slice A0_2 l0_2.length c0_2,.slice A0_3 l0_3.length c0_3]) (t:=26) ?_; intro gb678 hg w4 hbox hb; have n0_:=Aside0.mk (below_step (bl0_ HB.out) hb); have n1_:=Aside0.mk (hbox); have n2_:=Aside0.mk ((bs0_ hg HB.out:w.heap.size ≤ gb678)); have n3_:=Aside0.mk ((bs0_ hg HB.out:w.heap.size ≤ gb678)); clear HB; have HB:=n0_; have BK678:=n1_; have GW678:=n2_; have GE678:=n3_; clear n0_ n1_ n2_ n3_; clear hb hbox hg) | ((with_reducible refine gate_dst (N:=3) rfl ?_); refine boxE_ (N:=3) (cs:=#[.int .i64 a1_0,.int .i64 a1_1]) (t:=103) ?_; intro gb679 hg w5 hbox hb; have n0_:=Aside0.mk (bb_ BK678.out hb); have n1_:=Aside0.mk (below_step (bl1_ HB.out GE678.out) hb); have n2_:=Aside0.mk (hbox); have n3_:=Aside0.mk ((bs1_ hg HB.out GE678.out:w.heap.size ≤ gb679)); have n4_:=Aside0.mk ((bs1_ hg HB.out GE678.out:w.heap.size ≤ gb679)); have n5_:=Aside0.mk ((nl_ hg BK678.out:gb678 ≠ gb679)); have n6_:=Aside0.mk ((ng_ hg BK678.out:gb679 ≠ gb678)); clear BK678; clear HB; have BK678:=n0_; have HB:=n1_; have BK679:=n2_; have GW679:=n3_; have GE679:=n4_; have NB678_679:=n5_; have NB679_678:=n6_; clear n0_ n1_ n2_ n3_ n4_ n5_ n6_; clear hb hbox hg) | ((with_reducible refine gate_dst (N:=4) rfl ?_); refine boxE_ (N:=4) (cs:=#[.int .i64 0,.int .i64 0,.slice none 0 0,.slice none 0 0]) (t:=26) ?_; intro gb680 hg w6 hbox hb; have n0_:=Aside0.mk (bb_ BK678.out hb); have n1_:=Aside0.mk (bb_ BK679.out hb); have n2_:=Aside0.mk (below_step (bl2_ HB.out GE678.out GE679.out) hb); have n3_:=Aside0.mk (hbox); have n4_:=Aside0.mk ((bs2_ hg HB.out GE678.out GE679.out:w.heap.size ≤ gb680)); have n5_:=Aside0.mk ((bs2_ hg HB.out GE678.out GE679.out:w.heap.size ≤ gb680)); have n6_:=Aside0.mk ((nl_ hg BK678.out:gb678 ≠ gb680)); have n7_:=Aside0.mk ((ng_ hg BK678.out:gb680 ≠ gb678)); have n8_:=Aside0.mk ((nl_ hg BK679.out:gb679 ≠ gb680)); have n9_:=Aside0.mk ((ng_ hg BK679.out:gb680 ≠ gb679)); clear BK678; clear BK679; clear HB; have BK678:=n0_; have BK679:=n1_; have HB:=n2_; have BK680:=n3_; have GW680:=n4_; have GE680:=n5_; have NB678_680:=n6_; have NB680_678:=n7_; have NB679_680:=n8_; have NB680_679:=n9_; clear n0_ n1_ n2_ n3_ n4_ n5_ n6_ n7_ n8_ n9_; clear hb hbox hg; have hnb7:=NB678_679.out; have hnc7:=NB679_678.out; have hnb8:=NB678_680.out; have hnc8:=NB680_678.out; have hcz9_0:w6.cell? ⟨gb678,0,none⟩ = some (.int .i64 a0_0):=(blk_cell BK678.out 0).trans rfl; have hcz9_1:w6.cell? ⟨gb678,1,none⟩ = some (.int .i64 a0_1):=(blk_cell BK678.out 1).trans rfl; have hcz9_2:w6.cell? ⟨gb678,2,none⟩ = some (.slice A0_2 l0_2.length c0_2):=(blk_cell BK678.out 2).trans rfl; have hcz9_3:w6.cell? ⟨gb678,3,none⟩ = some (.slice A0_3 l0_3.length c0_3):=(blk_cell BK678.out 3).trans rfl; have hfz9_0:=blk_frozen BK678.out 0; have hfz9_1:=blk_frozen BK678.out 1; have hfz9_2:=blk_frozen BK678.out 2; have hfz9_3:=blk_frozen BK678.out 3) | ((with_reducible refine gate_dst (N:=5) rfl ?_); refine boxE_ (N:=5) (cs:=#[.int .i64 0,.int .i64 0,.slice none 0 0,.slice none 0 0]) (t:=26) ?_; intro gb681 hg w10 hbox hb; have n0_:=Aside0.mk (bb_ BK678.out hb); have n1_:=Aside0.mk (bb_ BK679.out hb); have n2_:=Aside0.mk (bb_ BK680.out hb); have n3_:=Aside0.mk (below_step (bl3_ HB.out GE678.out GE679.out GE680.out) hb); have n4_:=Aside0.mk (hbox); have n5_:=Aside0.mk ((bs3_ hg HB.out GE678.out GE679.out GE680.out:w.heap.size ≤ gb681)); have n6_:=Aside0.mk ((bs3_ hg HB.out GE678.out GE679.out GE680.out:w.heap.size ≤ gb681)); have n7_:=Aside0.mk ((nl_ hg BK678.out:gb678 ≠ gb681)); have n8_:=Aside0.mk ((ng_ hg BK678.out:gb681 ≠ gb678)); have n9_:=Aside0.mk ((nl_ hg BK679.out:gb679 ≠ gb681)); have n10_:=Aside0.mk ((ng_ hg BK679.out:gb681 ≠ gb679)); have n11_:=Aside0.mk ((nl_ hg BK680.out:gb680 ≠ gb681)); have n12_:=Aside0.mk ((ng_ hg BK680.out:gb681 ≠ gb680)); clear BK678; clear BK679; clear BK680; clear HB; have BK678:=n0_; have BK679:=n1_; have BK680:=n2_; have HB:=n3_; have BK681:=n4_; have GW681:=n5_; have GE681:=n6_; have NB678_681:=n7_; have NB681_678:=n8_; have NB679_681:=n9_; have NB681_679:=n10_; have NB680_681:=n11_; have NB681_680:=n12_; clear n0_ n1_ n2_ n3_ n4_ n5_ n6_ n7_ n8_ n9_ n10_ n11_ n12_; clear hb hbox hg; have hnb11:=NB681_678.out; have hnc11:=NB678_681.out; have hnb12:=NB681_679.out; have hnc12:=NB679_681.out; have hnb13:=NB681_680.out; have hnc13:=NB680_681.out; have hcz14_0:w10.cell? ⟨gb681,0,none⟩ = some (.int .i64 0):=(blk_cell BK681.out 0).trans rfl; have hcz14_1:w10.cell? ⟨gb681,1,none⟩ = some (.int .i64 0):=(blk_cell BK681.out 1).trans rfl; have hcz14_2:w10.cell? ⟨gb681,2,none⟩ = some (.slice none 0 0):=(blk_cell BK681.out 2).trans rfl; have hcz14_3:w10.cell? ⟨gb681,3,none⟩ = some (.slice none 0 0):=(blk_cell BK681.out 3).trans rfl; have hfz14_0:=blk_frozen BK681.out 0; have hfz14_1:=blk_frozen BK681.out 1; have hfz14_2:=blk_frozen BK681.out 2; have hfz14_3:=blk_frozen BK681.out 3; have hcz15_0:w10.cell? ⟨gb678,0,none⟩ = some (.int .i64 a0_0):=(blk_cell BK678.out 0).trans rfl; have hcz15_1:w10.cell? ⟨gb678,1,none⟩ = some (.int .i64 a0_1):=(blk_cell BK678.out 1).trans rfl; have hcz15_2:w10.cell? ⟨gb678,2,none⟩ = some (.slice A0_2 l0_2.length c0_2):=(blk_cell BK678.out 2).trans rfl; have hcz15_3:w10.cell? ⟨gb678,3,none⟩ = some (.slice A0_3 l0_3.length c0_3):=(blk_cell BK678.out 3).trans rfl; have hfz15_0:=blk_frozen BK678.out 0; have hfz15_1:=blk_frozen BK678.out 1; have hfz15_2:=blk_frozen BK678.out 2; have hfz15_3:=blk_frozen BK678.out 3; have hnb16:=NB679_680.out; have hnc16:=NB680_679.out; have hcz17_0:w10.cell? ⟨gb679,0,none⟩ = some (.int .i64 a1_0):=(blk_cell BK679.out 0).trans rfl; have hcz17_1:w10.cell? ⟨gb679,1,none⟩ = some (.int .i64 a1_1):=(blk_cell BK679.out 1).trans rfl; have hfz17_0:=blk_frozen BK679.out 0; have hfz17_1:=blk_frozen BK679.out 1) | ((with_reducible refine gate_callee (f:=103) rfl ?_); refine goesL_ (some 19) rfl rfl Tryd.func103 (by kernel_rfl) rfl #[.agg #[.int .i64 a0_0,.int .i64 a0_1,.slice A0_2 l0_2.length c0_2,.slice A0_3 l0_3.length c0_3],.agg #[.int .i64 a1_0,.int .i64 a1_1]] rfl ob_ ?_; (with_reducible refine (spec_liReach.calls k a0_0 a0_1 _ _ l0_2 _ _ l0_3 a1_0 a1_1 t682 _ ?side1 ?side2 ?side3 ?side4 A3.out).mono ?_); (case side1 => exact Kd.C_below HR0_2.out (bl4_ HB.out GE678.out GE679.out GE680.out GE681.out)); (case side2 => exact HC0_2.out); (case side3 => exact Kd.C_below HR0_3.out (bl4_ HB.out GE678.out GE679.out GE680.out GE681.out)); (case side4 => exact HC0_3.out); rintro e w18 ⟨v683,rfl,ho0,hb⟩; refine ⟨_,rfl,?_⟩; have n0_:=Aside0.mk (Kd.R_lower (Kd.R_newB ho0 (g:=gb679) (o:=.cells #[.int .i64 a1_0,.int .i64 a1_1] 103 (0,0)) (bf4_ NB679_681.out NB679_681.out NB679_681.out NB679_681.out BK679.out)) (below_size (bl4_ HB.out GE678.out GE679.out GE680.out GE681.out))); have n1_:=Aside0.mk (blk_below (g:=gb678) (o:=.cells #[.int .i64 a0_0,.int .i64 a0_1,.slice A0_2 l0_2.length c0_2,.slice A0_3 l0_3.length c0_3] 26 (0,0)) (bf4_ NB678_681.out NB678_681.out NB678_681.out NB678_681.out BK678.out) hb); have n2_:=Aside0.mk (blk_below (g:=gb679) (o:=.cells #[.int .i64 a1_0,.int .i64 a1_1] 103 (0,0)) (bf4_ NB679_681.out NB679_681.out NB679_681.out NB679_681.out BK679.out) hb); have n3_:=Aside0.mk (blk_below (g:=gb680) (o:=.cells #[.int .i64 0,.int .i64 0,.slice none 0 0,.slice none 0 0] 26 (0,0)) (bf4_ NB680_681.out NB680_681.out NB680_681.out NB680_681.out BK680.out) hb); have n4_:=Aside0.mk (blk_below (g:=gb681) (o:=.cells #[.int .i64 a0_0,.int .i64 a0_1,.slice none 0 0,.slice none 0 0] 26 (0,0)) (by (with_reducible repeat (first | refine blk_drewN ?_ _ | refine blk_drew ?_ | refine blk_alloc ?_ _)); refine blk_put (cs:=#[.int .i64 a0_0,.int .i64 a0_1,.slice none 0 0,.slice none 0 0]) ?_ 3 _ rfl; (with_reducible repeat (first | refine blk_drewN ?_ _ | refine blk_drew ?_ | refine blk_alloc ?_ _)); refine blk_put (cs:=#[.int .i64 a0_0,.int .i64 a0_1,.slice none 0 0,.slice none 0 0]) ?_ 2 _ rfl; (with_reducible repeat (first | refine blk_drewN ?_ _ | refine blk_drew ?_ | refine blk_alloc ?_ _)); refine blk_put (cs:=#[.int .i64 a0_0,.int .i64 0,.slice none 0 0,.slice none 0 0]) ?_ 1 _ rfl; (with_reducible repeat (first | refine blk_drewN ?_ _ | refine blk_drew ?_ | refine blk_alloc ?_ _)); refine blk_put (cs:=#[.int .i64 0,.int .i64 0,.slice none 0 0,.slice none 0 0]) ?_ 0 _ rfl; (with_reducible repeat (first | refine blk_drewN ?_ _ | refine blk_drew ?_ | refine blk_alloc ?_ _)); exact BK681.out) hb); have n5_:=Aside0.mk (below_step (bl4_ HB.out GE678.out GE679.out GE680.out GE681.out) hb); clear BK678; clear BK679; clear BK680; clear BK681; clear HB; have HO684:=n0_; have BK678:=n1_; have BK679:=n2_; have BK680:=n3_; have BK681:=n4_; have HB:=n5_; clear n0_ n1_ n2_ n3_ n4_ n5_; (try clear hb); (try clear hb2); (try clear hk); (try clear hi); (try clear ho0); obtain ⟨Ao19,co19,eo19⟩:=Kd.R_slice HO684.out; subst eo19))
 go_loopg [21] k (fun kq v21 w' => ∃ (x21_1:Int) (x682000_1:Int) (x682001_1:Int) (x682002_1:List Int) (x682003_1:List Int) (u682002:Value) (u682003:Value),v21 = .int .i64 x21_1 ∧ Aside0 (spec_liPart.l0 kq t682 (t682.length:Int) x21_1 a0_0 a0_1 l0_2 l0_3 x682000_1 x682001_1 x682002_1 x682003_1 = some (r1,r2,r3,r4)) ∧ Aside0 (kq ≤ k) ∧ Aside0 (Kd.R k103 103 w' w.heap.size (fun k_ => k_ ≠ gb679) (.slice Ao19 t682.length co19) t682) ∧ Aside0 (Kd.R (Kd.int .i64) 3 w' w.heap.size (fun k_ => some k_ ≠ (u682003:Value).ownBlock) u682002 x682002_1) ∧ Aside0 (Kd.R (Kd.int .i64) 3 w' w.heap.size (fun k_ => some k_ ≠ (u682002:Value).ownBlock) u682003 x682003_1) ∧ Aside0 (w'.heap[gb678]? = some (.cells #[.int .i64 a0_0,.int .i64 a0_1,(.slice A0_2 l0_2.length c0_2),(.slice A0_3 l0_3.length c0_3)] 26 (0,0))) ∧ Aside0 (w'.heap[gb679]? = some (.cells #[.int .i64 a1_0,.int .i64 a1_1] 103 (0,0))) ∧ Aside0 (w'.heap[gb680]? = some (.cells #[.int .i64 0,.int .i64 0,(.slice none 0 0),(.slice none 0 0)] 26 (0,0))) ∧ Aside0 (w'.heap[gb681]? = some (.cells #[.int .i64 x682000_1,.int .i64 x682001_1,u682002,u682003] 26 (0,0))) ∧ Aside0 (Below w.heap.size w w'))
 case atStart => exact ⟨(0),(a0_0),(a0_1),(([]:List Int)),(([]:List Int)),(.slice none 0 0),(.slice none 0 0),rs_,H',⟨Nat.le_refl _⟩,⟨by (with_reducible repeat (first | apply Kd.R_alloc | apply Kd.R_drewN | apply Kd.R_drew)); exact Kd.R_mono HO684.out (fun _ hk => hk.2)⟩,⟨by first | exact Kd.R_nil _ _ _ _ _ | exact Kd.N_nil _ _ _ _ _ | exact Kd.V_nil _ _ _ _ _ | exact Kd.Q_nil _ _ _ _ _ | exact Kd.S_nil _ _ _ _ _⟩,⟨by first | exact Kd.R_nil _ _ _ _ _ | exact Kd.N_nil _ _ _ _ _ | exact Kd.V_nil _ _ _ _ _ | exact Kd.Q_nil _ _ _ _ _ | exact Kd.S_nil _ _ _ _ _⟩,⟨bk_ BK678.out⟩,⟨bk_ BK679.out⟩,⟨bk_ BK680.out⟩,⟨bk_ BK681.out⟩,⟨bl4_ HB.out GE678.out GE679.out GE680.out GE681.out⟩⟩
 case round =>
  clear H'
  try clear c1
  try clear p2
  try clear c7
  try clear c8
  try clear c9
  try clear c10
  try clear c11
  try clear c12
  try clear c13
  try clear c16
  try clear hcz14_0
  try clear hcz14_1
  try clear hcz14_2
  try clear hcz14_3
  try clear hcz15_0
  try clear hcz15_1
  try clear hcz15_2
  try clear hcz15_3
  try clear hcz17_0
  try clear hcz17_1
  try clear hcz9_0
  try clear hcz9_1
  try clear hcz9_2
  try clear hcz9_3
  try clear hfz14_0
  try clear hfz14_1
  try clear hfz14_2
  try clear hfz14_3
  try clear hfz15_0
  try clear hfz15_1
  try clear hfz15_2
  try clear hfz15_3
  try clear hfz17_0
  try clear hfz17_1
  try clear hfz9_0
  try clear hfz9_1
  try clear hfz9_2
  try clear hfz9_3
  obtain ⟨x21_1,x682000_1,x682001_1,x682002_1,x682003_1,u682002,u682003,rfl,HA,HK1,HO_19,HO_682002,HO_682003,BK678,BK679,BK680,BK681,HB⟩:=hrel
  cases gk with
  | zero => exact absurd HA.out (by simp [spec_liPart.l0])
  | succ k1 =>
   have H:=HA.out
   clear HA
   simp only [spec_liPart.l0] at H
   by_cases c20:x21_1 < (t682.length:Int)
   ·rw [if_pos c20] at H
    have c20b0:decide (x21_1 < (t682.length:Int)) = true:=decide_eq_true c20
    clear c20
    by_cases c21:0 ≤ x21_1
    ·rw [if_pos c21] at H
     have c21b0:decide (0 ≤ x21_1) = true:=decide_eq_true c21
     clear c21
     by_cases c22:x21_1 < (t682.length:Int)
     ·rw [if_pos c22] at H
      have c22b0:decide (x21_1 < (t682.length:Int)) = true:=decide_eq_true c22
      clear c22
      replace H:=Option.bind_eq_some_iff.mp H
      obtain ⟨⟨t687,t688,t689⟩,A230,H⟩:=H
      replace H:(if t689 = true then ((spec_fiPut.f k1 x682000_1 x682001_1 x682002_1 x682003_1 false ((rd_T103 t682 x21_1).f0) ((rd_T103 t682 x21_1).f1)).bind fun bt691 => (spec_liPart.j1 k1 t682 (t682.length:Int) x21_1 a0_0 a0_1 l0_2 l0_3 bt691.1 bt691.2.1 bt691.2.2.1 bt691.2.2.2 ((rd_T103 t682 x21_1).f0) ((rd_T103 t682 x21_1).f1))) else (spec_liPart.j1 k1 t682 (t682.length:Int) x21_1 a0_0 a0_1 l0_2 l0_3 x682000_1 x682001_1 x682002_1 x682003_1 ((rd_T103 t682 x21_1).f0) ((rd_T103 t682 x21_1).f1))) = some (r1,r2,r3,r4):=H
      have A23:=Aside0.mk A230
      clear A230
      have HC24:=Aside0.mk H
      clear H
      have p685:0 ≤ (x21_1:Int):=of_decide_eq_true as_
      have q685:x21_1 < (t682.length:Int):=of_decide_eq_true as_
      obtain ⟨ad685,e685,hx685_0,hx685_1⟩:=at_T103 (Kd.R_reads' HO_19.out).2.2 x21_1 p685 q685
      cases e685
      replace p685:=eq_true p685
      replace q685:=eq_true q685
      go_upto_if 31 with (first | ((with_reducible refine gate_dst (N:=7) rfl ?_); refine boxE_ (N:=7) (cs:=#[.int .i64 0,.int .i64 0]) (t:=103) ?_; intro gb686 hg w25 hbox hb; have n0_:=Aside0.mk (Kd.R_below (Kd.R_elderB (kr_ HO_19.out) gb686 (Nat.le_of_eq hg.symm)) hb); have n1_:=Aside0.mk (Kd.R_below (kr_ HO_682002.out) hb); have n2_:=Aside0.mk (Kd.R_below (kr_ HO_682003.out) hb); have n3_:=Aside0.mk (bb_ BK678.out hb); have n4_:=Aside0.mk (bb_ BK679.out hb); have n5_:=Aside0.mk (bb_ BK680.out hb); have n6_:=Aside0.mk (bb_ BK681.out hb); have n7_:=Aside0.mk (below_step (bl4_ HB.out GE678.out GE679.out GE680.out GE681.out) hb); have n8_:=Aside0.mk (hbox); have n9_:=Aside0.mk ((bs4_ hg HB.out GE678.out GE679.out GE680.out GE681.out:w.heap.size ≤ gb686)); have n10_:=Aside0.mk ((bs4_ hg HB.out GE678.out GE679.out GE680.out GE681.out:w.heap.size ≤ gb686)); have n11_:=Aside0.mk ((nl_ hg BK678.out:gb678 ≠ gb686)); have n12_:=Aside0.mk ((ng_ hg BK678.out:gb686 ≠ gb678)); have n13_:=Aside0.mk ((nl_ hg BK679.out:gb679 ≠ gb686)); have n14_:=Aside0.mk ((ng_ hg BK679.out:gb686 ≠ gb679)); have n15_:=Aside0.mk ((nl_ hg BK680.out:gb680 ≠ gb686)); have n16_:=Aside0.mk ((ng_ hg BK680.out:gb686 ≠ gb680)); have n17_:=Aside0.mk ((nl_ hg BK681.out:gb681 ≠ gb686)); have n18_:=Aside0.mk ((ng_ hg BK681.out:gb686 ≠ gb681)); clear HO_19; clear HO_682002; clear HO_682003; clear BK678; clear BK679; clear BK680; clear BK681; clear HB; have HO_19:=n0_; have HO_682002:=n1_; have HO_682003:=n2_; have BK678:=n3_; have BK679:=n4_; have BK680:=n5_; have BK681:=n6_; have HB:=n7_; have BK686:=n8_; have GW686:=n9_; have GE686:=n10_; have NB678_686:=n11_; have NB686_678:=n12_; have NB679_686:=n13_; have NB686_679:=n14_; have NB680_686:=n15_; have NB686_680:=n16_; have NB681_686:=n17_; have NB686_681:=n18_; clear n0_ n1_ n2_ n3_ n4_ n5_ n6_ n7_ n8_ n9_ n10_ n11_ n12_ n13_ n14_ n15_ n16_ n17_ n18_; clear hb hbox hg; have hnb26:=NB686_678.out; have hnc26:=NB678_686.out; have hnb27:=NB686_679.out; have hnc27:=NB679_686.out; have hnb28:=NB686_680.out; have hnc28:=NB680_686.out; have hnb29:=NB686_681.out; have hnc29:=NB681_686.out; have hcz30_0:w25.cell? ⟨gb686,0,none⟩ = some (.int .i64 0):=(blk_cell BK686.out 0).trans rfl; have hcz30_1:w25.cell? ⟨gb686,1,none⟩ = some (.int .i64 0):=(blk_cell BK686.out 1).trans rfl; have hfz30_0:=blk_frozen BK686.out 0; have hfz30_1:=blk_frozen BK686.out 1; have hnb31:=NB678_679.out; have hnc31:=NB679_678.out; have hnb32:=NB678_680.out; have hnc32:=NB680_678.out; have hnb33:=NB678_681.out; have hnc33:=NB681_678.out; have hcz34_0:w25.cell? ⟨gb678,0,none⟩ = some (.int .i64 a0_0):=(blk_cell BK678.out 0).trans rfl; have hcz34_1:w25.cell? ⟨gb678,1,none⟩ = some (.int .i64 a0_1):=(blk_cell BK678.out 1).trans rfl; have hcz34_2:w25.cell? ⟨gb678,2,none⟩ = some (.slice A0_2 l0_2.length c0_2):=(blk_cell BK678.out 2).trans rfl; have hcz34_3:w25.cell? ⟨gb678,3,none⟩ = some (.slice A0_3 l0_3.length c0_3):=(blk_cell BK678.out 3).trans rfl; have hfz34_0:=blk_frozen BK678.out 0; have hfz34_1:=blk_frozen BK678.out 1; have hfz34_2:=blk_frozen BK678.out 2; have hfz34_3:=blk_frozen BK678.out 3) | ((with_reducible refine gate_callee (f:=104) rfl ?_); refine goesL_ (some 28) rfl rfl Tryd.func104 (by kernel_rfl) rfl #[.agg #[.int .i64 a0_0,.int .i64 a0_1,.slice A0_2 l0_2.length c0_2,.slice A0_3 l0_3.length c0_3],.agg #[.int .i64 ((rd_T103 t682 x21_1).f0),.int .i64 ((rd_T103 t682 x21_1).f1)],.int .i64 1] rfl ob_ ?_; (with_reducible refine (spec_liNext.calls k1 a0_0 a0_1 _ _ l0_2 _ _ l0_3 ((rd_T103 t682 x21_1).f0) ((rd_T103 t682 x21_1).f1) 1 t687 t688 t689 _ ?side1 ?side2 ?side3 ?side4 A23.out).mono ?_); (case side1 => exact Kd.C_below HR0_2.out (bl5_ HB.out GE678.out GE679.out GE680.out GE681.out GE686.out)); (case side2 => exact HC0_2.out); (case side3 => exact Kd.C_below HR0_3.out (bl5_ HB.out GE678.out GE679.out GE680.out GE681.out GE686.out)); (case side4 => exact HC0_3.out); rintro e w35 ⟨rfl,hb⟩; refine ⟨_,rfl,?_⟩; have n0_:=Aside0.mk (Kd.R_below (by (with_reducible repeat (first | apply Kd.R_alloc | apply Kd.R_drewN | apply Kd.R_drew)); exact (Kd.R_mono (Kd.R_far (p:=⟨gb686,1,none⟩) (Kd.R_far (p:=⟨gb686,0,none⟩) (Kd.R_mono HO_19.out (fun k_ hk => (⟨hk,hk.2⟩:_ ∧ k_ ≠ gb686))) (fun _ hk => hk.2) (.int .i64 ((rd_T103 t682 x21_1).f0))) (fun _ hk => hk.2) (.int .i64 ((rd_T103 t682 x21_1).f1))) (fun _ h_ => h_.1))) hb); have n1_:=Aside0.mk (Kd.R_below (by (with_reducible repeat (first | apply Kd.R_alloc | apply Kd.R_drewN | apply Kd.R_drew)); exact (Kd.R_mono (Kd.R_far (p:=⟨gb686,1,none⟩) (Kd.R_far (p:=⟨gb686,0,none⟩) (Kd.R_types HO_682002.out BK686.out (by decide)) (fun _ hk => hk.2) (.int .i64 ((rd_T103 t682 x21_1).f0))) (fun _ hk => hk.2) (.int .i64 ((rd_T103 t682 x21_1).f1))) (fun _ h_ => h_.1))) hb); have n2_:=Aside0.mk (Kd.R_below (by (with_reducible repeat (first | apply Kd.R_alloc | apply Kd.R_drewN | apply Kd.R_drew)); exact (Kd.R_mono (Kd.R_far (p:=⟨gb686,1,none⟩) (Kd.R_far (p:=⟨gb686,0,none⟩) (Kd.R_types HO_682003.out BK686.out (by decide)) (fun _ hk => hk.2) (.int .i64 ((rd_T103 t682 x21_1).f0))) (fun _ hk => hk.2) (.int .i64 ((rd_T103 t682 x21_1).f1))) (fun _ h_ => h_.1))) hb); have n3_:=Aside0.mk (blk_below (g:=gb678) (o:=.cells #[.int .i64 a0_0,.int .i64 a0_1,.slice A0_2 l0_2.length c0_2,.slice A0_3 l0_3.length c0_3] 26 (0,0)) (bf2_ NB678_686.out NB678_686.out BK678.out) hb); have n4_:=Aside0.mk (blk_below (g:=gb679) (o:=.cells #[.int .i64 a1_0,.int .i64 a1_1] 103 (0,0)) (bf2_ NB679_686.out NB679_686.out BK679.out) hb); have n5_:=Aside0.mk (blk_below (g:=gb680) (o:=.cells #[.int .i64 0,.int .i64 0,.slice none 0 0,.slice none 0 0] 26 (0,0)) (bf2_ NB680_686.out NB680_686.out BK680.out) hb); have n6_:=Aside0.mk (blk_below (g:=gb681) (o:=.cells #[.int .i64 x682000_1,.int .i64 x682001_1,u682002,u682003] 26 (0,0)) (bf2_ NB681_686.out NB681_686.out BK681.out) hb); have n7_:=Aside0.mk (blk_below (g:=gb686) (o:=.cells #[.int .i64 ((rd_T103 t682 x21_1).f0),.int .i64 ((rd_T103 t682 x21_1).f1)] 103 (0,0)) (by (with_reducible repeat (first | refine blk_drewN ?_ _ | refine blk_drew ?_ | refine blk_alloc ?_ _)); refine blk_put (cs:=#[.int .i64 ((rd_T103 t682 x21_1).f0),.int .i64 0]) ?_ 1 _ rfl; (with_reducible repeat (first | refine blk_drewN ?_ _ | refine blk_drew ?_ | refine blk_alloc ?_ _)); refine blk_put (cs:=#[.int .i64 0,.int .i64 0]) ?_ 0 _ rfl; (with_reducible repeat (first | refine blk_drewN ?_ _ | refine blk_drew ?_ | refine blk_alloc ?_ _)); exact BK686.out) hb); have n8_:=Aside0.mk (below_step (bl5_ HB.out GE678.out GE679.out GE680.out GE681.out GE686.out) hb); clear HO_19; clear HO_682002; clear HO_682003; clear BK678; clear BK679; clear BK680; clear BK681; clear BK686; clear HB; have HO_19:=n0_; have HO_682002:=n1_; have HO_682003:=n2_; have BK678:=n3_; have BK679:=n4_; have BK680:=n5_; have BK681:=n6_; have BK686:=n7_; have HB:=n8_; clear n0_ n1_ n2_ n3_ n4_ n5_ n6_ n7_ n8_; (try clear hb); (try clear hb2); (try clear hk); (try clear hi)) | ((with_reducible refine gate_dst (N:=8) rfl ?_); refine boxE_ (N:=8) (cs:=#[.int .i64 0,.int .i64 0]) (t:=103) ?_; intro gb690 hg w36 hbox hb; have n0_:=Aside0.mk (Kd.R_below (Kd.R_elderB (kr_ HO_19.out) gb690 (Nat.le_of_eq hg.symm)) hb); have n1_:=Aside0.mk (Kd.R_below (kr_ HO_682002.out) hb); have n2_:=Aside0.mk (Kd.R_below (kr_ HO_682003.out) hb); have n3_:=Aside0.mk (bb_ BK678.out hb); have n4_:=Aside0.mk (bb_ BK679.out hb); have n5_:=Aside0.mk (bb_ BK680.out hb); have n6_:=Aside0.mk (bb_ BK681.out hb); have n7_:=Aside0.mk (bb_ BK686.out hb); have n8_:=Aside0.mk (below_step (bl5_ HB.out GE678.out GE679.out GE680.out GE681.out GE686.out) hb); have n9_:=Aside0.mk (hbox); have n10_:=Aside0.mk ((bs5_ hg HB.out GE678.out GE679.out GE680.out GE681.out GE686.out:w.heap.size ≤ gb690)); have n11_:=Aside0.mk ((bs5_ hg HB.out GE678.out GE679.out GE680.out GE681.out GE686.out:w.heap.size ≤ gb690)); have n12_:=Aside0.mk ((nl_ hg BK678.out:gb678 ≠ gb690)); have n13_:=Aside0.mk ((ng_ hg BK678.out:gb690 ≠ gb678)); have n14_:=Aside0.mk ((nl_ hg BK679.out:gb679 ≠ gb690)); have n15_:=Aside0.mk ((ng_ hg BK679.out:gb690 ≠ gb679)); have n16_:=Aside0.mk ((nl_ hg BK680.out:gb680 ≠ gb690)); have n17_:=Aside0.mk ((ng_ hg BK680.out:gb690 ≠ gb680)); have n18_:=Aside0.mk ((nl_ hg BK681.out:gb681 ≠ gb690)); have n19_:=Aside0.mk ((ng_ hg BK681.out:gb690 ≠ gb681)); have n20_:=Aside0.mk ((nl_ hg BK686.out:gb686 ≠ gb690)); have n21_:=Aside0.mk ((ng_ hg BK686.out:gb690 ≠ gb686)); clear HO_19; clear HO_682002; clear HO_682003; clear BK678; clear BK679; clear BK680; clear BK681; clear BK686; clear HB; have HO_19:=n0_; have HO_682002:=n1_; have HO_682003:=n2_; have BK678:=n3_; have BK679:=n4_; have BK680:=n5_; have BK681:=n6_; have BK686:=n7_; have HB:=n8_; have BK690:=n9_; have GW690:=n10_; have GE690:=n11_; have NB678_690:=n12_; have NB690_678:=n13_; have NB679_690:=n14_; have NB690_679:=n15_; have NB680_690:=n16_; have NB690_680:=n17_; have NB681_690:=n18_; have NB690_681:=n19_; have NB686_690:=n20_; have NB690_686:=n21_; clear n0_ n1_ n2_ n3_ n4_ n5_ n6_ n7_ n8_ n9_ n10_ n11_ n12_ n13_ n14_ n15_ n16_ n17_ n18_ n19_ n20_ n21_; clear hb hbox hg; have hnb37:=NB690_678.out; have hnc37:=NB678_690.out; have hnb38:=NB690_679.out; have hnc38:=NB679_690.out; have hnb39:=NB690_680.out; have hnc39:=NB680_690.out; have hnb40:=NB690_681.out; have hnc40:=NB681_690.out; have hnb41:=NB690_686.out; have hnc41:=NB686_690.out; have hcz42_0:w36.cell? ⟨gb690,0,none⟩ = some (.int .i64 0):=(blk_cell BK690.out 0).trans rfl; have hcz42_1:w36.cell? ⟨gb690,1,none⟩ = some (.int .i64 0):=(blk_cell BK690.out 1).trans rfl; have hfz42_0:=blk_frozen BK690.out 0; have hfz42_1:=blk_frozen BK690.out 1))
      (try simp only [Act.put,List.setIfInBounds_toArray,List.set_cons_zero,List.set_cons_succ])
      go_cut [] (fun wc => ∃ (kq:Nat) (x682000_23:Int) (x682001_23:Int) (x682002_23:List Int) (x682003_23:List Int) (u682002:Value) (u682003:Value),Aside0 (spec_liPart.j1 kq t682 (t682.length:Int) x21_1 a0_0 a0_1 l0_2 l0_3 x682000_23 x682001_23 x682002_23 x682003_23 ((rd_T103 t682 x21_1).f0) ((rd_T103 t682 x21_1).f1) = some (r1,r2,r3,r4)) ∧ Aside0 (kq ≤ k1) ∧ Aside0 (Kd.R k103 103 wc w.heap.size (fun k_ => k_ ≠ gb679 ∧ k_ ≠ gb686 ∧ k_ ≠ gb690) (.slice (some ad685) t682.length co19) t682) ∧ Aside0 (Kd.R (Kd.int .i64) 3 wc w.heap.size (fun k_ => some k_ ≠ (u682003:Value).ownBlock) u682002 x682002_23) ∧ Aside0 (Kd.R (Kd.int .i64) 3 wc w.heap.size (fun k_ => some k_ ≠ (u682002:Value).ownBlock) u682003 x682003_23) ∧ Aside0 (wc.heap[gb678]? = some (.cells #[.int .i64 a0_0,.int .i64 a0_1,(.slice A0_2 l0_2.length c0_2),(.slice A0_3 l0_3.length c0_3)] 26 (0,0))) ∧ Aside0 (wc.heap[gb679]? = some (.cells #[.int .i64 a1_0,.int .i64 a1_1] 103 (0,0))) ∧ Aside0 (wc.heap[gb680]? = some (.cells #[.int .i64 0,.int .i64 0,(.slice none 0 0),(.slice none 0 0)] 26 (0,0))) ∧ Aside0 (wc.heap[gb681]? = some (.cells #[.int .i64 x682000_23,.int .i64 x682001_23,u682002,u682003] 26 (0,0))) ∧ Aside0 (wc.heap[gb686]? = some (.cells #[.int .i64 ((rd_T103 t682 x21_1).f0),.int .i64 ((rd_T103 t682 x21_1).f1)] 103 (0,0))) ∧ Aside0 (wc.heap[gb690]? = some (.cells #[.int .i64 t687,.int .i64 t688] 103 (0,0))) ∧ Aside0 (Below w.heap.size w wc))
      case first =>
       have H:=HC24.out
       clear HC24
       by_cases c43:t689 = true
       ·subst c43
        have H1:((spec_fiPut.f k1 x682000_1 x682001_1 x682002_1 x682003_1 false ((rd_T103 t682 x21_1).f0) ((rd_T103 t682 x21_1).f1)).bind fun bt691 => (spec_liPart.j1 k1 t682 (t682.length:Int) x21_1 a0_0 a0_1 l0_2 l0_3 bt691.1 bt691.2.1 bt691.2.2.1 bt691.2.2.2 ((rd_T103 t682 x21_1).f0) ((rd_T103 t682 x21_1).f1))) = some (r1,r2,r3,r4):=by rw [if_pos rfl] at H; exact H
        clear H
        have H:=H1
        clear H1
        replace H:=Option.bind_eq_some_iff.mp H
        obtain ⟨⟨t691,t692,t693,t696⟩,A440,H⟩:=H
        replace H:(spec_liPart.j1 k1 t682 (t682.length:Int) x21_1 a0_0 a0_1 l0_2 l0_3 t691 t692 t693 t696 ((rd_T103 t682 x21_1).f0) ((rd_T103 t682 x21_1).f1)) = some (r1,r2,r3,r4):=H
        have A44:=Aside0.mk A440
        clear A440
        have H':=Aside0.mk H
        clear H
        have hnb45:=NB681_678.out
        have hnc45:=NB678_681.out
        have hnb46:=NB681_679.out
        have hnc46:=NB679_681.out
        have hnb47:=NB681_680.out
        have hnc47:=NB680_681.out
        have hnb48:=NB681_686.out
        have hnc48:=NB686_681.out
        have hnb49:=NB681_690.out
        have hnc49:=NB690_681.out
        have hcz50_0:w36.cell? ⟨gb681,0,none⟩ = some (.int .i64 x682000_1):=(blk_cell BK681.out 0).trans rfl
        have hcz50_1:w36.cell? ⟨gb681,1,none⟩ = some (.int .i64 x682001_1):=(blk_cell BK681.out 1).trans rfl
        have hcz50_2:w36.cell? ⟨gb681,2,none⟩ = some (u682002):=(blk_cell BK681.out 2).trans rfl
        have hcz50_3:w36.cell? ⟨gb681,3,none⟩ = some (u682003):=(blk_cell BK681.out 3).trans rfl
        have hfz50_0:=blk_frozen BK681.out 0
        have hfz50_1:=blk_frozen BK681.out 1
        have hfz50_2:=blk_frozen BK681.out 2
        have hfz50_3:=blk_frozen BK681.out 3
        have hnb51:=NB686_678.out
        have hnc51:=NB678_686.out
        have hnb52:=NB686_679.out
        have hnc52:=NB679_686.out
        have hnb53:=NB686_680.out
        have hnc53:=NB680_686.out
        have hnb54:=NB686_690.out
        have hnc54:=NB690_686.out
        have hcz55_0:w36.cell? ⟨gb686,0,none⟩ = some (.int .i64 ((rd_T103 t682 x21_1).f0)):=(blk_cell BK686.out 0).trans rfl
        have hcz55_1:w36.cell? ⟨gb686,1,none⟩ = some (.int .i64 ((rd_T103 t682 x21_1).f1)):=(blk_cell BK686.out 1).trans rfl
        have hfz55_0:=blk_frozen BK686.out 0
        have hfz55_1:=blk_frozen BK686.out 1
        obtain ⟨Ao56,co56,eo56⟩:=Kd.R_slice HO_682002.out
        subst eo56
        obtain ⟨Ao57,co57,eo57⟩:=Kd.R_slice HO_682003.out
        subst eo57
        go_wp2_with (first | ((with_reducible refine gate_callee (f:=47) rfl ?_); refine goesL_ (some 37) rfl rfl Tryd.func47 (by kernel_rfl) rfl #[.agg #[.int .i64 x682000_1,.int .i64 x682001_1,.slice Ao56 x682002_1.length co56,.slice Ao57 x682003_1.length co57],.bool false,.int .i64 ((rd_T103 t682 x21_1).f0),.int .i64 ((rd_T103 t682 x21_1).f1)] rfl ob_ ?_; (with_reducible refine (spec_fiPut.calls k1 x682000_1 x682001_1 _ _ x682002_1 _ _ x682003_1 false ((rd_T103 t682 x21_1).f0) ((rd_T103 t682 x21_1).f1) t691 t692 t693 t696 _ ?side1 ?side2 ?side3 ?side4 A44.out).mono ?_); (case side1 => refine (Kd.R_reads' (e:=3) (base:=w.heap.size) (ok:=fun k_ => some k_ ≠ (.slice Ao57 x682003_1.length co57:Value).ownBlock) (n:=x682002_1.length) (c:=co56) ?_).2.2; exact (by (with_reducible repeat (first | apply Kd.R_alloc | apply Kd.R_drewN | apply Kd.R_drew)); exact (Kd.R_mono (Kd.R_far (p:=⟨gb690,1,none⟩) (Kd.R_far (p:=⟨gb690,0,none⟩) (Kd.R_types HO_682002.out BK690.out (by decide)) (fun _ hk => hk.2) (.int .i64 t687)) (fun _ hk => hk.2) (.int .i64 t688)) (fun _ h_ => h_.1)))); (case side2 => exact (Kd.R_reads' HO_682002.out).2.1); (case side3 => refine (Kd.R_reads' (e:=3) (base:=w.heap.size) (ok:=fun k_ => some k_ ≠ (.slice Ao56 x682002_1.length co56:Value).ownBlock) (n:=x682003_1.length) (c:=co57) ?_).2.2; exact (by (with_reducible repeat (first | apply Kd.R_alloc | apply Kd.R_drewN | apply Kd.R_drew)); exact (Kd.R_mono (Kd.R_far (p:=⟨gb690,1,none⟩) (Kd.R_far (p:=⟨gb690,0,none⟩) (Kd.R_types HO_682003.out BK690.out (by decide)) (fun _ hk => hk.2) (.int .i64 t687)) (fun _ hk => hk.2) (.int .i64 t688)) (fun _ h_ => h_.1)))); (case side4 => exact (Kd.R_reads' HO_682003.out).2.1); rintro e w58 ⟨v694,v697,rfl,ho0,ho1,hb⟩; refine ⟨_,rfl,?_⟩; have n0_:=Aside0.mk (Kd.R_below (by (with_reducible repeat (first | apply Kd.R_alloc | apply Kd.R_drewN | apply Kd.R_drew)); exact (Kd.R_mono (Kd.R_far (p:=⟨gb690,1,none⟩) (Kd.R_far (p:=⟨gb690,0,none⟩) (Kd.R_mono HO_19.out (fun k_ hk => (⟨hk,hk.2⟩:_ ∧ k_ ≠ gb690))) (fun _ hk => hk.2) (.int .i64 t687)) (fun _ hk => hk.2) (.int .i64 t688)) (fun _ h_ => h_.1))) hb); have n1_:=Aside0.mk (Kd.R_mono (Kd.R_told (Kd.R_told (Kd.R_old (by (with_reducible repeat (first | apply Kd.R_alloc | apply Kd.R_drewN | apply Kd.R_drew)); exact (Kd.R_mono (Kd.R_far (p:=⟨gb690,1,none⟩) (Kd.R_far (p:=⟨gb690,0,none⟩) (Kd.R_types HO_682002.out BK690.out (by decide)) (fun _ hk => hk.2) (.int .i64 t687)) (fun _ hk => hk.2) (.int .i64 t688)) (fun _ h_ => h_.1))) hb) (Kd.R_base ho0)) (Kd.R_base ho1)) (fun _ h_ => h_.1)); have n2_:=Aside0.mk (Kd.R_mono (Kd.R_told (Kd.R_told (Kd.R_old (by (with_reducible repeat (first | apply Kd.R_alloc | apply Kd.R_drewN | apply Kd.R_drew)); exact (Kd.R_mono (Kd.R_far (p:=⟨gb690,1,none⟩) (Kd.R_far (p:=⟨gb690,0,none⟩) (Kd.R_types HO_682003.out BK690.out (by decide)) (fun _ hk => hk.2) (.int .i64 t687)) (fun _ hk => hk.2) (.int .i64 t688)) (fun _ h_ => h_.1))) hb) (Kd.R_base ho0)) (Kd.R_base ho1)) (fun _ h_ => h_.1)); have n3_:=Aside0.mk (Kd.R_lower (Kd.R_new' (Kd.R_new' ho0 (Kd.R_lt (by (with_reducible repeat (first | apply Kd.R_alloc | apply Kd.R_drewN | apply Kd.R_drew)); exact (Kd.R_mono (Kd.R_far (p:=⟨gb690,1,none⟩) (Kd.R_far (p:=⟨gb690,0,none⟩) (Kd.R_types HO_682002.out BK690.out (by decide)) (fun _ hk => hk.2) (.int .i64 t687)) (fun _ hk => hk.2) (.int .i64 t688)) (fun _ h_ => h_.1))))) (Kd.R_lt (by (with_reducible repeat (first | apply Kd.R_alloc | apply Kd.R_drewN | apply Kd.R_drew)); exact (Kd.R_mono (Kd.R_far (p:=⟨gb690,1,none⟩) (Kd.R_far (p:=⟨gb690,0,none⟩) (Kd.R_types HO_682003.out BK690.out (by decide)) (fun _ hk => hk.2) (.int .i64 t687)) (fun _ hk => hk.2) (.int .i64 t688)) (fun _ h_ => h_.1))))) (below_size (bl6_ HB.out GE678.out GE679.out GE680.out GE681.out GE686.out GE690.out))); have n4_:=Aside0.mk (Kd.R_lower (Kd.R_new' (Kd.R_new' ho1 (Kd.R_lt (by (with_reducible repeat (first | apply Kd.R_alloc | apply Kd.R_drewN | apply Kd.R_drew)); exact (Kd.R_mono (Kd.R_far (p:=⟨gb690,1,none⟩) (Kd.R_far (p:=⟨gb690,0,none⟩) (Kd.R_types HO_682002.out BK690.out (by decide)) (fun _ hk => hk.2) (.int .i64 t687)) (fun _ hk => hk.2) (.int .i64 t688)) (fun _ h_ => h_.1))))) (Kd.R_lt (by (with_reducible repeat (first | apply Kd.R_alloc | apply Kd.R_drewN | apply Kd.R_drew)); exact (Kd.R_mono (Kd.R_far (p:=⟨gb690,1,none⟩) (Kd.R_far (p:=⟨gb690,0,none⟩) (Kd.R_types HO_682003.out BK690.out (by decide)) (fun _ hk => hk.2) (.int .i64 t687)) (fun _ hk => hk.2) (.int .i64 t688)) (fun _ h_ => h_.1))))) (below_size (bl6_ HB.out GE678.out GE679.out GE680.out GE681.out GE686.out GE690.out))); have n5_:=Aside0.mk (blk_below (g:=gb678) (o:=.cells #[.int .i64 a0_0,.int .i64 a0_1,.slice A0_2 l0_2.length c0_2,.slice A0_3 l0_3.length c0_3] 26 (0,0)) (bf2_ NB678_690.out NB678_690.out BK678.out) hb); have n6_:=Aside0.mk (blk_below (g:=gb679) (o:=.cells #[.int .i64 a1_0,.int .i64 a1_1] 103 (0,0)) (bf2_ NB679_690.out NB679_690.out BK679.out) hb); have n7_:=Aside0.mk (blk_below (g:=gb680) (o:=.cells #[.int .i64 0,.int .i64 0,.slice none 0 0,.slice none 0 0] 26 (0,0)) (bf2_ NB680_690.out NB680_690.out BK680.out) hb); have n8_:=Aside0.mk (blk_below (g:=gb681) (o:=.cells #[.int .i64 x682000_1,.int .i64 x682001_1,.slice Ao56 x682002_1.length co56,.slice Ao57 x682003_1.length co57] 26 (0,0)) (bf2_ NB681_690.out NB681_690.out BK681.out) hb); have n9_:=Aside0.mk (blk_below (g:=gb686) (o:=.cells #[.int .i64 ((rd_T103 t682 x21_1).f0),.int .i64 ((rd_T103 t682 x21_1).f1)] 103 (0,0)) (bf2_ NB686_690.out NB686_690.out BK686.out) hb); have n10_:=Aside0.mk (blk_below (g:=gb690) (o:=.cells #[.int .i64 t687,.int .i64 t688] 103 (0,0)) (by (with_reducible repeat (first | refine blk_drewN ?_ _ | refine blk_drew ?_ | refine blk_alloc ?_ _)); refine blk_put (cs:=#[.int .i64 t687,.int .i64 0]) ?_ 1 _ rfl; (with_reducible repeat (first | refine blk_drewN ?_ _ | refine blk_drew ?_ | refine blk_alloc ?_ _)); refine blk_put (cs:=#[.int .i64 0,.int .i64 0]) ?_ 0 _ rfl; (with_reducible repeat (first | refine blk_drewN ?_ _ | refine blk_drew ?_ | refine blk_alloc ?_ _)); exact BK690.out) hb); have n11_:=Aside0.mk (below_step (bl6_ HB.out GE678.out GE679.out GE680.out GE681.out GE686.out GE690.out) hb); clear HO_19; clear HO_682002; clear HO_682003; clear BK678; clear BK679; clear BK680; clear BK681; clear BK686; clear BK690; clear HB; have HO_19:=n0_; have HO_682002:=n1_; have HO_682003:=n2_; have HO695:=n3_; have HO698:=n4_; have BK678:=n5_; have BK679:=n6_; have BK680:=n7_; have BK681:=n8_; have BK686:=n9_; have BK690:=n10_; have HB:=n11_; clear n0_ n1_ n2_ n3_ n4_ n5_ n6_ n7_ n8_ n9_ n10_ n11_; (try clear hb); (try clear hb2); (try clear hk); (try clear hi); (try clear ho0); (try clear ho1); have hcz59_0:w58.cell? ⟨gb681,0,none⟩ = some (.int .i64 x682000_1):=(blk_cell BK681.out 0).trans rfl; have hcz59_1:w58.cell? ⟨gb681,1,none⟩ = some (.int .i64 x682001_1):=(blk_cell BK681.out 1).trans rfl; have hcz59_2:w58.cell? ⟨gb681,2,none⟩ = some (.slice Ao56 x682002_1.length co56):=(blk_cell BK681.out 2).trans rfl; have hcz59_3:w58.cell? ⟨gb681,3,none⟩ = some (.slice Ao57 x682003_1.length co57):=(blk_cell BK681.out 3).trans rfl; have hfz59_0:=blk_frozen BK681.out 0; have hfz59_1:=blk_frozen BK681.out 1; have hfz59_2:=blk_frozen BK681.out 2; have hfz59_3:=blk_frozen BK681.out 3; obtain ⟨Ao60,co60,eo60⟩:=Kd.R_slice HO695.out; subst eo60; obtain ⟨Ao61,co61,eo61⟩:=Kd.R_slice HO698.out; subst eo61))
        go_meet
        case rel => exact ⟨_,(t691),(t692),(t693),(t696),(.slice Ao60 t693.length co60),(.slice Ao61 t696.length co61),H',⟨by have:=HK1.out; first | omega | exact Nat.le_refl _⟩,⟨by (with_reducible repeat (first | apply Kd.R_alloc | apply Kd.R_drewN | apply Kd.R_drew)); exact Kd.R_mono (Kd.R_far (p:=⟨gb681,3,none⟩) (Kd.R_far (p:=⟨gb681,2,none⟩) (Kd.R_far (p:=⟨gb681,1,none⟩) (Kd.R_far (p:=⟨gb681,0,none⟩) (Kd.R_types HO_19.out BK681.out (by decide)) (fun _ hk => hk.2) (.int .i64 t691)) (fun _ hk => hk.2) (.int .i64 t692)) (fun _ hk => hk.2) (.slice Ao60 t693.length co60)) (fun _ hk => hk.2) (.slice Ao61 t696.length co61)) (fun _ hk => ⟨hk.1.1.1,⟨hk.1.1.2,hk.1.2⟩⟩)⟩,⟨by (with_reducible repeat (first | apply Kd.R_alloc | apply Kd.R_drewN | apply Kd.R_drew)); exact Kd.R_mono (Kd.R_far (p:=⟨gb681,3,none⟩) (Kd.R_far (p:=⟨gb681,2,none⟩) (Kd.R_far (p:=⟨gb681,1,none⟩) (Kd.R_far (p:=⟨gb681,0,none⟩) (Kd.R_types HO695.out BK681.out (by decide)) (fun _ hk => hk.2) (.int .i64 t691)) (fun _ hk => hk.2) (.int .i64 t692)) (fun _ hk => hk.2) (.slice Ao60 t693.length co60)) (fun _ hk => hk.2) (.slice Ao61 t696.length co61)) (fun _ hk => hk.1.1.1)⟩,⟨by (with_reducible repeat (first | apply Kd.R_alloc | apply Kd.R_drewN | apply Kd.R_drew)); exact Kd.R_mono (Kd.R_far (p:=⟨gb681,3,none⟩) (Kd.R_far (p:=⟨gb681,2,none⟩) (Kd.R_far (p:=⟨gb681,1,none⟩) (Kd.R_far (p:=⟨gb681,0,none⟩) (Kd.R_types HO698.out BK681.out (by decide)) (fun _ hk => hk.2) (.int .i64 t691)) (fun _ hk => hk.2) (.int .i64 t692)) (fun _ hk => hk.2) (.slice Ao60 t693.length co60)) (fun _ hk => hk.2) (.slice Ao61 t696.length co61)) (fun _ hk => hk.1.1.1)⟩,⟨bf4_ NB678_681.out NB678_681.out NB678_681.out NB678_681.out BK678.out⟩,⟨bf4_ NB679_681.out NB679_681.out NB679_681.out NB679_681.out BK679.out⟩,⟨bf4_ NB680_681.out NB680_681.out NB680_681.out NB680_681.out BK680.out⟩,⟨by (with_reducible repeat (first | refine blk_drewN ?_ _ | refine blk_drew ?_ | refine blk_alloc ?_ _)); refine blk_put (cs:=#[.int .i64 t691,.int .i64 t692,.slice Ao60 t693.length co60,.slice Ao57 x682003_1.length co57]) ?_ 3 _ rfl; (with_reducible repeat (first | refine blk_drewN ?_ _ | refine blk_drew ?_ | refine blk_alloc ?_ _)); refine blk_put (cs:=#[.int .i64 t691,.int .i64 t692,.slice Ao56 x682002_1.length co56,.slice Ao57 x682003_1.length co57]) ?_ 2 _ rfl; (with_reducible repeat (first | refine blk_drewN ?_ _ | refine blk_drew ?_ | refine blk_alloc ?_ _)); refine blk_put (cs:=#[.int .i64 t691,.int .i64 x682001_1,.slice Ao56 x682002_1.length co56,.slice Ao57 x682003_1.length co57]) ?_ 1 _ rfl; (with_reducible repeat (first | refine blk_drewN ?_ _ | refine blk_drew ?_ | refine blk_alloc ?_ _)); refine blk_put (cs:=#[.int .i64 x682000_1,.int .i64 x682001_1,.slice Ao56 x682002_1.length co56,.slice Ao57 x682003_1.length co57]) ?_ 0 _ rfl; (with_reducible repeat (first | refine blk_drewN ?_ _ | refine blk_drew ?_ | refine blk_alloc ?_ _)); exact BK681.out⟩,⟨bf4_ NB686_681.out NB686_681.out NB686_681.out NB686_681.out BK686.out⟩,⟨bf4_ NB690_681.out NB690_681.out NB690_681.out NB690_681.out BK690.out⟩,⟨bl6_ HB.out GE678.out GE679.out GE680.out GE681.out GE686.out GE690.out⟩⟩
       ·replace c43:=Bool.eq_false_iff.mpr c43
        subst c43
        have H1:(spec_liPart.j1 k1 t682 (t682.length:Int) x21_1 a0_0 a0_1 l0_2 l0_3 x682000_1 x682001_1 x682002_1 x682003_1 ((rd_T103 t682 x21_1).f0) ((rd_T103 t682 x21_1).f1)) = some (r1,r2,r3,r4):=by rw [if_neg (show ¬ (false = true) by decide)] at H; exact H
        clear H
        have H:=H1
        clear H1
        have H':=Aside0.mk H
        clear H
        go_wp2
        go_meet
        case rel => exact ⟨_,(x682000_1),(x682001_1),(x682002_1),(x682003_1),(u682002),(u682003),H',⟨by have:=HK1.out; first | omega | exact Nat.le_refl _⟩,⟨by (with_reducible repeat (first | apply Kd.R_alloc | apply Kd.R_drewN | apply Kd.R_drew)); exact Kd.R_mono (Kd.R_far (p:=⟨gb690,1,none⟩) (Kd.R_far (p:=⟨gb690,0,none⟩) (Kd.R_mono HO_19.out (fun k_ hk => (⟨hk,hk.2⟩:_ ∧ k_ ≠ gb690))) (fun _ hk => hk.2) (.int .i64 t687)) (fun _ hk => hk.2) (.int .i64 t688)) (fun _ hk => ⟨hk.1.1.1,⟨hk.1.1.2,hk.1.2⟩⟩)⟩,⟨by (with_reducible repeat (first | apply Kd.R_alloc | apply Kd.R_drewN | apply Kd.R_drew)); exact Kd.R_mono (Kd.R_far (p:=⟨gb690,1,none⟩) (Kd.R_far (p:=⟨gb690,0,none⟩) (Kd.R_types HO_682002.out BK690.out (by decide)) (fun _ hk => hk.2) (.int .i64 t687)) (fun _ hk => hk.2) (.int .i64 t688)) (fun _ hk => hk.1)⟩,⟨by (with_reducible repeat (first | apply Kd.R_alloc | apply Kd.R_drewN | apply Kd.R_drew)); exact Kd.R_mono (Kd.R_far (p:=⟨gb690,1,none⟩) (Kd.R_far (p:=⟨gb690,0,none⟩) (Kd.R_types HO_682003.out BK690.out (by decide)) (fun _ hk => hk.2) (.int .i64 t687)) (fun _ hk => hk.2) (.int .i64 t688)) (fun _ hk => hk.1)⟩,⟨bf2_ NB678_690.out NB678_690.out BK678.out⟩,⟨bf2_ NB679_690.out NB679_690.out BK679.out⟩,⟨bf2_ NB680_690.out NB680_690.out BK680.out⟩,⟨bf2_ NB681_690.out NB681_690.out BK681.out⟩,⟨bf2_ NB686_690.out NB686_690.out BK686.out⟩,⟨by (with_reducible repeat (first | refine blk_drewN ?_ _ | refine blk_drew ?_ | refine blk_alloc ?_ _)); refine blk_put (cs:=#[.int .i64 t687,.int .i64 0]) ?_ 1 _ rfl; (with_reducible repeat (first | refine blk_drewN ?_ _ | refine blk_drew ?_ | refine blk_alloc ?_ _)); refine blk_put (cs:=#[.int .i64 0,.int .i64 0]) ?_ 0 _ rfl; (with_reducible repeat (first | refine blk_drewN ?_ _ | refine blk_drew ?_ | refine blk_alloc ?_ _)); exact BK690.out⟩,⟨bl6_ HB.out GE678.out GE679.out GE680.out GE681.out GE686.out GE690.out⟩⟩
      case rest =>
       clear HC24
       try clear c1
       try clear c2
       try clear p2
       try clear c3
       try clear c4
       try clear c5
       try clear p6
       try clear q6
       try clear hx6
       try clear c7
       try clear c8
       try clear c9
       try clear c10
       try clear c11
       try clear c12
       try clear c13
       try clear c16
       try clear c20
       try clear c20b0
       try clear c21
       try clear c21b0
       try clear c22
       try clear c22b0
       try clear c26
       try clear c27
       try clear c28
       try clear c29
       try clear c31
       try clear c32
       try clear c33
       try clear c37
       try clear c38
       try clear c39
       try clear c40
       try clear c41
       try clear c43
       try clear c45
       try clear c46
       try clear c47
       try clear c48
       try clear c49
       try clear c51
       try clear c52
       try clear c53
       try clear c54
       try clear hcz14_0
       try clear hcz14_1
       try clear hcz14_2
       try clear hcz14_3
       try clear hcz15_0
       try clear hcz15_1
       try clear hcz15_2
       try clear hcz15_3
       try clear hcz17_0
       try clear hcz17_1
       try clear hcz30_0
       try clear hcz30_1
       try clear hcz34_0
       try clear hcz34_1
       try clear hcz34_2
       try clear hcz34_3
       try clear hcz42_0
       try clear hcz42_1
       try clear hcz50_0
       try clear hcz50_1
       try clear hcz50_2
       try clear hcz50_3
       try clear hcz55_0
       try clear hcz55_1
       try clear hcz59_0
       try clear hcz59_1
       try clear hcz59_2
       try clear hcz59_3
       try clear hcz9_0
       try clear hcz9_1
       try clear hcz9_2
       try clear hcz9_3
       try clear hfz14_0
       try clear hfz14_1
       try clear hfz14_2
       try clear hfz14_3
       try clear hfz15_0
       try clear hfz15_1
       try clear hfz15_2
       try clear hfz15_3
       try clear hfz17_0
       try clear hfz17_1
       try clear hfz30_0
       try clear hfz30_1
       try clear hfz34_0
       try clear hfz34_1
       try clear hfz34_2
       try clear hfz34_3
       try clear hfz42_0
       try clear hfz42_1
       try clear hfz50_0
       try clear hfz50_1
       try clear hfz50_2
       try clear hfz50_3
       try clear hfz55_0
       try clear hfz55_1
       try clear hfz59_0
       try clear hfz59_1
       try clear hfz59_2
       try clear hfz59_3
       try clear hfz9_0
       try clear hfz9_1
       try clear hfz9_2
       try clear hfz9_3
       try clear hx685_0
       try clear hx685_1
       try clear p2
       try clear p685
       try clear q685
       obtain ⟨kq,x682000_23,x682001_23,x682002_23,x682003_23,u682002,u682003,HA,HJ23,HO_19,HO_682002,HO_682003,BK678,BK679,BK680,BK681,BK686,BK690,HB⟩:=hcut
       cases kq with
       | zero => exact absurd HA.out (by simp [spec_liPart.j1])
       | succ kj23 =>
        have H:=HA.out
        clear HA
        simp only [spec_liPart.j1] at H
        replace H:=Option.bind_eq_some_iff.mp H
        obtain ⟨⟨t699,t700,t701⟩,A620,H⟩:=H
        replace H:(if t701 = true then ((spec_fiPut.f kj23 x682000_23 x682001_23 x682002_23 x682003_23 true ((rd_T103 t682 x21_1).f0) ((rd_T103 t682 x21_1).f1)).bind fun bt703 => (spec_liPart.l0 kj23 t682 (t682.length:Int) (wrap64 (x21_1 + 1)) a0_0 a0_1 l0_2 l0_3 bt703.1 bt703.2.1 bt703.2.2.1 bt703.2.2.2)) else (spec_liPart.l0 kj23 t682 (t682.length:Int) (wrap64 (x21_1 + 1)) a0_0 a0_1 l0_2 l0_3 x682000_23 x682001_23 x682002_23 x682003_23)) = some (r1,r2,r3,r4):=H
        have A62:=Aside0.mk A620
        clear A620
        by_cases c63:t701 = true
        ·subst c63
         have H1:((spec_fiPut.f kj23 x682000_23 x682001_23 x682002_23 x682003_23 true ((rd_T103 t682 x21_1).f0) ((rd_T103 t682 x21_1).f1)).bind fun bt703 => (spec_liPart.l0 kj23 t682 (t682.length:Int) (wrap64 (x21_1 + 1)) a0_0 a0_1 l0_2 l0_3 bt703.1 bt703.2.1 bt703.2.2.1 bt703.2.2.2)) = some (r1,r2,r3,r4):=by rw [if_pos rfl] at H; exact H
         clear H
         have H:=H1
         clear H1
         replace H:=Option.bind_eq_some_iff.mp H
         obtain ⟨⟨t703,t704,t705,t708⟩,A640,H⟩:=H
         replace H:(spec_liPart.l0 kj23 t682 (t682.length:Int) (wrap64 (x21_1 + 1)) a0_0 a0_1 l0_2 l0_3 t703 t704 t705 t708) = some (r1,r2,r3,r4):=H
         have A64:=Aside0.mk A640
         clear A640
         have H':=Aside0.mk H
         clear H
         have hnb65:=NB678_679.out
         have hnc65:=NB679_678.out
         have hnb66:=NB678_680.out
         have hnc66:=NB680_678.out
         have hnb67:=NB678_681.out
         have hnc67:=NB681_678.out
         have hnb68:=NB678_686.out
         have hnc68:=NB686_678.out
         have hnb69:=NB678_690.out
         have hnc69:=NB690_678.out
         have hcz70_0:wc.cell? ⟨gb678,0,none⟩ = some (.int .i64 a0_0):=(blk_cell BK678.out 0).trans rfl
         have hcz70_1:wc.cell? ⟨gb678,1,none⟩ = some (.int .i64 a0_1):=(blk_cell BK678.out 1).trans rfl
         have hcz70_2:wc.cell? ⟨gb678,2,none⟩ = some (.slice A0_2 l0_2.length c0_2):=(blk_cell BK678.out 2).trans rfl
         have hcz70_3:wc.cell? ⟨gb678,3,none⟩ = some (.slice A0_3 l0_3.length c0_3):=(blk_cell BK678.out 3).trans rfl
         have hfz70_0:=blk_frozen BK678.out 0
         have hfz70_1:=blk_frozen BK678.out 1
         have hfz70_2:=blk_frozen BK678.out 2
         have hfz70_3:=blk_frozen BK678.out 3
         have hnb71:=NB686_679.out
         have hnc71:=NB679_686.out
         have hnb72:=NB686_680.out
         have hnc72:=NB680_686.out
         have hnb73:=NB686_681.out
         have hnc73:=NB681_686.out
         have hnb74:=NB686_690.out
         have hnc74:=NB690_686.out
         have hcz75_0:wc.cell? ⟨gb686,0,none⟩ = some (.int .i64 ((rd_T103 t682 x21_1).f0)):=(blk_cell BK686.out 0).trans rfl
         have hcz75_1:wc.cell? ⟨gb686,1,none⟩ = some (.int .i64 ((rd_T103 t682 x21_1).f1)):=(blk_cell BK686.out 1).trans rfl
         have hfz75_0:=blk_frozen BK686.out 0
         have hfz75_1:=blk_frozen BK686.out 1
         go_wp2_with (first | ((with_reducible refine gate_callee (f:=104) rfl ?_); refine goesL_ (some 41) rfl rfl Tryd.func104 (by kernel_rfl) rfl #[.agg #[.int .i64 a0_0,.int .i64 a0_1,.slice A0_2 l0_2.length c0_2,.slice A0_3 l0_3.length c0_3],.agg #[.int .i64 ((rd_T103 t682 x21_1).f0),.int .i64 ((rd_T103 t682 x21_1).f1)],.int .i64 2] rfl ob_ ?_; (with_reducible refine (spec_liNext.calls kj23 a0_0 a0_1 _ _ l0_2 _ _ l0_3 ((rd_T103 t682 x21_1).f0) ((rd_T103 t682 x21_1).f1) 2 t699 t700 true _ ?side1 ?side2 ?side3 ?side4 A62.out).mono ?_); (case side1 => exact kc_ (Kd.C_below HR0_2.out HB.out)); (case side2 => exact HC0_2.out); (case side3 => exact kc_ (Kd.C_below HR0_3.out HB.out)); (case side4 => exact HC0_3.out); rintro e w76 ⟨rfl,hb⟩; refine ⟨_,rfl,?_⟩; have n0_:=Aside0.mk (Kd.R_below (kr_ HO_19.out) hb); have n1_:=Aside0.mk (Kd.R_below (kr_ HO_682002.out) hb); have n2_:=Aside0.mk (Kd.R_below (kr_ HO_682003.out) hb); have n3_:=Aside0.mk (bb_ BK678.out hb); have n4_:=Aside0.mk (bb_ BK679.out hb); have n5_:=Aside0.mk (bb_ BK680.out hb); have n6_:=Aside0.mk (bb_ BK681.out hb); have n7_:=Aside0.mk (bb_ BK686.out hb); have n8_:=Aside0.mk (bb_ BK690.out hb); have n9_:=Aside0.mk (below_step (bl6_ HB.out GE678.out GE679.out GE680.out GE681.out GE686.out GE690.out) hb); clear HO_19; clear HO_682002; clear HO_682003; clear BK678; clear BK679; clear BK680; clear BK681; clear BK686; clear BK690; clear HB; have HO_19:=n0_; have HO_682002:=n1_; have HO_682003:=n2_; have BK678:=n3_; have BK679:=n4_; have BK680:=n5_; have BK681:=n6_; have BK686:=n7_; have BK690:=n8_; have HB:=n9_; clear n0_ n1_ n2_ n3_ n4_ n5_ n6_ n7_ n8_ n9_; (try clear hb); (try clear hb2); (try clear hk); (try clear hi)) | ((with_reducible refine gate_dst (N:=10) rfl ?_); refine boxE_ (N:=10) (cs:=#[.int .i64 0,.int .i64 0]) (t:=103) ?_; intro gb702 hg w77 hbox hb; have n0_:=Aside0.mk (Kd.R_below (Kd.R_elderB (kr_ HO_19.out) gb702 (Nat.le_of_eq hg.symm)) hb); have n1_:=Aside0.mk (Kd.R_below (kr_ HO_682002.out) hb); have n2_:=Aside0.mk (Kd.R_below (kr_ HO_682003.out) hb); have n3_:=Aside0.mk (bb_ BK678.out hb); have n4_:=Aside0.mk (bb_ BK679.out hb); have n5_:=Aside0.mk (bb_ BK680.out hb); have n6_:=Aside0.mk (bb_ BK681.out hb); have n7_:=Aside0.mk (bb_ BK686.out hb); have n8_:=Aside0.mk (bb_ BK690.out hb); have n9_:=Aside0.mk (below_step (bl6_ HB.out GE678.out GE679.out GE680.out GE681.out GE686.out GE690.out) hb); have n10_:=Aside0.mk (hbox); have n11_:=Aside0.mk ((bs6_ hg HB.out GE678.out GE679.out GE680.out GE681.out GE686.out GE690.out:w.heap.size ≤ gb702)); have n12_:=Aside0.mk ((bs6_ hg HB.out GE678.out GE679.out GE680.out GE681.out GE686.out GE690.out:w.heap.size ≤ gb702)); have n13_:=Aside0.mk ((nl_ hg BK678.out:gb678 ≠ gb702)); have n14_:=Aside0.mk ((ng_ hg BK678.out:gb702 ≠ gb678)); have n15_:=Aside0.mk ((nl_ hg BK679.out:gb679 ≠ gb702)); have n16_:=Aside0.mk ((ng_ hg BK679.out:gb702 ≠ gb679)); have n17_:=Aside0.mk ((nl_ hg BK680.out:gb680 ≠ gb702)); have n18_:=Aside0.mk ((ng_ hg BK680.out:gb702 ≠ gb680)); have n19_:=Aside0.mk ((nl_ hg BK681.out:gb681 ≠ gb702)); have n20_:=Aside0.mk ((ng_ hg BK681.out:gb702 ≠ gb681)); have n21_:=Aside0.mk ((nl_ hg BK686.out:gb686 ≠ gb702)); have n22_:=Aside0.mk ((ng_ hg BK686.out:gb702 ≠ gb686)); have n23_:=Aside0.mk ((nl_ hg BK690.out:gb690 ≠ gb702)); have n24_:=Aside0.mk ((ng_ hg BK690.out:gb702 ≠ gb690)); clear HO_19; clear HO_682002; clear HO_682003; clear BK678; clear BK679; clear BK680; clear BK681; clear BK686; clear BK690; clear HB; have HO_19:=n0_; have HO_682002:=n1_; have HO_682003:=n2_; have BK678:=n3_; have BK679:=n4_; have BK680:=n5_; have BK681:=n6_; have BK686:=n7_; have BK690:=n8_; have HB:=n9_; have BK702:=n10_; have GW702:=n11_; have GE702:=n12_; have NB678_702:=n13_; have NB702_678:=n14_; have NB679_702:=n15_; have NB702_679:=n16_; have NB680_702:=n17_; have NB702_680:=n18_; have NB681_702:=n19_; have NB702_681:=n20_; have NB686_702:=n21_; have NB702_686:=n22_; have NB690_702:=n23_; have NB702_690:=n24_; clear n0_ n1_ n2_ n3_ n4_ n5_ n6_ n7_ n8_ n9_ n10_ n11_ n12_ n13_ n14_ n15_ n16_ n17_ n18_ n19_ n20_ n21_ n22_ n23_ n24_; clear hb hbox hg; have hnb78:=NB702_678.out; have hnc78:=NB678_702.out; have hnb79:=NB702_679.out; have hnc79:=NB679_702.out; have hnb80:=NB702_680.out; have hnc80:=NB680_702.out; have hnb81:=NB702_681.out; have hnc81:=NB681_702.out; have hnb82:=NB702_686.out; have hnc82:=NB686_702.out; have hnb83:=NB702_690.out; have hnc83:=NB690_702.out; have hcz84_0:w77.cell? ⟨gb702,0,none⟩ = some (.int .i64 0):=(blk_cell BK702.out 0).trans rfl; have hcz84_1:w77.cell? ⟨gb702,1,none⟩ = some (.int .i64 0):=(blk_cell BK702.out 1).trans rfl; have hfz84_0:=blk_frozen BK702.out 0; have hfz84_1:=blk_frozen BK702.out 1; have hnb85:=NB681_679.out; have hnc85:=NB679_681.out; have hnb86:=NB681_680.out; have hnc86:=NB680_681.out; have hnb87:=NB681_690.out; have hnc87:=NB690_681.out; have hcz88_0:w77.cell? ⟨gb681,0,none⟩ = some (.int .i64 x682000_23):=(blk_cell BK681.out 0).trans rfl; have hcz88_1:w77.cell? ⟨gb681,1,none⟩ = some (.int .i64 x682001_23):=(blk_cell BK681.out 1).trans rfl; have hcz88_2:w77.cell? ⟨gb681,2,none⟩ = some (u682002):=(blk_cell BK681.out 2).trans rfl; have hcz88_3:w77.cell? ⟨gb681,3,none⟩ = some (u682003):=(blk_cell BK681.out 3).trans rfl; have hfz88_0:=blk_frozen BK681.out 0; have hfz88_1:=blk_frozen BK681.out 1; have hfz88_2:=blk_frozen BK681.out 2; have hfz88_3:=blk_frozen BK681.out 3; have hcz89_0:w77.cell? ⟨gb686,0,none⟩ = some (.int .i64 ((rd_T103 t682 x21_1).f0)):=(blk_cell BK686.out 0).trans rfl; have hcz89_1:w77.cell? ⟨gb686,1,none⟩ = some (.int .i64 ((rd_T103 t682 x21_1).f1)):=(blk_cell BK686.out 1).trans rfl; have hfz89_0:=blk_frozen BK686.out 0; have hfz89_1:=blk_frozen BK686.out 1; obtain ⟨Ao90,co90,eo90⟩:=Kd.R_slice HO_682002.out; subst eo90; obtain ⟨Ao91,co91,eo91⟩:=Kd.R_slice HO_682003.out; subst eo91) | ((with_reducible refine gate_callee (f:=47) rfl ?_); refine goesL_ (some 50) rfl rfl Tryd.func47 (by kernel_rfl) rfl #[.agg #[.int .i64 x682000_23,.int .i64 x682001_23,.slice Ao90 x682002_23.length co90,.slice Ao91 x682003_23.length co91],.bool true,.int .i64 ((rd_T103 t682 x21_1).f0),.int .i64 ((rd_T103 t682 x21_1).f1)] rfl ob_ ?_; (with_reducible refine (spec_fiPut.calls kj23 x682000_23 x682001_23 _ _ x682002_23 _ _ x682003_23 true ((rd_T103 t682 x21_1).f0) ((rd_T103 t682 x21_1).f1) t703 t704 t705 t708 _ ?side1 ?side2 ?side3 ?side4 A64.out).mono ?_); (case side1 => refine (Kd.R_reads' (e:=3) (base:=w.heap.size) (ok:=fun k_ => some k_ ≠ (.slice Ao91 x682003_23.length co91:Value).ownBlock) (n:=x682002_23.length) (c:=co90) ?_).2.2; exact (by (with_reducible repeat (first | apply Kd.R_alloc | apply Kd.R_drewN | apply Kd.R_drew)); exact (Kd.R_mono (Kd.R_far (p:=⟨gb702,1,none⟩) (Kd.R_far (p:=⟨gb702,0,none⟩) (Kd.R_types HO_682002.out BK702.out (by decide)) (fun _ hk => hk.2) (.int .i64 t699)) (fun _ hk => hk.2) (.int .i64 t700)) (fun _ h_ => h_.1)))); (case side2 => exact (Kd.R_reads' HO_682002.out).2.1); (case side3 => refine (Kd.R_reads' (e:=3) (base:=w.heap.size) (ok:=fun k_ => some k_ ≠ (.slice Ao90 x682002_23.length co90:Value).ownBlock) (n:=x682003_23.length) (c:=co91) ?_).2.2; exact (by (with_reducible repeat (first | apply Kd.R_alloc | apply Kd.R_drewN | apply Kd.R_drew)); exact (Kd.R_mono (Kd.R_far (p:=⟨gb702,1,none⟩) (Kd.R_far (p:=⟨gb702,0,none⟩) (Kd.R_types HO_682003.out BK702.out (by decide)) (fun _ hk => hk.2) (.int .i64 t699)) (fun _ hk => hk.2) (.int .i64 t700)) (fun _ h_ => h_.1)))); (case side4 => exact (Kd.R_reads' HO_682003.out).2.1); rintro e w92 ⟨v706,v709,rfl,ho0,ho1,hb⟩; refine ⟨_,rfl,?_⟩; have n0_:=Aside0.mk (Kd.R_below (by (with_reducible repeat (first | apply Kd.R_alloc | apply Kd.R_drewN | apply Kd.R_drew)); exact (Kd.R_mono (Kd.R_far (p:=⟨gb702,1,none⟩) (Kd.R_far (p:=⟨gb702,0,none⟩) (Kd.R_mono HO_19.out (fun k_ hk => (⟨hk,hk.2⟩:_ ∧ k_ ≠ gb702))) (fun _ hk => hk.2) (.int .i64 t699)) (fun _ hk => hk.2) (.int .i64 t700)) (fun _ h_ => h_.1))) hb); have n1_:=Aside0.mk (Kd.R_mono (Kd.R_told (Kd.R_told (Kd.R_old (by (with_reducible repeat (first | apply Kd.R_alloc | apply Kd.R_drewN | apply Kd.R_drew)); exact (Kd.R_mono (Kd.R_far (p:=⟨gb702,1,none⟩) (Kd.R_far (p:=⟨gb702,0,none⟩) (Kd.R_types HO_682002.out BK702.out (by decide)) (fun _ hk => hk.2) (.int .i64 t699)) (fun _ hk => hk.2) (.int .i64 t700)) (fun _ h_ => h_.1))) hb) (Kd.R_base ho0)) (Kd.R_base ho1)) (fun _ h_ => h_.1)); have n2_:=Aside0.mk (Kd.R_mono (Kd.R_told (Kd.R_told (Kd.R_old (by (with_reducible repeat (first | apply Kd.R_alloc | apply Kd.R_drewN | apply Kd.R_drew)); exact (Kd.R_mono (Kd.R_far (p:=⟨gb702,1,none⟩) (Kd.R_far (p:=⟨gb702,0,none⟩) (Kd.R_types HO_682003.out BK702.out (by decide)) (fun _ hk => hk.2) (.int .i64 t699)) (fun _ hk => hk.2) (.int .i64 t700)) (fun _ h_ => h_.1))) hb) (Kd.R_base ho0)) (Kd.R_base ho1)) (fun _ h_ => h_.1)); have n3_:=Aside0.mk (Kd.R_lower (Kd.R_new' (Kd.R_new' ho0 (Kd.R_lt (by (with_reducible repeat (first | apply Kd.R_alloc | apply Kd.R_drewN | apply Kd.R_drew)); exact (Kd.R_mono (Kd.R_far (p:=⟨gb702,1,none⟩) (Kd.R_far (p:=⟨gb702,0,none⟩) (Kd.R_types HO_682002.out BK702.out (by decide)) (fun _ hk => hk.2) (.int .i64 t699)) (fun _ hk => hk.2) (.int .i64 t700)) (fun _ h_ => h_.1))))) (Kd.R_lt (by (with_reducible repeat (first | apply Kd.R_alloc | apply Kd.R_drewN | apply Kd.R_drew)); exact (Kd.R_mono (Kd.R_far (p:=⟨gb702,1,none⟩) (Kd.R_far (p:=⟨gb702,0,none⟩) (Kd.R_types HO_682003.out BK702.out (by decide)) (fun _ hk => hk.2) (.int .i64 t699)) (fun _ hk => hk.2) (.int .i64 t700)) (fun _ h_ => h_.1))))) (below_size (bl7_ HB.out GE678.out GE679.out GE680.out GE681.out GE686.out GE690.out GE702.out))); have n4_:=Aside0.mk (Kd.R_lower (Kd.R_new' (Kd.R_new' ho1 (Kd.R_lt (by (with_reducible repeat (first | apply Kd.R_alloc | apply Kd.R_drewN | apply Kd.R_drew)); exact (Kd.R_mono (Kd.R_far (p:=⟨gb702,1,none⟩) (Kd.R_far (p:=⟨gb702,0,none⟩) (Kd.R_types HO_682002.out BK702.out (by decide)) (fun _ hk => hk.2) (.int .i64 t699)) (fun _ hk => hk.2) (.int .i64 t700)) (fun _ h_ => h_.1))))) (Kd.R_lt (by (with_reducible repeat (first | apply Kd.R_alloc | apply Kd.R_drewN | apply Kd.R_drew)); exact (Kd.R_mono (Kd.R_far (p:=⟨gb702,1,none⟩) (Kd.R_far (p:=⟨gb702,0,none⟩) (Kd.R_types HO_682003.out BK702.out (by decide)) (fun _ hk => hk.2) (.int .i64 t699)) (fun _ hk => hk.2) (.int .i64 t700)) (fun _ h_ => h_.1))))) (below_size (bl7_ HB.out GE678.out GE679.out GE680.out GE681.out GE686.out GE690.out GE702.out))); have n5_:=Aside0.mk (blk_below (g:=gb678) (o:=.cells #[.int .i64 a0_0,.int .i64 a0_1,.slice A0_2 l0_2.length c0_2,.slice A0_3 l0_3.length c0_3] 26 (0,0)) (bf2_ NB678_702.out NB678_702.out BK678.out) hb); have n6_:=Aside0.mk (blk_below (g:=gb679) (o:=.cells #[.int .i64 a1_0,.int .i64 a1_1] 103 (0,0)) (bf2_ NB679_702.out NB679_702.out BK679.out) hb); have n7_:=Aside0.mk (blk_below (g:=gb680) (o:=.cells #[.int .i64 0,.int .i64 0,.slice none 0 0,.slice none 0 0] 26 (0,0)) (bf2_ NB680_702.out NB680_702.out BK680.out) hb); have n8_:=Aside0.mk (blk_below (g:=gb681) (o:=.cells #[.int .i64 x682000_23,.int .i64 x682001_23,.slice Ao90 x682002_23.length co90,.slice Ao91 x682003_23.length co91] 26 (0,0)) (bf2_ NB681_702.out NB681_702.out BK681.out) hb); have n9_:=Aside0.mk (blk_below (g:=gb686) (o:=.cells #[.int .i64 ((rd_T103 t682 x21_1).f0),.int .i64 ((rd_T103 t682 x21_1).f1)] 103 (0,0)) (bf2_ NB686_702.out NB686_702.out BK686.out) hb); have n10_:=Aside0.mk (blk_below (g:=gb690) (o:=.cells #[.int .i64 t687,.int .i64 t688] 103 (0,0)) (bf2_ NB690_702.out NB690_702.out BK690.out) hb); have n11_:=Aside0.mk (blk_below (g:=gb702) (o:=.cells #[.int .i64 t699,.int .i64 t700] 103 (0,0)) (by (with_reducible repeat (first | refine blk_drewN ?_ _ | refine blk_drew ?_ | refine blk_alloc ?_ _)); refine blk_put (cs:=#[.int .i64 t699,.int .i64 0]) ?_ 1 _ rfl; (with_reducible repeat (first | refine blk_drewN ?_ _ | refine blk_drew ?_ | refine blk_alloc ?_ _)); refine blk_put (cs:=#[.int .i64 0,.int .i64 0]) ?_ 0 _ rfl; (with_reducible repeat (first | refine blk_drewN ?_ _ | refine blk_drew ?_ | refine blk_alloc ?_ _)); exact BK702.out) hb); have n12_:=Aside0.mk (below_step (bl7_ HB.out GE678.out GE679.out GE680.out GE681.out GE686.out GE690.out GE702.out) hb); clear HO_19; clear HO_682002; clear HO_682003; clear BK678; clear BK679; clear BK680; clear BK681; clear BK686; clear BK690; clear BK702; clear HB; have HO_19:=n0_; have HO_682002:=n1_; have HO_682003:=n2_; have HO707:=n3_; have HO710:=n4_; have BK678:=n5_; have BK679:=n6_; have BK680:=n7_; have BK681:=n8_; have BK686:=n9_; have BK690:=n10_; have BK702:=n11_; have HB:=n12_; clear n0_ n1_ n2_ n3_ n4_ n5_ n6_ n7_ n8_ n9_ n10_ n11_ n12_; (try clear hb); (try clear hb2); (try clear hk); (try clear hi); (try clear ho0); (try clear ho1); have hcz93_0:w92.cell? ⟨gb681,0,none⟩ = some (.int .i64 x682000_23):=(blk_cell BK681.out 0).trans rfl; have hcz93_1:w92.cell? ⟨gb681,1,none⟩ = some (.int .i64 x682001_23):=(blk_cell BK681.out 1).trans rfl; have hcz93_2:w92.cell? ⟨gb681,2,none⟩ = some (.slice Ao90 x682002_23.length co90):=(blk_cell BK681.out 2).trans rfl; have hcz93_3:w92.cell? ⟨gb681,3,none⟩ = some (.slice Ao91 x682003_23.length co91):=(blk_cell BK681.out 3).trans rfl; have hfz93_0:=blk_frozen BK681.out 0; have hfz93_1:=blk_frozen BK681.out 1; have hfz93_2:=blk_frozen BK681.out 2; have hfz93_3:=blk_frozen BK681.out 3; obtain ⟨Ao94,co94,eo94⟩:=Kd.R_slice HO707.out; subst eo94; obtain ⟨Ao95,co95,eo95⟩:=Kd.R_slice HO710.out; subst eo95))
         go_roundg kj23
         case measure => have:=HK1.out; have:=HJ23.out; omega
         case rel => exact ⟨(wrap64 (x21_1 + 1)),(t703),(t704),(t705),(t708),(.slice Ao94 t705.length co94),(.slice Ao95 t708.length co95),rs_,H',⟨by have:=HK1.out; have:=HJ23.out; omega⟩,⟨by (with_reducible repeat (first | apply Kd.R_alloc | apply Kd.R_drewN | apply Kd.R_drew)); exact Kd.R_mono (Kd.R_far (p:=⟨gb681,3,none⟩) (Kd.R_far (p:=⟨gb681,2,none⟩) (Kd.R_far (p:=⟨gb681,1,none⟩) (Kd.R_far (p:=⟨gb681,0,none⟩) (Kd.R_types HO_19.out BK681.out (by decide)) (fun _ hk => hk.2) (.int .i64 t703)) (fun _ hk => hk.2) (.int .i64 t704)) (fun _ hk => hk.2) (.slice Ao94 t705.length co94)) (fun _ hk => hk.2) (.slice Ao95 t708.length co95)) (fun _ hk => hk.1.1.1)⟩,⟨by (with_reducible repeat (first | apply Kd.R_alloc | apply Kd.R_drewN | apply Kd.R_drew)); exact Kd.R_mono (Kd.R_far (p:=⟨gb681,3,none⟩) (Kd.R_far (p:=⟨gb681,2,none⟩) (Kd.R_far (p:=⟨gb681,1,none⟩) (Kd.R_far (p:=⟨gb681,0,none⟩) (Kd.R_types HO707.out BK681.out (by decide)) (fun _ hk => hk.2) (.int .i64 t703)) (fun _ hk => hk.2) (.int .i64 t704)) (fun _ hk => hk.2) (.slice Ao94 t705.length co94)) (fun _ hk => hk.2) (.slice Ao95 t708.length co95)) (fun _ hk => hk.1.1.1)⟩,⟨by (with_reducible repeat (first | apply Kd.R_alloc | apply Kd.R_drewN | apply Kd.R_drew)); exact Kd.R_mono (Kd.R_far (p:=⟨gb681,3,none⟩) (Kd.R_far (p:=⟨gb681,2,none⟩) (Kd.R_far (p:=⟨gb681,1,none⟩) (Kd.R_far (p:=⟨gb681,0,none⟩) (Kd.R_types HO710.out BK681.out (by decide)) (fun _ hk => hk.2) (.int .i64 t703)) (fun _ hk => hk.2) (.int .i64 t704)) (fun _ hk => hk.2) (.slice Ao94 t705.length co94)) (fun _ hk => hk.2) (.slice Ao95 t708.length co95)) (fun _ hk => hk.1.1.1)⟩,⟨bf4_ NB678_681.out NB678_681.out NB678_681.out NB678_681.out BK678.out⟩,⟨bf4_ NB679_681.out NB679_681.out NB679_681.out NB679_681.out BK679.out⟩,⟨bf4_ NB680_681.out NB680_681.out NB680_681.out NB680_681.out BK680.out⟩,⟨by (with_reducible repeat (first | refine blk_drewN ?_ _ | refine blk_drew ?_ | refine blk_alloc ?_ _)); refine blk_put (cs:=#[.int .i64 t703,.int .i64 t704,.slice Ao94 t705.length co94,.slice Ao91 x682003_23.length co91]) ?_ 3 _ rfl; (with_reducible repeat (first | refine blk_drewN ?_ _ | refine blk_drew ?_ | refine blk_alloc ?_ _)); refine blk_put (cs:=#[.int .i64 t703,.int .i64 t704,.slice Ao90 x682002_23.length co90,.slice Ao91 x682003_23.length co91]) ?_ 2 _ rfl; (with_reducible repeat (first | refine blk_drewN ?_ _ | refine blk_drew ?_ | refine blk_alloc ?_ _)); refine blk_put (cs:=#[.int .i64 t703,.int .i64 x682001_23,.slice Ao90 x682002_23.length co90,.slice Ao91 x682003_23.length co91]) ?_ 1 _ rfl; (with_reducible repeat (first | refine blk_drewN ?_ _ | refine blk_drew ?_ | refine blk_alloc ?_ _)); refine blk_put (cs:=#[.int .i64 x682000_23,.int .i64 x682001_23,.slice Ao90 x682002_23.length co90,.slice Ao91 x682003_23.length co91]) ?_ 0 _ rfl; (with_reducible repeat (first | refine blk_drewN ?_ _ | refine blk_drew ?_ | refine blk_alloc ?_ _)); exact BK681.out⟩,⟨bl7_ HB.out GE678.out GE679.out GE680.out GE681.out GE686.out GE690.out GE702.out⟩⟩
        ·replace c63:=Bool.eq_false_iff.mpr c63
         subst c63
         have H1:(spec_liPart.l0 kj23 t682 (t682.length:Int) (wrap64 (x21_1 + 1)) a0_0 a0_1 l0_2 l0_3 x682000_23 x682001_23 x682002_23 x682003_23) = some (r1,r2,r3,r4):=by rw [if_neg (show ¬ (false = true) by decide)] at H; exact H
         clear H
         have H:=H1
         clear H1
         have H':=Aside0.mk H
         clear H
         have hnb96:=NB678_679.out
         have hnc96:=NB679_678.out
         have hnb97:=NB678_680.out
         have hnc97:=NB680_678.out
         have hnb98:=NB678_681.out
         have hnc98:=NB681_678.out
         have hnb99:=NB678_686.out
         have hnc99:=NB686_678.out
         have hnb100:=NB678_690.out
         have hnc100:=NB690_678.out
         have hcz101_0:wc.cell? ⟨gb678,0,none⟩ = some (.int .i64 a0_0):=(blk_cell BK678.out 0).trans rfl
         have hcz101_1:wc.cell? ⟨gb678,1,none⟩ = some (.int .i64 a0_1):=(blk_cell BK678.out 1).trans rfl
         have hcz101_2:wc.cell? ⟨gb678,2,none⟩ = some (.slice A0_2 l0_2.length c0_2):=(blk_cell BK678.out 2).trans rfl
         have hcz101_3:wc.cell? ⟨gb678,3,none⟩ = some (.slice A0_3 l0_3.length c0_3):=(blk_cell BK678.out 3).trans rfl
         have hfz101_0:=blk_frozen BK678.out 0
         have hfz101_1:=blk_frozen BK678.out 1
         have hfz101_2:=blk_frozen BK678.out 2
         have hfz101_3:=blk_frozen BK678.out 3
         have hnb102:=NB686_679.out
         have hnc102:=NB679_686.out
         have hnb103:=NB686_680.out
         have hnc103:=NB680_686.out
         have hnb104:=NB686_681.out
         have hnc104:=NB681_686.out
         have hnb105:=NB686_690.out
         have hnc105:=NB690_686.out
         have hcz106_0:wc.cell? ⟨gb686,0,none⟩ = some (.int .i64 ((rd_T103 t682 x21_1).f0)):=(blk_cell BK686.out 0).trans rfl
         have hcz106_1:wc.cell? ⟨gb686,1,none⟩ = some (.int .i64 ((rd_T103 t682 x21_1).f1)):=(blk_cell BK686.out 1).trans rfl
         have hfz106_0:=blk_frozen BK686.out 0
         have hfz106_1:=blk_frozen BK686.out 1
         go_wp2_with (first | ((with_reducible refine gate_callee (f:=104) rfl ?_); refine goesL_ (some 41) rfl rfl Tryd.func104 (by kernel_rfl) rfl #[.agg #[.int .i64 a0_0,.int .i64 a0_1,.slice A0_2 l0_2.length c0_2,.slice A0_3 l0_3.length c0_3],.agg #[.int .i64 ((rd_T103 t682 x21_1).f0),.int .i64 ((rd_T103 t682 x21_1).f1)],.int .i64 2] rfl ob_ ?_; (with_reducible refine (spec_liNext.calls kj23 a0_0 a0_1 _ _ l0_2 _ _ l0_3 ((rd_T103 t682 x21_1).f0) ((rd_T103 t682 x21_1).f1) 2 t699 t700 false _ ?side1 ?side2 ?side3 ?side4 A62.out).mono ?_); (case side1 => exact kc_ (Kd.C_below HR0_2.out HB.out)); (case side2 => exact HC0_2.out); (case side3 => exact kc_ (Kd.C_below HR0_3.out HB.out)); (case side4 => exact HC0_3.out); rintro e w107 ⟨rfl,hb⟩; refine ⟨_,rfl,?_⟩; have n0_:=Aside0.mk (Kd.R_below (kr_ HO_19.out) hb); have n1_:=Aside0.mk (Kd.R_below (kr_ HO_682002.out) hb); have n2_:=Aside0.mk (Kd.R_below (kr_ HO_682003.out) hb); have n3_:=Aside0.mk (bb_ BK678.out hb); have n4_:=Aside0.mk (bb_ BK679.out hb); have n5_:=Aside0.mk (bb_ BK680.out hb); have n6_:=Aside0.mk (bb_ BK681.out hb); have n7_:=Aside0.mk (bb_ BK686.out hb); have n8_:=Aside0.mk (bb_ BK690.out hb); have n9_:=Aside0.mk (below_step (bl6_ HB.out GE678.out GE679.out GE680.out GE681.out GE686.out GE690.out) hb); clear HO_19; clear HO_682002; clear HO_682003; clear BK678; clear BK679; clear BK680; clear BK681; clear BK686; clear BK690; clear HB; have HO_19:=n0_; have HO_682002:=n1_; have HO_682003:=n2_; have BK678:=n3_; have BK679:=n4_; have BK680:=n5_; have BK681:=n6_; have BK686:=n7_; have BK690:=n8_; have HB:=n9_; clear n0_ n1_ n2_ n3_ n4_ n5_ n6_ n7_ n8_ n9_; (try clear hb); (try clear hb2); (try clear hk); (try clear hi)) | ((with_reducible refine gate_dst (N:=10) rfl ?_); refine boxE_ (N:=10) (cs:=#[.int .i64 0,.int .i64 0]) (t:=103) ?_; intro gb702 hg w108 hbox hb; have n0_:=Aside0.mk (Kd.R_below (Kd.R_elderB (kr_ HO_19.out) gb702 (Nat.le_of_eq hg.symm)) hb); have n1_:=Aside0.mk (Kd.R_below (kr_ HO_682002.out) hb); have n2_:=Aside0.mk (Kd.R_below (kr_ HO_682003.out) hb); have n3_:=Aside0.mk (bb_ BK678.out hb); have n4_:=Aside0.mk (bb_ BK679.out hb); have n5_:=Aside0.mk (bb_ BK680.out hb); have n6_:=Aside0.mk (bb_ BK681.out hb); have n7_:=Aside0.mk (bb_ BK686.out hb); have n8_:=Aside0.mk (bb_ BK690.out hb); have n9_:=Aside0.mk (below_step (bl6_ HB.out GE678.out GE679.out GE680.out GE681.out GE686.out GE690.out) hb); have n10_:=Aside0.mk (hbox); have n11_:=Aside0.mk ((bs6_ hg HB.out GE678.out GE679.out GE680.out GE681.out GE686.out GE690.out:w.heap.size ≤ gb702)); have n12_:=Aside0.mk ((bs6_ hg HB.out GE678.out GE679.out GE680.out GE681.out GE686.out GE690.out:w.heap.size ≤ gb702)); have n13_:=Aside0.mk ((nl_ hg BK678.out:gb678 ≠ gb702)); have n14_:=Aside0.mk ((ng_ hg BK678.out:gb702 ≠ gb678)); have n15_:=Aside0.mk ((nl_ hg BK679.out:gb679 ≠ gb702)); have n16_:=Aside0.mk ((ng_ hg BK679.out:gb702 ≠ gb679)); have n17_:=Aside0.mk ((nl_ hg BK680.out:gb680 ≠ gb702)); have n18_:=Aside0.mk ((ng_ hg BK680.out:gb702 ≠ gb680)); have n19_:=Aside0.mk ((nl_ hg BK681.out:gb681 ≠ gb702)); have n20_:=Aside0.mk ((ng_ hg BK681.out:gb702 ≠ gb681)); have n21_:=Aside0.mk ((nl_ hg BK686.out:gb686 ≠ gb702)); have n22_:=Aside0.mk ((ng_ hg BK686.out:gb702 ≠ gb686)); have n23_:=Aside0.mk ((nl_ hg BK690.out:gb690 ≠ gb702)); have n24_:=Aside0.mk ((ng_ hg BK690.out:gb702 ≠ gb690)); clear HO_19; clear HO_682002; clear HO_682003; clear BK678; clear BK679; clear BK680; clear BK681; clear BK686; clear BK690; clear HB; have HO_19:=n0_; have HO_682002:=n1_; have HO_682003:=n2_; have BK678:=n3_; have BK679:=n4_; have BK680:=n5_; have BK681:=n6_; have BK686:=n7_; have BK690:=n8_; have HB:=n9_; have BK702:=n10_; have GW702:=n11_; have GE702:=n12_; have NB678_702:=n13_; have NB702_678:=n14_; have NB679_702:=n15_; have NB702_679:=n16_; have NB680_702:=n17_; have NB702_680:=n18_; have NB681_702:=n19_; have NB702_681:=n20_; have NB686_702:=n21_; have NB702_686:=n22_; have NB690_702:=n23_; have NB702_690:=n24_; clear n0_ n1_ n2_ n3_ n4_ n5_ n6_ n7_ n8_ n9_ n10_ n11_ n12_ n13_ n14_ n15_ n16_ n17_ n18_ n19_ n20_ n21_ n22_ n23_ n24_; clear hb hbox hg; have hnb109:=NB702_678.out; have hnc109:=NB678_702.out; have hnb110:=NB702_679.out; have hnc110:=NB679_702.out; have hnb111:=NB702_680.out; have hnc111:=NB680_702.out; have hnb112:=NB702_681.out; have hnc112:=NB681_702.out; have hnb113:=NB702_686.out; have hnc113:=NB686_702.out; have hnb114:=NB702_690.out; have hnc114:=NB690_702.out; have hcz115_0:w108.cell? ⟨gb702,0,none⟩ = some (.int .i64 0):=(blk_cell BK702.out 0).trans rfl; have hcz115_1:w108.cell? ⟨gb702,1,none⟩ = some (.int .i64 0):=(blk_cell BK702.out 1).trans rfl; have hfz115_0:=blk_frozen BK702.out 0; have hfz115_1:=blk_frozen BK702.out 1))
         go_roundg kj23
         case measure => have:=HK1.out; have:=HJ23.out; omega
         case rel => exact ⟨(wrap64 (x21_1 + 1)),(x682000_23),(x682001_23),(x682002_23),(x682003_23),(u682002),(u682003),rs_,H',⟨by have:=HK1.out; have:=HJ23.out; omega⟩,⟨by (with_reducible repeat (first | apply Kd.R_alloc | apply Kd.R_drewN | apply Kd.R_drew)); exact Kd.R_mono (Kd.R_far (p:=⟨gb702,1,none⟩) (Kd.R_far (p:=⟨gb702,0,none⟩) (Kd.R_mono HO_19.out (fun k_ hk => (⟨hk,hk.2⟩:_ ∧ k_ ≠ gb702))) (fun _ hk => hk.2) (.int .i64 t699)) (fun _ hk => hk.2) (.int .i64 t700)) (fun _ hk => hk.1.1.1)⟩,⟨by (with_reducible repeat (first | apply Kd.R_alloc | apply Kd.R_drewN | apply Kd.R_drew)); exact Kd.R_mono (Kd.R_far (p:=⟨gb702,1,none⟩) (Kd.R_far (p:=⟨gb702,0,none⟩) (Kd.R_types HO_682002.out BK702.out (by decide)) (fun _ hk => hk.2) (.int .i64 t699)) (fun _ hk => hk.2) (.int .i64 t700)) (fun _ hk => hk.1)⟩,⟨by (with_reducible repeat (first | apply Kd.R_alloc | apply Kd.R_drewN | apply Kd.R_drew)); exact Kd.R_mono (Kd.R_far (p:=⟨gb702,1,none⟩) (Kd.R_far (p:=⟨gb702,0,none⟩) (Kd.R_types HO_682003.out BK702.out (by decide)) (fun _ hk => hk.2) (.int .i64 t699)) (fun _ hk => hk.2) (.int .i64 t700)) (fun _ hk => hk.1)⟩,⟨bf2_ NB678_702.out NB678_702.out BK678.out⟩,⟨bf2_ NB679_702.out NB679_702.out BK679.out⟩,⟨bf2_ NB680_702.out NB680_702.out BK680.out⟩,⟨bf2_ NB681_702.out NB681_702.out BK681.out⟩,⟨bl7_ HB.out GE678.out GE679.out GE680.out GE681.out GE686.out GE690.out GE702.out⟩⟩
     ·rw [if_neg c22] at H
      exact absurd H (by simp)
    ·rw [if_neg c21] at H
     exact absurd H (by simp)
   ·rw [if_neg c20] at H
    have c20b0:decide (x21_1 < (t682.length:Int)) = false:=decide_eq_false c20
    clear c20
    simp only [Option.some.injEq,Prod.mk.injEq] at H
    obtain ⟨rfl,rfl,rfl,rfl⟩:=H
    have hnb116:=NB681_678.out
    have hnc116:=NB678_681.out
    have hnb117:=NB681_679.out
    have hnc117:=NB679_681.out
    have hnb118:=NB681_680.out
    have hnc118:=NB680_681.out
    have hcz119_0:wr.cell? ⟨gb681,0,none⟩ = some (.int .i64 x682000_1):=(blk_cell BK681.out 0).trans rfl
    have hcz119_1:wr.cell? ⟨gb681,1,none⟩ = some (.int .i64 x682001_1):=(blk_cell BK681.out 1).trans rfl
    have hcz119_2:wr.cell? ⟨gb681,2,none⟩ = some (u682002):=(blk_cell BK681.out 2).trans rfl
    have hcz119_3:wr.cell? ⟨gb681,3,none⟩ = some (u682003):=(blk_cell BK681.out 3).trans rfl
    have hfz119_0:=blk_frozen BK681.out 0
    have hfz119_1:=blk_frozen BK681.out 1
    have hfz119_2:=blk_frozen BK681.out 2
    have hfz119_3:=blk_frozen BK681.out 3
    have hnb120:=NB680_678.out
    have hnc120:=NB678_680.out
    have hnb121:=NB680_679.out
    have hnc121:=NB679_680.out
    have hcz122_0:wr.cell? ⟨gb680,0,none⟩ = some (.int .i64 0):=(blk_cell BK680.out 0).trans rfl
    have hcz122_1:wr.cell? ⟨gb680,1,none⟩ = some (.int .i64 0):=(blk_cell BK680.out 1).trans rfl
    have hcz122_2:wr.cell? ⟨gb680,2,none⟩ = some (.slice none 0 0):=(blk_cell BK680.out 2).trans rfl
    have hcz122_3:wr.cell? ⟨gb680,3,none⟩ = some (.slice none 0 0):=(blk_cell BK680.out 3).trans rfl
    have hfz122_0:=blk_frozen BK680.out 0
    have hfz122_1:=blk_frozen BK680.out 1
    have hfz122_2:=blk_frozen BK680.out 2
    have hfz122_3:=blk_frozen BK680.out 3
    obtain ⟨Ao123,co123,eo123⟩:=Kd.R_slice HO_682002.out
    subst eo123
    obtain ⟨Ao124,co124,eo124⟩:=Kd.R_slice HO_682003.out
    subst eo124
    go_wp2
    refine bodyPost_ret (results_cell_row rfl _ _ gb680 26 #[.int .i64 x682000_1,.int .i64 x682001_1,.slice Ao123 x682002_1.length co123,.slice Ao124 x682003_1.length co124] (0,0) _ rfl (by (with_reducible repeat (first | refine blk_drewN ?_ _ | refine blk_drew ?_ | refine blk_alloc ?_ _)); refine blk_put (cs:=#[.int .i64 x682000_1,.int .i64 x682001_1,.slice Ao123 x682002_1.length co123,.slice none 0 0]) ?_ 3 _ rfl; (with_reducible repeat (first | refine blk_drewN ?_ _ | refine blk_drew ?_ | refine blk_alloc ?_ _)); refine blk_put (cs:=#[.int .i64 x682000_1,.int .i64 x682001_1,.slice none 0 0,.slice none 0 0]) ?_ 2 _ rfl; (with_reducible repeat (first | refine blk_drewN ?_ _ | refine blk_drew ?_ | refine blk_alloc ?_ _)); refine blk_put (cs:=#[.int .i64 x682000_1,.int .i64 0,.slice none 0 0,.slice none 0 0]) ?_ 1 _ rfl; (with_reducible repeat (first | refine blk_drewN ?_ _ | refine blk_drew ?_ | refine blk_alloc ?_ _)); refine blk_put (cs:=#[.int .i64 0,.int .i64 0,.slice none 0 0,.slice none 0 0]) ?_ 0 _ rfl; (with_reducible repeat (first | refine blk_drewN ?_ _ | refine blk_drew ?_ | refine blk_alloc ?_ _)); exact BK680.out) Tryd.underlying26 rfl (by kernel_rfl)) rfl ?_
    exact ⟨_,_,er_,by (with_reducible repeat (first | apply Kd.R_alloc | apply Kd.R_drewN | apply Kd.R_drew)); exact Kd.R_mono (Kd.R_far (p:=⟨gb680,3,none⟩) (Kd.R_far (p:=⟨gb680,2,none⟩) (Kd.R_far (p:=⟨gb680,1,none⟩) (Kd.R_far (p:=⟨gb680,0,none⟩) (Kd.R_types HO_682002.out BK680.out (by decide)) (fun _ hk => hk.2) (.int .i64 x682000_1)) (fun _ hk => hk.2) (.int .i64 x682001_1)) (fun _ hk => hk.2) (.slice Ao123 x682002_1.length co123)) (fun _ hk => hk.2) (.slice Ao124 x682003_1.length co124)) (fun _ hk => hk.1),by (with_reducible repeat (first | apply Kd.R_alloc | apply Kd.R_drewN | apply Kd.R_drew)); exact Kd.R_mono (Kd.R_far (p:=⟨gb680,3,none⟩) (Kd.R_far (p:=⟨gb680,2,none⟩) (Kd.R_far (p:=⟨gb680,1,none⟩) (Kd.R_far (p:=⟨gb680,0,none⟩) (Kd.R_types HO_682003.out BK680.out (by decide)) (fun _ hk => hk.2) (.int .i64 x682000_1)) (fun _ hk => hk.2) (.int .i64 x682001_1)) (fun _ hk => hk.2) (.slice Ao123 x682002_1.length co123)) (fun _ hk => hk.2) (.slice Ao124 x682003_1.length co124)) (fun _ hk => hk.1),bl4_ HB.out GE678.out GE679.out GE680.out GE681.out⟩


mutual
def spec_liAll.l0:Nat → List (S103) → Int → Int → Int → List Int → List Int → Option ((List (S103)))
 | 0,_,_,_,_,_,_ => none
 | k + 1,x3,x4,x712000,x712001,x712002,x712003 => if x4 ≤ x712001 then (spec_liAll.l1 k x3 x4 0 x712000 x712001 x712002 x712003) else (some x3)
def spec_liAll.l1:Nat → List (S103) → Int → Int → Int → Int → List Int → List Int → Option ((List (S103)))
 | 0,_,_,_,_,_,_,_ => none
 | k + 1,x3,x4,x5,x712000,x712001,x712002,x712003 => if x5 ≤ x712000 then (if x3.length < 8796093022208 then (spec_liAll.l1 k (x3 ++ [(⟨x5,x4⟩:S103)]) x4 (wrap64 (x5 + 1)) x712000 x712001 x712002 x712003) else (none)) else (spec_liAll.l0 k x3 (wrap64 (x4 + 1)) x712000 x712001 x712002 x712003)
end
def spec_liAll.f (k:Nat) (a0_0:Int) (a0_1:Int) (l0_2:List Int) (l0_3:List Int):Option ((List (S103))):=spec_liAll.l0 k ([]:List (S103)) 0 a0_0 a0_1 l0_2 l0_3
theorem spec_liAll.mono_l:∀ k,(∀ y0 y1 y2 y3 y4 y5,LeO (spec_liAll.l0 k y0 y1 y2 y3 y4 y5) (spec_liAll.l0 (k + 1) y0 y1 y2 y3 y4 y5)) ∧ (∀ y0 y1 y2 y3 y4 y5 y6,LeO (spec_liAll.l1 k y0 y1 y2 y3 y4 y5 y6) (spec_liAll.l1 (k + 1) y0 y1 y2 y3 y4 y5 y6))
 | 0 => ⟨fun _ _ _ _ _ _ r h => by simp [spec_liAll.l0] at h,fun _ _ _ _ _ _ _ r h => by simp [spec_liAll.l1] at h⟩
 | k + 1 => by
  obtain ⟨ih0,ih1⟩:=spec_liAll.mono_l k
  refine ⟨?_,?_⟩
  ·intro y0 y1 y2 y3 y4 y5
   unfold spec_liAll.l0
   repeat' first
   | (with_reducible exact ih0 _ _ _ _ _ _)
   | (with_reducible exact ih1 _ _ _ _ _ _ _)
   | (with_reducible exact LeO.refl _)
   | (with_reducible exact LeO.none _)
   | (with_reducible refine LeO.ite ?_ ?_)
   | (with_reducible refine LeO.bind ?_ (fun _ => ?_))
   | exact ih0 _ _ _ _ _ _
   | exact ih1 _ _ _ _ _ _ _
   | exact LeO.none _
   | refine LeO.ite ?_ ?_
   | refine LeO.bind ?_ (fun _ => ?_)
  ·intro y0 y1 y2 y3 y4 y5 y6
   unfold spec_liAll.l1
   repeat' first
   | (with_reducible exact ih0 _ _ _ _ _ _)
   | (with_reducible exact ih1 _ _ _ _ _ _ _)
   | (with_reducible exact LeO.refl _)
   | (with_reducible exact LeO.none _)
   | (with_reducible refine LeO.ite ?_ ?_)
   | (with_reducible refine LeO.bind ?_ (fun _ => ?_))
   | exact ih0 _ _ _ _ _ _
   | exact ih1 _ _ _ _ _ _ _
   | exact LeO.none _
   | refine LeO.ite ?_ ?_
   | refine LeO.bind ?_ (fun _ => ?_)
theorem spec_liAll.mono:∀ a0 a1 a2 a3 k,LeO (spec_liAll.f k a0 a1 a2 a3) (spec_liAll.f (k + 1) a0 a1 a2 a3):=by
 intro a0 a1 a2 a3 k
 obtain ⟨ih0,ih1⟩:=spec_liAll.mono_l k
 unfold spec_liAll.f
 repeat' first
   | (with_reducible exact ih0 _ _ _ _ _ _)
   | (with_reducible exact ih1 _ _ _ _ _ _ _)
   | (with_reducible exact LeO.refl _)
   | (with_reducible exact LeO.none _)
   | (with_reducible refine LeO.ite ?_ ?_)
   | (with_reducible refine LeO.bind ?_ (fun _ => ?_))
   | exact ih0 _ _ _ _ _ _
   | exact ih1 _ _ _ _ _ _ _
   | exact LeO.none _
   | refine LeO.ite ?_ ?_
   | refine LeO.bind ?_ (fun _ => ?_)
set_option maxHeartbeats 8000000 in
set_option maxRecDepth 100000 in
theorem spec_liAll.calls (k:Nat) (a0_0:Int) (a0_1:Int) (A0_2:Option Addr) (c0_2:Nat) (l0_2:List Int) (A0_3:Option Addr) (c0_3:Nat) (l0_3:List Int) (r:List (S103)) (w:World) (hr0_2:Kd.C (Kd.int .i64) w A0_2 l0_2.length l0_2) (hc0_2:l0_2.length ≤ c0_2) (hr0_3:Kd.C (Kd.int .i64) w A0_3 l0_3.length l0_3) (hc0_3:l0_3.length ≤ c0_3) (h:spec_liAll.f k a0_0 a0_1 l0_2 l0_3 = some r) :
  Calls Tryd.prog 105 #[.agg #[.int .i64 a0_0,.int .i64 a0_1,.slice A0_2 l0_2.length c0_2,.slice A0_3 l0_3.length c0_3]] w fun e w' => ∃ v0_:Value,e = .returned (v0_) ∧ Kd.R k103 103 w' w.heap.size (fun _ => True) v0_ r ∧ Below w.heap.size w w':=by
 have hu26:=Tryd.underlying26
 have hu103:=Tryd.underlying103
 have HR0_2:=Aside0.mk hr0_2
 have HC0_2:=Aside0.mk hc0_2
 clear hr0_2 hc0_2
 have HR0_3:=Aside0.mk hr0_3
 have HC0_3:=Aside0.mk hc0_3
 clear hr0_3 hc0_3
 have HB:=Aside0.mk (Below.refl w.heap.size w)
 have H:(spec_liAll.l0 k ([]:List (S103)) 0 a0_0 a0_1 l0_2 l0_3) = some r:=h
 clear h
 have H':=Aside0.mk H
 clear H
 go_enter Tryd.func105,Tryd.ntmps105
 go_wp2_with (first | ((with_reducible refine gate_dst (N:=1) rfl ?_); refine boxE_ (N:=1) (cs:=#[.int .i64 a0_0,.int .i64 a0_1,.slice A0_2 l0_2.length c0_2,.slice A0_3 l0_3.length c0_3]) (t:=26) ?_; intro gb711 hg w2 hbox hb; have n0_:=Aside0.mk (below_step (bl0_ HB.out) hb); have n1_:=Aside0.mk (hbox); have n2_:=Aside0.mk ((bs0_ hg HB.out:w.heap.size ≤ gb711)); have n3_:=Aside0.mk ((bs0_ hg HB.out:w.heap.size ≤ gb711)); clear HB; have HB:=n0_; have BK711:=n1_; have GW711:=n2_; have GE711:=n3_; clear n0_ n1_ n2_ n3_; clear hb hbox hg))
 go_loopg [3,4] k (fun kq v3 v4 w' => ∃ (x3_1:List (S103)) (x4_1:Int),v4 = .int .i64 x4_1 ∧ Aside0 (spec_liAll.l0 kq x3_1 x4_1 a0_0 a0_1 l0_2 l0_3 = some r) ∧ Aside0 (kq ≤ k) ∧ Aside0 (Kd.R k103 103 w' w.heap.size (fun _ => True) v3 x3_1) ∧ Aside0 (w'.heap[gb711]? = some (.cells #[.int .i64 a0_0,.int .i64 a0_1,(.slice A0_2 l0_2.length c0_2),(.slice A0_3 l0_3.length c0_3)] 26 (0,0))) ∧ Aside0 (Below w.heap.size w w'))
 case atStart => exact ⟨(([]:List (S103))),(0),rs_,H',⟨Nat.le_refl _⟩,⟨by first | exact Kd.R_nil _ _ _ _ _ | exact Kd.N_nil _ _ _ _ _ | exact Kd.V_nil _ _ _ _ _ | exact Kd.Q_nil _ _ _ _ _ | exact Kd.S_nil _ _ _ _ _⟩,⟨bk_ BK711.out⟩,⟨bl1_ HB.out GE711.out⟩⟩
 case round =>
  clear H'
  try clear c1
  try clear p2
  obtain ⟨x3_1,x4_1,rfl,HA,HK1,HO_3,BK711,HB⟩:=hrel
  cases gk with
  | zero => exact absurd HA.out (by simp [spec_liAll.l0])
  | succ k1 =>
   have H:=HA.out
   clear HA
   simp only [spec_liAll.l0] at H
   by_cases c3:x4_1 ≤ a0_1
   ·rw [if_pos c3] at H
    have c3b0:decide (x4_1 ≤ a0_1) = true:=decide_eq_true c3
    clear c3
    have H':=Aside0.mk H
    clear H
    have hcz4_0:wr.cell? ⟨gb711,0,none⟩ = some (.int .i64 a0_0):=(blk_cell BK711.out 0).trans rfl
    have hcz4_1:wr.cell? ⟨gb711,1,none⟩ = some (.int .i64 a0_1):=(blk_cell BK711.out 1).trans rfl
    have hcz4_2:wr.cell? ⟨gb711,2,none⟩ = some (.slice A0_2 l0_2.length c0_2):=(blk_cell BK711.out 2).trans rfl
    have hcz4_3:wr.cell? ⟨gb711,3,none⟩ = some (.slice A0_3 l0_3.length c0_3):=(blk_cell BK711.out 3).trans rfl
    have hfz4_0:=blk_frozen BK711.out 0
    have hfz4_1:=blk_frozen BK711.out 1
    have hfz4_2:=blk_frozen BK711.out 2
    have hfz4_3:=blk_frozen BK711.out 3
    go_wp2
    go_loopg [3,5] k1 (fun kq v3 v5 w' => ∃ (x3_2:List (S103)) (x5_2:Int),v5 = .int .i64 x5_2 ∧ Aside0 (spec_liAll.l1 kq x3_2 x4_1 x5_2 a0_0 a0_1 l0_2 l0_3 = some r) ∧ Aside0 (kq ≤ k1) ∧ Aside0 (Kd.R k103 103 w' w.heap.size (fun _ => True) v3 x3_2) ∧ Aside0 (w'.heap[gb711]? = some (.cells #[.int .i64 a0_0,.int .i64 a0_1,(.slice A0_2 l0_2.length c0_2),(.slice A0_3 l0_3.length c0_3)] 26 (0,0))) ∧ Aside0 (Below w.heap.size w w'))
    case atStart => exact ⟨(x3_1),(0),rs_,H',⟨Nat.le_refl _⟩,⟨kr_ HO_3.out⟩,⟨bk_ BK711.out⟩,⟨bl1_ HB.out GE711.out⟩⟩
    case round =>
     clear H'
     try clear c1
     try clear p2
     try clear c3
     try clear c3b0
     try clear hcz4_0
     try clear hcz4_1
     try clear hcz4_2
     try clear hcz4_3
     try clear hfz4_0
     try clear hfz4_1
     try clear hfz4_2
     try clear hfz4_3
     try clear p2
     obtain ⟨x3_2,x5_2,rfl,HA,HK2,HO_3,BK711,HB⟩:=hrel
     cases gk with
     | zero => exact absurd HA.out (by simp [spec_liAll.l1])
     | succ k2 =>
      have H:=HA.out
      clear HA
      simp only [spec_liAll.l1] at H
      by_cases c5:x5_2 ≤ a0_0
      ·rw [if_pos c5] at H
       have c5b0:decide (x5_2 ≤ a0_0) = true:=decide_eq_true c5
       clear c5
       by_cases c6:x3_2.length < 8796093022208
       ·rw [if_pos c6] at H
        have LMc6:=Aside0.mk c6
        clear c6
        obtain ⟨y712,hy712⟩:∃ y_:List (S103),y_ = (x3_2 ++ [(⟨x5_2,x4_1⟩:S103)]):=⟨_,rfl⟩
        replace H:(spec_liAll.l1 k2 y712 x4_1 (wrap64 (x5_2 + 1)) a0_0 a0_1 l0_2 l0_3) = some r:=by first | (rw [hy712]; with_reducible exact H) | (have H2_:=(Option.bind_some _ _).symm.trans H; rw [hy712]; with_reducible exact H2_) | (have H2_:=(Option.bind_some _ _).symm.trans H; with_reducible exact H2_) | with_reducible exact H | (rw [hy712]; exact H) | exact H
        have Ny712:=Aside0.mk hy712
        clear hy712
        have H':=Aside0.mk H
        clear H
        have hcz7_0:wr.cell? ⟨gb711,0,none⟩ = some (.int .i64 a0_0):=(blk_cell BK711.out 0).trans rfl
        have hcz7_1:wr.cell? ⟨gb711,1,none⟩ = some (.int .i64 a0_1):=(blk_cell BK711.out 1).trans rfl
        have hcz7_2:wr.cell? ⟨gb711,2,none⟩ = some (.slice A0_2 l0_2.length c0_2):=(blk_cell BK711.out 2).trans rfl
        have hcz7_3:wr.cell? ⟨gb711,3,none⟩ = some (.slice A0_3 l0_3.length c0_3):=(blk_cell BK711.out 3).trans rfl
        have hfz7_0:=blk_frozen BK711.out 0
        have hfz7_1:=blk_frozen BK711.out 1
        have hfz7_2:=blk_frozen BK711.out 2
        have hfz7_3:=blk_frozen BK711.out 3
        go_wp2_with (first | ((with_reducible refine gate_builtin (b:=.append) (xs:=#[.tmp 18,.tmp 22]) rfl ?_); at_builtin; refine Kd.R_append k103 (w0:=w) w.heap.size rfl (.tmp 18) (.tmp 22) 104 103 (.agg #[(.int .i64 0),(.int .i64 0)]) 16 rfl Tryd.underlying104 info103 rfl (by decide) (by omega) u3 x3_2 (⟨x5_2,x4_1⟩:S103) [.int .i64 x5_2,.int .i64 x4_1] (fun _ => True) (fun _ => False) rfl rfl ?aP (fun _ hk => hk.elim) ?aF ?aO ?aB ?aS ?aL ?_; (case aP => exact k103_mkM _ _ _ (⟨x5_2,x4_1⟩:S103)); (case aB => exact (bl1_ HB.out GE711.out)); (case aF => exact (fun _ _ => trivial)); (case aO => exact (kr_ HO_3.out)); (case aS => exact (below_size (bl1_ HB.out GE711.out))); (case aL => have:=LMc6.out; omega); intro v713 w8 ho hb hg hat; rw [← Ny712.out] at ho; have n0_:=Aside0.mk (blk_grown (g:=gb711) (o:=.cells #[.int .i64 a0_0,.int .i64 a0_1,.slice A0_2 l0_2.length c0_2,.slice A0_3 l0_3.length c0_3] 26 (0,0)) (bk_ BK711.out) hg (Kd.R_ne HO_3.out BK711.out (by decide))); have n1_:=Aside0.mk (hb); have n2_:=Aside0.mk (ho); clear BK711; clear HB; clear HO_3; have BK711:=n0_; have HB:=n1_; have HO714:=n2_; clear n0_ n1_ n2_; clear ho hb hg hat))
        go_roundg k2
        case measure => have:=HK1.out; have:=HK2.out; omega
        case rel => exact ⟨(y712),(wrap64 (x5_2 + 1)),rs_,H',⟨by have:=HK1.out; have:=HK2.out; omega⟩,⟨kr_ HO714.out⟩,⟨bk_ BK711.out⟩,⟨bl1_ HB.out GE711.out⟩⟩
       ·rw [if_neg c6] at H
        exact absurd H (by simp)
      ·rw [if_neg c5] at H
       have c5b0:decide (x5_2 ≤ a0_0) = false:=decide_eq_false c5
       clear c5
       have H':=Aside0.mk H
       clear H
       have hcz9_0:wr.cell? ⟨gb711,0,none⟩ = some (.int .i64 a0_0):=(blk_cell BK711.out 0).trans rfl
       have hcz9_1:wr.cell? ⟨gb711,1,none⟩ = some (.int .i64 a0_1):=(blk_cell BK711.out 1).trans rfl
       have hcz9_2:wr.cell? ⟨gb711,2,none⟩ = some (.slice A0_2 l0_2.length c0_2):=(blk_cell BK711.out 2).trans rfl
       have hcz9_3:wr.cell? ⟨gb711,3,none⟩ = some (.slice A0_3 l0_3.length c0_3):=(blk_cell BK711.out 3).trans rfl
       have hfz9_0:=blk_frozen BK711.out 0
       have hfz9_1:=blk_frozen BK711.out 1
       have hfz9_2:=blk_frozen BK711.out 2
       have hfz9_3:=blk_frozen BK711.out 3
       go_wp2
       go_roundg k2
       case measure => have:=HK1.out; have:=HK2.out; omega
       case rel => exact ⟨(x3_2),(wrap64 (x4_1 + 1)),rs_,H',⟨by have:=HK1.out; have:=HK2.out; omega⟩,⟨kr_ HO_3.out⟩,⟨bk_ BK711.out⟩,⟨bl1_ HB.out GE711.out⟩⟩
   ·rw [if_neg c3] at H
    have c3b0:decide (x4_1 ≤ a0_1) = false:=decide_eq_false c3
    clear c3
    obtain rfl:=Option.some.inj H
    have hcz10_0:wr.cell? ⟨gb711,0,none⟩ = some (.int .i64 a0_0):=(blk_cell BK711.out 0).trans rfl
    have hcz10_1:wr.cell? ⟨gb711,1,none⟩ = some (.int .i64 a0_1):=(blk_cell BK711.out 1).trans rfl
    have hcz10_2:wr.cell? ⟨gb711,2,none⟩ = some (.slice A0_2 l0_2.length c0_2):=(blk_cell BK711.out 2).trans rfl
    have hcz10_3:wr.cell? ⟨gb711,3,none⟩ = some (.slice A0_3 l0_3.length c0_3):=(blk_cell BK711.out 3).trans rfl
    have hfz10_0:=blk_frozen BK711.out 0
    have hfz10_1:=blk_frozen BK711.out 1
    have hfz10_2:=blk_frozen BK711.out 2
    have hfz10_3:=blk_frozen BK711.out 3
    go_wp2
    go_ret
    exact ⟨_,er_,by (with_reducible repeat (first | apply Kd.R_alloc | apply Kd.R_drewN | apply Kd.R_drew)); exact HO_3.out,bl1_ HB.out GE711.out⟩


def spec_liMeet.l0:Nat → Int → Int → Int → Int → List Int → List Int → Int → Int → Option (Int)
 | 0,_,_,_,_,_,_,_,_ => none
 | k + 1,x5,x6,x716000,x716001,x716002,x716003,x717000,x717001 => if x6 < 4 then ((spec_liNext.f k x716000 x716001 x716002 x716003 x717000 x717001 x6).bind fun bt717 => (if bt717.2.2 = true then (spec_liMeet.l0 k (wrap64 (x5 + 1)) (wrap64 (x6 + 1)) x716000 x716001 x716002 x716003 x717000 x717001) else (spec_liMeet.l0 k x5 (wrap64 (x6 + 1)) x716000 x716001 x716002 x716003 x717000 x717001))) else (some x5)
def spec_liMeet.f (k:Nat) (a0_0:Int) (a0_1:Int) (l0_2:List Int) (l0_3:List Int) (a1_0:Int) (a1_1:Int):Option (Int):=spec_liMeet.l0 k 0 0 a0_0 a0_1 l0_2 l0_3 a1_0 a1_1
theorem spec_liMeet.mono_l:∀ k,(∀ y0 y1 y2 y3 y4 y5 y6 y7,LeO (spec_liMeet.l0 k y0 y1 y2 y3 y4 y5 y6 y7) (spec_liMeet.l0 (k + 1) y0 y1 y2 y3 y4 y5 y6 y7))
 | 0 => fun _ _ _ _ _ _ _ _ r h => by simp [spec_liMeet.l0] at h
 | k + 1 => by
  have ih0:=spec_liMeet.mono_l k
  ·intro y0 y1 y2 y3 y4 y5 y6 y7
   unfold spec_liMeet.l0
   repeat' first
   | (with_reducible exact ih0 _ _ _ _ _ _ _ _)
   | (with_reducible exact spec_liNext.mono _ _ _ _ _ _ _ _)
   | (with_reducible exact LeO.refl _)
   | (with_reducible exact LeO.none _)
   | (with_reducible refine LeO.ite ?_ ?_)
   | (with_reducible refine LeO.bind ?_ (fun _ => ?_))
   | exact ih0 _ _ _ _ _ _ _ _
   | exact spec_liNext.mono _ _ _ _ _ _ _ _
   | exact LeO.none _
   | refine LeO.ite ?_ ?_
   | refine LeO.bind ?_ (fun _ => ?_)
theorem spec_liMeet.mono:∀ a0 a1 a2 a3 a4 a5 k,LeO (spec_liMeet.f k a0 a1 a2 a3 a4 a5) (spec_liMeet.f (k + 1) a0 a1 a2 a3 a4 a5):=by
 intro a0 a1 a2 a3 a4 a5 k
 have ih0:=spec_liMeet.mono_l k
 unfold spec_liMeet.f
 repeat' first
   | (with_reducible exact ih0 _ _ _ _ _ _ _ _)
   | (with_reducible exact spec_liNext.mono _ _ _ _ _ _ _ _)
   | (with_reducible exact LeO.refl _)
   | (with_reducible exact LeO.none _)
   | (with_reducible refine LeO.ite ?_ ?_)
   | (with_reducible refine LeO.bind ?_ (fun _ => ?_))
   | exact ih0 _ _ _ _ _ _ _ _
   | exact spec_liNext.mono _ _ _ _ _ _ _ _
   | exact LeO.none _
   | refine LeO.ite ?_ ?_
   | refine LeO.bind ?_ (fun _ => ?_)
set_option maxHeartbeats 8000000 in
set_option maxRecDepth 100000 in
theorem spec_liMeet.calls (k:Nat) (a0_0:Int) (a0_1:Int) (A0_2:Option Addr) (c0_2:Nat) (l0_2:List Int) (A0_3:Option Addr) (c0_3:Nat) (l0_3:List Int) (a1_0:Int) (a1_1:Int) (r:Int) (w:World) (hr0_2:Kd.C (Kd.int .i64) w A0_2 l0_2.length l0_2) (hc0_2:l0_2.length ≤ c0_2) (hr0_3:Kd.C (Kd.int .i64) w A0_3 l0_3.length l0_3) (hc0_3:l0_3.length ≤ c0_3) (h:spec_liMeet.f k a0_0 a0_1 l0_2 l0_3 a1_0 a1_1 = some r) :
  Calls Tryd.prog 106 #[.agg #[.int .i64 a0_0,.int .i64 a0_1,.slice A0_2 l0_2.length c0_2,.slice A0_3 l0_3.length c0_3],.agg #[.int .i64 a1_0,.int .i64 a1_1]] w fun e w' => e = .returned (.int .i64 r) ∧ Below w.heap.size w w':=by
 have hu26:=Tryd.underlying26
 have hu103:=Tryd.underlying103
 have HR0_2:=Aside0.mk hr0_2
 have HC0_2:=Aside0.mk hc0_2
 clear hr0_2 hc0_2
 have HR0_3:=Aside0.mk hr0_3
 have HC0_3:=Aside0.mk hc0_3
 clear hr0_3 hc0_3
 have HB:=Aside0.mk (Below.refl w.heap.size w)
 have H:(spec_liMeet.l0 k 0 0 a0_0 a0_1 l0_2 l0_3 a1_0 a1_1) = some r:=h
 clear h
 have H':=Aside0.mk H
 clear H
 go_enter Tryd.func106,Tryd.ntmps106
 go_wp2_with (first | ((with_reducible refine gate_dst (N:=2) rfl ?_); refine boxE_ (N:=2) (cs:=#[.int .i64 a0_0,.int .i64 a0_1,.slice A0_2 l0_2.length c0_2,.slice A0_3 l0_3.length c0_3]) (t:=26) ?_; intro gb715 hg w3 hbox hb; have n0_:=Aside0.mk (below_step (bl0_ HB.out) hb); have n1_:=Aside0.mk (hbox); have n2_:=Aside0.mk ((bs0_ hg HB.out:w.heap.size ≤ gb715)); have n3_:=Aside0.mk ((bs0_ hg HB.out:w.heap.size ≤ gb715)); clear HB; have HB:=n0_; have BK715:=n1_; have GW715:=n2_; have GE715:=n3_; clear n0_ n1_ n2_ n3_; clear hb hbox hg) | ((with_reducible refine gate_dst (N:=3) rfl ?_); refine boxE_ (N:=3) (cs:=#[.int .i64 a1_0,.int .i64 a1_1]) (t:=103) ?_; intro gb716 hg w4 hbox hb; have n0_:=Aside0.mk (bb_ BK715.out hb); have n1_:=Aside0.mk (below_step (bl1_ HB.out GE715.out) hb); have n2_:=Aside0.mk (hbox); have n3_:=Aside0.mk ((bs1_ hg HB.out GE715.out:w.heap.size ≤ gb716)); have n4_:=Aside0.mk ((bs1_ hg HB.out GE715.out:w.heap.size ≤ gb716)); have n5_:=Aside0.mk ((nl_ hg BK715.out:gb715 ≠ gb716)); have n6_:=Aside0.mk ((ng_ hg BK715.out:gb716 ≠ gb715)); clear BK715; clear HB; have BK715:=n0_; have HB:=n1_; have BK716:=n2_; have GW716:=n3_; have GE716:=n4_; have NB715_716:=n5_; have NB716_715:=n6_; clear n0_ n1_ n2_ n3_ n4_ n5_ n6_; clear hb hbox hg))
 go_loopg [5,6] k (fun kq v5 v6 w' => ∃ (x5_1:Int) (x6_1:Int),v5 = .int .i64 x5_1 ∧ v6 = .int .i64 x6_1 ∧ Aside0 (spec_liMeet.l0 kq x5_1 x6_1 a0_0 a0_1 l0_2 l0_3 a1_0 a1_1 = some r) ∧ Aside0 (kq ≤ k) ∧ Aside0 (w'.heap[gb715]? = some (.cells #[.int .i64 a0_0,.int .i64 a0_1,(.slice A0_2 l0_2.length c0_2),(.slice A0_3 l0_3.length c0_3)] 26 (0,0))) ∧ Aside0 (w'.heap[gb716]? = some (.cells #[.int .i64 a1_0,.int .i64 a1_1] 103 (0,0))) ∧ Aside0 (Below w.heap.size w w'))
 case atStart => exact ⟨(0),(0),rs_,rs_,H',⟨Nat.le_refl _⟩,⟨bk_ BK715.out⟩,⟨bk_ BK716.out⟩,⟨bl2_ HB.out GE715.out GE716.out⟩⟩
 case round =>
  clear H'
  try clear c1
  try clear p2
  obtain ⟨x5_1,x6_1,rfl,rfl,HA,HK1,BK715,BK716,HB⟩:=hrel
  cases gk with
  | zero => exact absurd HA.out (by simp [spec_liMeet.l0])
  | succ k1 =>
   have H:=HA.out
   clear HA
   simp only [spec_liMeet.l0] at H
   by_cases c5:x6_1 < 4
   ·rw [if_pos c5] at H
    have c5b0:decide (x6_1 < 4) = true:=decide_eq_true c5
    clear c5
    replace H:=Option.bind_eq_some_iff.mp H
    obtain ⟨⟨t717,t718,t719⟩,A60,H⟩:=H
    replace H:(if t719 = true then (spec_liMeet.l0 k1 (wrap64 (x5_1 + 1)) (wrap64 (x6_1 + 1)) a0_0 a0_1 l0_2 l0_3 a1_0 a1_1) else (spec_liMeet.l0 k1 x5_1 (wrap64 (x6_1 + 1)) a0_0 a0_1 l0_2 l0_3 a1_0 a1_1)) = some r:=H
    have A6:=Aside0.mk A60
    clear A60
    by_cases c7:t719 = true
    ·subst c7
     have H1:(spec_liMeet.l0 k1 (wrap64 (x5_1 + 1)) (wrap64 (x6_1 + 1)) a0_0 a0_1 l0_2 l0_3 a1_0 a1_1) = some r:=by rw [if_pos rfl] at H; exact H
     clear H
     have H:=H1
     clear H1
     have H':=Aside0.mk H
     clear H
     have hnb8:=NB715_716.out
     have hnc8:=NB716_715.out
     have hcz9_0:wr.cell? ⟨gb715,0,none⟩ = some (.int .i64 a0_0):=(blk_cell BK715.out 0).trans rfl
     have hcz9_1:wr.cell? ⟨gb715,1,none⟩ = some (.int .i64 a0_1):=(blk_cell BK715.out 1).trans rfl
     have hcz9_2:wr.cell? ⟨gb715,2,none⟩ = some (.slice A0_2 l0_2.length c0_2):=(blk_cell BK715.out 2).trans rfl
     have hcz9_3:wr.cell? ⟨gb715,3,none⟩ = some (.slice A0_3 l0_3.length c0_3):=(blk_cell BK715.out 3).trans rfl
     have hfz9_0:=blk_frozen BK715.out 0
     have hfz9_1:=blk_frozen BK715.out 1
     have hfz9_2:=blk_frozen BK715.out 2
     have hfz9_3:=blk_frozen BK715.out 3
     have hcz10_0:wr.cell? ⟨gb716,0,none⟩ = some (.int .i64 a1_0):=(blk_cell BK716.out 0).trans rfl
     have hcz10_1:wr.cell? ⟨gb716,1,none⟩ = some (.int .i64 a1_1):=(blk_cell BK716.out 1).trans rfl
     have hfz10_0:=blk_frozen BK716.out 0
     have hfz10_1:=blk_frozen BK716.out 1
     go_wp2_with (first | ((with_reducible refine gate_callee (f:=104) rfl ?_); refine goesL_ (some 17) rfl rfl Tryd.func104 (by kernel_rfl) rfl #[.agg #[.int .i64 a0_0,.int .i64 a0_1,.slice A0_2 l0_2.length c0_2,.slice A0_3 l0_3.length c0_3],.agg #[.int .i64 a1_0,.int .i64 a1_1],.int .i64 x6_1] rfl ob_ ?_; (with_reducible refine (spec_liNext.calls k1 a0_0 a0_1 _ _ l0_2 _ _ l0_3 a1_0 a1_1 x6_1 t717 t718 true _ ?side1 ?side2 ?side3 ?side4 A6.out).mono ?_); (case side1 => exact kc_ (Kd.C_below HR0_2.out HB.out)); (case side2 => exact HC0_2.out); (case side3 => exact kc_ (Kd.C_below HR0_3.out HB.out)); (case side4 => exact HC0_3.out); rintro e w11 ⟨rfl,hb⟩; refine ⟨_,rfl,?_⟩; have n0_:=Aside0.mk (bb_ BK715.out hb); have n1_:=Aside0.mk (bb_ BK716.out hb); have n2_:=Aside0.mk (below_step (bl2_ HB.out GE715.out GE716.out) hb); clear BK715; clear BK716; clear HB; have BK715:=n0_; have BK716:=n1_; have HB:=n2_; clear n0_ n1_ n2_; (try clear hb); (try clear hb2); (try clear hk); (try clear hi)) | ((with_reducible refine gate_dst (N:=7) rfl ?_); refine boxE_ (N:=7) (cs:=#[.int .i64 0,.int .i64 0]) (t:=103) ?_; intro gb720 hg w12 hbox hb; have n0_:=Aside0.mk (bb_ BK715.out hb); have n1_:=Aside0.mk (bb_ BK716.out hb); have n2_:=Aside0.mk (below_step (bl2_ HB.out GE715.out GE716.out) hb); have n3_:=Aside0.mk (hbox); have n4_:=Aside0.mk ((bs2_ hg HB.out GE715.out GE716.out:w.heap.size ≤ gb720)); have n5_:=Aside0.mk ((bs2_ hg HB.out GE715.out GE716.out:w.heap.size ≤ gb720)); have n6_:=Aside0.mk ((nl_ hg BK715.out:gb715 ≠ gb720)); have n7_:=Aside0.mk ((ng_ hg BK715.out:gb720 ≠ gb715)); have n8_:=Aside0.mk ((nl_ hg BK716.out:gb716 ≠ gb720)); have n9_:=Aside0.mk ((ng_ hg BK716.out:gb720 ≠ gb716)); clear BK715; clear BK716; clear HB; have BK715:=n0_; have BK716:=n1_; have HB:=n2_; have BK720:=n3_; have GW720:=n4_; have GE720:=n5_; have NB715_720:=n6_; have NB720_715:=n7_; have NB716_720:=n8_; have NB720_716:=n9_; clear n0_ n1_ n2_ n3_ n4_ n5_ n6_ n7_ n8_ n9_; clear hb hbox hg; have hnb13:=NB720_715.out; have hnc13:=NB715_720.out; have hnb14:=NB720_716.out; have hnc14:=NB716_720.out; have hcz15_0:w12.cell? ⟨gb720,0,none⟩ = some (.int .i64 0):=(blk_cell BK720.out 0).trans rfl; have hcz15_1:w12.cell? ⟨gb720,1,none⟩ = some (.int .i64 0):=(blk_cell BK720.out 1).trans rfl; have hfz15_0:=blk_frozen BK720.out 0; have hfz15_1:=blk_frozen BK720.out 1))
     go_roundg k1
     case measure => have:=HK1.out; omega
     case rel => exact ⟨(wrap64 (x5_1 + 1)),(wrap64 (x6_1 + 1)),rs_,rs_,H',⟨by have:=HK1.out; omega⟩,⟨bf2_ NB715_720.out NB715_720.out BK715.out⟩,⟨bf2_ NB716_720.out NB716_720.out BK716.out⟩,⟨bl3_ HB.out GE715.out GE716.out GE720.out⟩⟩
    ·replace c7:=Bool.eq_false_iff.mpr c7
     subst c7
     have H1:(spec_liMeet.l0 k1 x5_1 (wrap64 (x6_1 + 1)) a0_0 a0_1 l0_2 l0_3 a1_0 a1_1) = some r:=by rw [if_neg (show ¬ (false = true) by decide)] at H; exact H
     clear H
     have H:=H1
     clear H1
     have H':=Aside0.mk H
     clear H
     have hnb16:=NB715_716.out
     have hnc16:=NB716_715.out
     have hcz17_0:wr.cell? ⟨gb715,0,none⟩ = some (.int .i64 a0_0):=(blk_cell BK715.out 0).trans rfl
     have hcz17_1:wr.cell? ⟨gb715,1,none⟩ = some (.int .i64 a0_1):=(blk_cell BK715.out 1).trans rfl
     have hcz17_2:wr.cell? ⟨gb715,2,none⟩ = some (.slice A0_2 l0_2.length c0_2):=(blk_cell BK715.out 2).trans rfl
     have hcz17_3:wr.cell? ⟨gb715,3,none⟩ = some (.slice A0_3 l0_3.length c0_3):=(blk_cell BK715.out 3).trans rfl
     have hfz17_0:=blk_frozen BK715.out 0
     have hfz17_1:=blk_frozen BK715.out 1
     have hfz17_2:=blk_frozen BK715.out 2
     have hfz17_3:=blk_frozen BK715.out 3
     have hcz18_0:wr.cell? ⟨gb716,0,none⟩ = some (.int .i64 a1_0):=(blk_cell BK716.out 0).trans rfl
     have hcz18_1:wr.cell? ⟨gb716,1,none⟩ = some (.int .i64 a1_1):=(blk_cell BK716.out 1).trans rfl
     have hfz18_0:=blk_frozen BK716.out 0
     have hfz18_1:=blk_frozen BK716.out 1
     go_wp2_with (first | ((with_reducible refine gate_callee (f:=104) rfl ?_); refine goesL_ (some 17) rfl rfl Tryd.func104 (by kernel_rfl) rfl #[.agg #[.int .i64 a0_0,.int .i64 a0_1,.slice A0_2 l0_2.length c0_2,.slice A0_3 l0_3.length c0_3],.agg #[.int .i64 a1_0,.int .i64 a1_1],.int .i64 x6_1] rfl ob_ ?_; (with_reducible refine (spec_liNext.calls k1 a0_0 a0_1 _ _ l0_2 _ _ l0_3 a1_0 a1_1 x6_1 t717 t718 false _ ?side1 ?side2 ?side3 ?side4 A6.out).mono ?_); (case side1 => exact kc_ (Kd.C_below HR0_2.out HB.out)); (case side2 => exact HC0_2.out); (case side3 => exact kc_ (Kd.C_below HR0_3.out HB.out)); (case side4 => exact HC0_3.out); rintro e w19 ⟨rfl,hb⟩; refine ⟨_,rfl,?_⟩; have n0_:=Aside0.mk (bb_ BK715.out hb); have n1_:=Aside0.mk (bb_ BK716.out hb); have n2_:=Aside0.mk (below_step (bl2_ HB.out GE715.out GE716.out) hb); clear BK715; clear BK716; clear HB; have BK715:=n0_; have BK716:=n1_; have HB:=n2_; clear n0_ n1_ n2_; (try clear hb); (try clear hb2); (try clear hk); (try clear hi)) | ((with_reducible refine gate_dst (N:=7) rfl ?_); refine boxE_ (N:=7) (cs:=#[.int .i64 0,.int .i64 0]) (t:=103) ?_; intro gb720 hg w20 hbox hb; have n0_:=Aside0.mk (bb_ BK715.out hb); have n1_:=Aside0.mk (bb_ BK716.out hb); have n2_:=Aside0.mk (below_step (bl2_ HB.out GE715.out GE716.out) hb); have n3_:=Aside0.mk (hbox); have n4_:=Aside0.mk ((bs2_ hg HB.out GE715.out GE716.out:w.heap.size ≤ gb720)); have n5_:=Aside0.mk ((bs2_ hg HB.out GE715.out GE716.out:w.heap.size ≤ gb720)); have n6_:=Aside0.mk ((nl_ hg BK715.out:gb715 ≠ gb720)); have n7_:=Aside0.mk ((ng_ hg BK715.out:gb720 ≠ gb715)); have n8_:=Aside0.mk ((nl_ hg BK716.out:gb716 ≠ gb720)); have n9_:=Aside0.mk ((ng_ hg BK716.out:gb720 ≠ gb716)); clear BK715; clear BK716; clear HB; have BK715:=n0_; have BK716:=n1_; have HB:=n2_; have BK720:=n3_; have GW720:=n4_; have GE720:=n5_; have NB715_720:=n6_; have NB720_715:=n7_; have NB716_720:=n8_; have NB720_716:=n9_; clear n0_ n1_ n2_ n3_ n4_ n5_ n6_ n7_ n8_ n9_; clear hb hbox hg; have hnb21:=NB720_715.out; have hnc21:=NB715_720.out; have hnb22:=NB720_716.out; have hnc22:=NB716_720.out; have hcz23_0:w20.cell? ⟨gb720,0,none⟩ = some (.int .i64 0):=(blk_cell BK720.out 0).trans rfl; have hcz23_1:w20.cell? ⟨gb720,1,none⟩ = some (.int .i64 0):=(blk_cell BK720.out 1).trans rfl; have hfz23_0:=blk_frozen BK720.out 0; have hfz23_1:=blk_frozen BK720.out 1))
     go_roundg k1
     case measure => have:=HK1.out; omega
     case rel => exact ⟨(x5_1),(wrap64 (x6_1 + 1)),rs_,rs_,H',⟨by have:=HK1.out; omega⟩,⟨bf2_ NB715_720.out NB715_720.out BK715.out⟩,⟨bf2_ NB716_720.out NB716_720.out BK716.out⟩,⟨bl3_ HB.out GE715.out GE716.out GE720.out⟩⟩
   ·rw [if_neg c5] at H
    have c5b0:decide (x6_1 < 4) = false:=decide_eq_false c5
    clear c5
    obtain rfl:=Option.some.inj H
    go_wp2
    go_ret
    exact ⟨er_,bl2_ HB.out GE715.out GE716.out⟩

end Go.Proofs.YtjnajeplfgdklaaDoor.P
