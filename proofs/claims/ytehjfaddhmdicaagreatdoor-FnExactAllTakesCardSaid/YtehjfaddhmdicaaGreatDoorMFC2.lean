/- For every input the law FnExactAllTakes answers true: the program's AllTakes tells what the reference's AllTakes tells; no condition. (part 2 of the proof; the words of the kit's print tool and the texts of this seat, merged by a program) -/
import Derived.Test.YtehjfaddhmdicaaGreatDoorMFC1
namespace Go.Proofs.YtehjfaddhmdicaaGreatDoor.P
open Go.RowKit Go.Proofs.YtehjfaddhmdicaaGreatDoorW.PrintWords Go.Proofs.YtehjfaddhmdicaaGreatDoorW.PrintLast Go.Proofs.YtehjfaddhmdicaaGreatDoorW.PrintMore
attribute [local go_sem] max2_int min2_int max_two min_two max_three min_three max_four min_four   -- for this text's walks alone
set_option linter.unusedVariables false
set_option linter.unusedSimpArgs false

def impl_IsFigure.f (k:Nat) (a0_0:Int) (a0_1:Int) (l0_2:List Int) (l0_3:List Int):Option (Bool):=(impl_isGrid.f a0_0 a0_1).bind fun t274 => (if t274 = true then ((impl_isRising.f k l0_2).bind fun t275 => (if t275 = true then ((impl_isRising.f k l0_3).bind fun t276 => (if t276 = true then ((impl_Figure_grid.f a0_0 a0_1 l0_2 l0_3).bind fun bt277 => ((impl_grid_levels.f bt277.1 bt277.2).bind fun t279 => ((impl_areWithin.f l0_2 0 (wrap64 (t279 - 1))).bind fun t280 => (if t280 = true then ((impl_Figure_grid.f a0_0 a0_1 l0_2 l0_3).bind fun bt281 => ((impl_grid_uprights.f bt281.1 bt281.2).bind fun t283 => ((impl_areWithin.f l0_3 0 (wrap64 (t283 - 1))).bind fun t284 => (some t284)))) else (some false))))) else (some false))) else (some false))) else (some false))
theorem impl_IsFigure.mono:∀ a0 a1 a2 a3 k,LeO (impl_IsFigure.f k a0 a1 a2 a3) (impl_IsFigure.f (k + 1) a0 a1 a2 a3):=by
 intro a0 a1 a2 a3 k
 unfold impl_IsFigure.f
 repeat' first | (with_reducible first | exact impl_isRising.mono _ _ | exact LeO.refl _ | exact LeO.none _ | refine LeO.ite ?_ ?_ | refine LeO.bind ?_ (fun _ => ?_)) | exact impl_isRising.mono _ _
def impl_IsFigure.T1:Bool × List (List Nat × List Nat):=(true,[([],[]),([0],[0]),([],[]),([2],[2]),([1,3],[1,3]),([4,4],[4]),([5],[5]),([6,5],[5,6]),([7,5,5],[5,7]),([5,8],[5,8]),([9,8],[9]),([10],[10]),([11,10],[10,11]),([12,10,10],[10,12]),([10,13],[10,13]),([14,13],[14]),([15],[15]),([16,15],[15,16]),([15],[15]),([18,15,15],[15,18]),([19,19,15],[15,19]),([20,15],[15,20]),([17,21,20,15],[15,17,21]),([15,22],[15,22]),([23,22],[23]),([24],[24]),([25,24],[24,25]),([24],[24]),([27,24,24],[24,27]),([28,28,24],[24,28]),([29,24],[24,29]),([26,30,29,24],[24,26,30]),([24,31],[24,31]),([32,31,0,1,2,3,4,5,6,7,8,9,10,11,12,13,14,15,16,17,18,19,20,21,22,23,24,25,26,27,28,29,30,31,32],[32])])
def impl_IsFigure.B1:List Nat:=[0,1,0,4,15,31,63,127,255,511,1023,2047,4095,8191,16383,32767,65535,131071,65535,327679,851967,1900543,4194303,8388607,16777215,33554431,67108863,33554431,167772159,436207615,973078527,2147483647,4294967295,8589934591]
theorem impl_IsFigure.tab1:rtab .any (opsOf Tryz.f88 1) = impl_IsFigure.T1:=by kernel_rfl
theorem impl_IsFigure.bits1:waitsOk impl_IsFigure.T1.2 impl_IsFigure.B1 = true:=by kernel_rfl
set_option maxHeartbeats 8000000 in
set_option maxRecDepth 100000 in
theorem impl_IsFigure.calls (k:Nat) (a0_0:Int) (a0_1:Int) (A0_2:Option Addr) (c0_2:Nat) (l0_2:List Int) (A0_3:Option Addr) (c0_3:Nat) (l0_3:List Int) (r:Bool) (w:World) (hr0_2:Kd.C (Kd.int .i64) w A0_2 l0_2.length l0_2) (hc0_2:l0_2.length ≤ c0_2) (hr0_3:Kd.C (Kd.int .i64) w A0_3 l0_3.length l0_3) (hc0_3:l0_3.length ≤ c0_3) (h:impl_IsFigure.f k a0_0 a0_1 l0_2 l0_3 = some r) :
  Calls Tryz.prog 88 #[.agg #[.int .i64 a0_0,.int .i64 a0_1,.slice A0_2 l0_2.length c0_2,.slice A0_3 l0_3.length c0_3]] w fun e w' => e = .returned (.bool r) ∧ Below w.heap.size w w':=by
 have hu26:=Tryz.underlying26
 have HR0_2:=am_ hr0_2
 have HC0_2:=am_ hc0_2
 clear hr0_2 hc0_2
 have HR0_3:=am_ hr0_3
 have HC0_3:=am_ hc0_3
 clear hr0_3 hc0_3
 have HB:=am_ (Below.refl w.heap.size w)
 have H:((impl_isGrid.f a0_0 a0_1).bind fun t274 => (if t274 = true then ((impl_isRising.f k l0_2).bind fun t275 => (if t275 = true then ((impl_isRising.f k l0_3).bind fun t276 => (if t276 = true then ((impl_Figure_grid.f a0_0 a0_1 l0_2 l0_3).bind fun bt277 => ((impl_grid_levels.f bt277.1 bt277.2).bind fun t279 => ((impl_areWithin.f l0_2 0 (wrap64 (t279 - 1))).bind fun t280 => (if t280 = true then ((impl_Figure_grid.f a0_0 a0_1 l0_2 l0_3).bind fun bt281 => ((impl_grid_uprights.f bt281.1 bt281.2).bind fun t283 => ((impl_areWithin.f l0_3 0 (wrap64 (t283 - 1))).bind fun t284 => (some t284)))) else (some false))))) else (some false))) else (some false))) else (some false))) = some r:=h
 clear h
 replace H:=bi_ H
 obtain ⟨t274,A20,H⟩:=H
 replace H:(if t274 = true then ((impl_isRising.f k l0_2).bind fun t275 => (if t275 = true then ((impl_isRising.f k l0_3).bind fun t276 => (if t276 = true then ((impl_Figure_grid.f a0_0 a0_1 l0_2 l0_3).bind fun bt277 => ((impl_grid_levels.f bt277.1 bt277.2).bind fun t279 => ((impl_areWithin.f l0_2 0 (wrap64 (t279 - 1))).bind fun t280 => (if t280 = true then ((impl_Figure_grid.f a0_0 a0_1 l0_2 l0_3).bind fun bt281 => ((impl_grid_uprights.f bt281.1 bt281.2).bind fun t283 => ((impl_areWithin.f l0_3 0 (wrap64 (t283 - 1))).bind fun t284 => (some t284)))) else (some false))))) else (some false))) else (some false))) else (some false)) = some r:=H
 have A2:=am_ A20
 clear A20
 by_cases c3:t274 = true
 ·subst c3
  have H1:((impl_isRising.f k l0_2).bind fun t275 => (if t275 = true then ((impl_isRising.f k l0_3).bind fun t276 => (if t276 = true then ((impl_Figure_grid.f a0_0 a0_1 l0_2 l0_3).bind fun bt277 => ((impl_grid_levels.f bt277.1 bt277.2).bind fun t279 => ((impl_areWithin.f l0_2 0 (wrap64 (t279 - 1))).bind fun t280 => (if t280 = true then ((impl_Figure_grid.f a0_0 a0_1 l0_2 l0_3).bind fun bt281 => ((impl_grid_uprights.f bt281.1 bt281.2).bind fun t283 => ((impl_areWithin.f l0_3 0 (wrap64 (t283 - 1))).bind fun t284 => (some t284)))) else (some false))))) else (some false))) else (some false))) = some r:=by rw [if_pos rfl] at H; exact H
  clear H
  have H:=H1
  clear H1
  replace H:=bi_ H
  obtain ⟨t275,A40,H⟩:=H
  replace H:(if t275 = true then ((impl_isRising.f k l0_3).bind fun t276 => (if t276 = true then ((impl_Figure_grid.f a0_0 a0_1 l0_2 l0_3).bind fun bt277 => ((impl_grid_levels.f bt277.1 bt277.2).bind fun t279 => ((impl_areWithin.f l0_2 0 (wrap64 (t279 - 1))).bind fun t280 => (if t280 = true then ((impl_Figure_grid.f a0_0 a0_1 l0_2 l0_3).bind fun bt281 => ((impl_grid_uprights.f bt281.1 bt281.2).bind fun t283 => ((impl_areWithin.f l0_3 0 (wrap64 (t283 - 1))).bind fun t284 => (some t284)))) else (some false))))) else (some false))) else (some false)) = some r:=H
  have A4:=am_ A40
  clear A40
  by_cases c5:t275 = true
  ·subst c5
   have H1:((impl_isRising.f k l0_3).bind fun t276 => (if t276 = true then ((impl_Figure_grid.f a0_0 a0_1 l0_2 l0_3).bind fun bt277 => ((impl_grid_levels.f bt277.1 bt277.2).bind fun t279 => ((impl_areWithin.f l0_2 0 (wrap64 (t279 - 1))).bind fun t280 => (if t280 = true then ((impl_Figure_grid.f a0_0 a0_1 l0_2 l0_3).bind fun bt281 => ((impl_grid_uprights.f bt281.1 bt281.2).bind fun t283 => ((impl_areWithin.f l0_3 0 (wrap64 (t283 - 1))).bind fun t284 => (some t284)))) else (some false))))) else (some false))) = some r:=by rw [if_pos rfl] at H; exact H
   clear H
   have H:=H1
   clear H1
   replace H:=bi_ H
   obtain ⟨t276,A60,H⟩:=H
   replace H:(if t276 = true then ((impl_Figure_grid.f a0_0 a0_1 l0_2 l0_3).bind fun bt277 => ((impl_grid_levels.f bt277.1 bt277.2).bind fun t279 => ((impl_areWithin.f l0_2 0 (wrap64 (t279 - 1))).bind fun t280 => (if t280 = true then ((impl_Figure_grid.f a0_0 a0_1 l0_2 l0_3).bind fun bt281 => ((impl_grid_uprights.f bt281.1 bt281.2).bind fun t283 => ((impl_areWithin.f l0_3 0 (wrap64 (t283 - 1))).bind fun t284 => (some t284)))) else (some false))))) else (some false)) = some r:=H
   have A6:=am_ A60
   clear A60
   by_cases c7:t276 = true
   ·subst c7
    have H1:((impl_Figure_grid.f a0_0 a0_1 l0_2 l0_3).bind fun bt277 => ((impl_grid_levels.f bt277.1 bt277.2).bind fun t279 => ((impl_areWithin.f l0_2 0 (wrap64 (t279 - 1))).bind fun t280 => (if t280 = true then ((impl_Figure_grid.f a0_0 a0_1 l0_2 l0_3).bind fun bt281 => ((impl_grid_uprights.f bt281.1 bt281.2).bind fun t283 => ((impl_areWithin.f l0_3 0 (wrap64 (t283 - 1))).bind fun t284 => (some t284)))) else (some false))))) = some r:=by rw [if_pos rfl] at H; exact H
    clear H
    have H:=H1
    clear H1
    replace H:=bi_ H
    obtain ⟨⟨t277,t278⟩,A80,H⟩:=H
    replace H:((impl_grid_levels.f t277 t278).bind fun t279 => ((impl_areWithin.f l0_2 0 (wrap64 (t279 - 1))).bind fun t280 => (if t280 = true then ((impl_Figure_grid.f a0_0 a0_1 l0_2 l0_3).bind fun bt281 => ((impl_grid_uprights.f bt281.1 bt281.2).bind fun t283 => ((impl_areWithin.f l0_3 0 (wrap64 (t283 - 1))).bind fun t284 => (some t284)))) else (some false)))) = some r:=H
    have A8:=am_ A80
    clear A80
    replace H:=bi_ H
    obtain ⟨t279,A90,H⟩:=H
    replace H:((impl_areWithin.f l0_2 0 (wrap64 (t279 - 1))).bind fun t280 => (if t280 = true then ((impl_Figure_grid.f a0_0 a0_1 l0_2 l0_3).bind fun bt281 => ((impl_grid_uprights.f bt281.1 bt281.2).bind fun t283 => ((impl_areWithin.f l0_3 0 (wrap64 (t283 - 1))).bind fun t284 => (some t284)))) else (some false))) = some r:=H
    have A9:=am_ A90
    clear A90
    replace H:=bi_ H
    obtain ⟨t280,A100,H⟩:=H
    replace H:(if t280 = true then ((impl_Figure_grid.f a0_0 a0_1 l0_2 l0_3).bind fun bt281 => ((impl_grid_uprights.f bt281.1 bt281.2).bind fun t283 => ((impl_areWithin.f l0_3 0 (wrap64 (t283 - 1))).bind fun t284 => (some t284)))) else (some false)) = some r:=H
    have A10:=am_ A100
    clear A100
    by_cases c11:t280 = true
    ·subst c11
     have H1:((impl_Figure_grid.f a0_0 a0_1 l0_2 l0_3).bind fun bt281 => ((impl_grid_uprights.f bt281.1 bt281.2).bind fun t283 => ((impl_areWithin.f l0_3 0 (wrap64 (t283 - 1))).bind fun t284 => (some t284)))) = some r:=by rw [if_pos rfl] at H; exact H
     clear H
     have H:=H1
     clear H1
     replace H:=bi_ H
     obtain ⟨⟨t281,t282⟩,A120,H⟩:=H
     replace H:((impl_grid_uprights.f t281 t282).bind fun t283 => ((impl_areWithin.f l0_3 0 (wrap64 (t283 - 1))).bind fun t284 => (some t284))) = some r:=H
     have A12:=am_ A120
     clear A120
     replace H:=bi_ H
     obtain ⟨t283,A130,H⟩:=H
     replace H:((impl_areWithin.f l0_3 0 (wrap64 (t283 - 1))).bind fun t284 => (some t284)) = some r:=H
     have A13:=am_ A130
     clear A130
     replace H:=bi_ H
     obtain ⟨t284,A140,H⟩:=H
     replace H:(some t284) = some r:=H
     have A14:=am_ A140
     clear A140
     obtain rfl:=Option.some.inj H
     go_enter Tryz.func88,Tryz.ntmps88
     try go_wp2_with (first | ((with_reducible refine gate_dst (N:=1) rfl ?_); refine boxE_ (N:=1) (cs:=#[.int .i64 a0_0,.int .i64 a0_1,.slice A0_2 l0_2.length c0_2,.slice A0_3 l0_3.length c0_3]) (t:=26) ?_; intro gb273 hg w15 hbox hb; have n0_:=am_ (below_step (bl0_ HB.out) hb); have n1_:=am_ (hbox); have n2_:=am_ ((bs0_ hg HB.out:w.heap.size ≤ gb273)); have n3_:=am_ ((bs0_ hg HB.out:w.heap.size ≤ gb273)); clear HB; have HB:=n0_; have BK273:=n1_; have GW273:=n2_; have GE273:=n3_; clear n0_ n1_ n2_ n3_; clear hb hbox hg))
     have n0_:=am_ (blk_drew BK273.out)
     have n1_:=am_ (below_drew1 HB.out)
     clear BK273
     clear HB
     have BK273:=n0_
     have HB:=n1_
     clear n0_ n1_
     refine start_ (n:=34) (S:=fun w' => w'.cell? ⟨gb273,0,none⟩ = some (.int .i64 a0_0) ∧ w'.cell? ⟨gb273,1,none⟩ = some (.int .i64 a0_1) ∧ w'.cell? ⟨gb273,2,none⟩ = some (.slice A0_2 l0_2.length c0_2) ∧ w'.cell? ⟨gb273,3,none⟩ = some (.slice A0_3 l0_3.length c0_3)) (ds:=[]) #[Ff,Ff,Ff,Ff,Ff,Ff,Ff,Ff,Ff,Ff,Ff,Ff,Ff,Ff,Ff,Ff,Ff,Ff,Ff,Ff,Ff,Ff,Ff,Ff,Ff,Ff,Ff,Ff,Ff,Ff,Ff,Ff,Ff,Ff] (by kernel_rfl) rfl rfl ⟨(bc_ BK273.out 0).trans rfl,(bc_ BK273.out 1).trans rfl,(bc_ BK273.out 2).trans rfl,(bc_ BK273.out 3).trans rfl⟩ (fun hHeld => ?_); refine with_tabW impl_IsFigure.tab1 impl_IsFigure.bits1 (fun HT_ HW_ => ?_)
     generalize w15.drew = w16 at BK273 HB hHeld ⊢
     refine pZ (i:=0) (N:=some 3) #[Tt,Ff,Ff,Ff,Ff,Ff,Ff,Ff,Ff,Ff,Ff,Ff,Ff,Ff,Ff,Ff,Ff,Ff,Ff,Ff,Ff,Ff,Ff,Ff,Ff,Ff,Ff,Ff,Ff,Ff,Ff,Ff,Ff,Ff] ?_
     refine pZ (i:=2) (N:=some 5) #[Tt,Ff,Tt,Ff,Ff,Ff,Ff,Ff,Ff,Ff,Ff,Ff,Ff,Ff,Ff,Ff,Ff,Ff,Ff,Ff,Ff,Ff,Ff,Ff,Ff,Ff,Ff,Ff,Ff,Ff,Ff,Ff,Ff,Ff] ?_
     refine tZ (i:=1) (N:=some 4) #[Tt,Tt,Tt,Ff,Ff,Ff,Ff,Ff,Ff,Ff,Ff,Ff,Ff,Ff,Ff,Ff,Ff,Ff,Ff,Ff,Ff,Ff,Ff,Ff,Ff,Ff,Ff,Ff,Ff,Ff,Ff,Ff,Ff,Ff] ?_
     refine tZ (i:=3) (N:=some 6) #[Tt,Tt,Tt,Tt,Ff,Ff,Ff,Ff,Ff,Ff,Ff,Ff,Ff,Ff,Ff,Ff,Ff,Ff,Ff,Ff,Ff,Ff,Ff,Ff,Ff,Ff,Ff,Ff,Ff,Ff,Ff,Ff,Ff,Ff] ?_
     refine one_ (i:=4) (N:=some 7) #[Tt,Tt,Tt,Tt,Tt,Ff,Ff,Ff,Ff,Ff,Ff,Ff,Ff,Ff,Ff,Ff,Ff,Ff,Ff,Ff,Ff,Ff,Ff,Ff,Ff,Ff,Ff,Ff,Ff,Ff,Ff,Ff,Ff,Ff] rfl rfl (one_of HT_.out (by kernel_rfl)) (by decide) (fun K hK => ?_)
     refine goes_ Tryz.func113 (by kernel_rfl) rfl #[.int .i64 a0_0,.int .i64 a0_1] (by rfl) rfl rfl ob_ ?_
     with_reducible refine (impl_isGrid.calls a0_0 a0_1 true _ A2.out).mono ?_
     rintro e w' ⟨rfl,⟨nd,rfl⟩⟩
     refine ⟨_,rfl,?_⟩
     refine hK.out _ _ ⟨(bc_ BK273.out 0).trans rfl,(bc_ BK273.out 1).trans rfl,(bc_ BK273.out 2).trans rfl,(bc_ BK273.out 3).trans rfl⟩ (fun hHeld => ?_)
     clear hK K
     refine norm_ (a':=_) ap_ ?_
     refine pZ (i:=5) (N:=some 8) #[Tt,Tt,Tt,Tt,Tt,Tt,Ff,Ff,Ff,Ff,Ff,Ff,Ff,Ff,Ff,Ff,Ff,Ff,Ff,Ff,Ff,Ff,Ff,Ff,Ff,Ff,Ff,Ff,Ff,Ff,Ff,Ff,Ff,Ff] ?_
     refine pZ (i:=6) (N:=some 9) #[Tt,Tt,Tt,Tt,Tt,Tt,Tt,Ff,Ff,Ff,Ff,Ff,Ff,Ff,Ff,Ff,Ff,Ff,Ff,Ff,Ff,Ff,Ff,Ff,Ff,Ff,Ff,Ff,Ff,Ff,Ff,Ff,Ff,Ff] ?_
     refine tZ (i:=7) (N:=some 10) #[Tt,Tt,Tt,Tt,Tt,Tt,Tt,Tt,Ff,Ff,Ff,Ff,Ff,Ff,Ff,Ff,Ff,Ff,Ff,Ff,Ff,Ff,Ff,Ff,Ff,Ff,Ff,Ff,Ff,Ff,Ff,Ff,Ff,Ff] ?_
     refine one_ (i:=8) (N:=some 11) #[Tt,Tt,Tt,Tt,Tt,Tt,Tt,Tt,Tt,Ff,Ff,Ff,Ff,Ff,Ff,Ff,Ff,Ff,Ff,Ff,Ff,Ff,Ff,Ff,Ff,Ff,Ff,Ff,Ff,Ff,Ff,Ff,Ff,Ff] rfl rfl (one_of HT_.out (by kernel_rfl)) (by decide) (fun K hK => ?_)
     refine goes_ Tryz.func114 (by kernel_rfl) rfl #[.slice A0_2 l0_2.length c0_2] (by rfl) rfl rfl ob_ ?_
     with_reducible refine (impl_isRising.calls k _ _ l0_2 true _ ?side1 ?side2 A4.out).mono ?_
     (case side1 => repeat (first | exact (Kd.C_below HR0_2.out (bl1_ HB.out GE273.out)) | (with_reducible refine Kd.C_alloc ?_ _) | (with_reducible refine Kd.C_drewN ?_ _) | (with_reducible refine Kd.C_drew ?_)))
     (case side2 => exact HC0_2.out)
     rintro e w' ⟨rfl,⟨nd,rfl⟩⟩
     refine ⟨_,rfl,?_⟩
     refine hK.out _ _ ⟨(bc_ BK273.out 0).trans rfl,(bc_ BK273.out 1).trans rfl,(bc_ BK273.out 2).trans rfl,(bc_ BK273.out 3).trans rfl⟩ (fun hHeld => ?_)
     clear hK K
     refine norm_ (a':=_) ap_ ?_
     refine pZ (i:=9) (N:=some 12) #[Tt,Tt,Tt,Tt,Tt,Tt,Tt,Tt,Tt,Tt,Ff,Ff,Ff,Ff,Ff,Ff,Ff,Ff,Ff,Ff,Ff,Ff,Ff,Ff,Ff,Ff,Ff,Ff,Ff,Ff,Ff,Ff,Ff,Ff] ?_
     refine pZ (i:=10) (N:=some 13) #[Tt,Tt,Tt,Tt,Tt,Tt,Tt,Tt,Tt,Tt,Tt,Ff,Ff,Ff,Ff,Ff,Ff,Ff,Ff,Ff,Ff,Ff,Ff,Ff,Ff,Ff,Ff,Ff,Ff,Ff,Ff,Ff,Ff,Ff] ?_
     refine pZ (i:=11) (N:=some 14) #[Tt,Tt,Tt,Tt,Tt,Tt,Tt,Tt,Tt,Tt,Tt,Tt,Ff,Ff,Ff,Ff,Ff,Ff,Ff,Ff,Ff,Ff,Ff,Ff,Ff,Ff,Ff,Ff,Ff,Ff,Ff,Ff,Ff,Ff] ?_
     refine tZ (i:=12) (N:=some 15) #[Tt,Tt,Tt,Tt,Tt,Tt,Tt,Tt,Tt,Tt,Tt,Tt,Tt,Ff,Ff,Ff,Ff,Ff,Ff,Ff,Ff,Ff,Ff,Ff,Ff,Ff,Ff,Ff,Ff,Ff,Ff,Ff,Ff,Ff] ?_
     refine one_ (i:=13) (N:=some 16) #[Tt,Tt,Tt,Tt,Tt,Tt,Tt,Tt,Tt,Tt,Tt,Tt,Tt,Tt,Ff,Ff,Ff,Ff,Ff,Ff,Ff,Ff,Ff,Ff,Ff,Ff,Ff,Ff,Ff,Ff,Ff,Ff,Ff,Ff] rfl rfl (one_of HT_.out (by kernel_rfl)) (by decide) (fun K hK => ?_)
     refine goes_ Tryz.func114 (by kernel_rfl) rfl #[.slice A0_3 l0_3.length c0_3] (by rfl) rfl rfl ob_ ?_
     with_reducible refine (impl_isRising.calls k _ _ l0_3 true _ ?side1 ?side2 A6.out).mono ?_
     (case side1 => repeat (first | exact (Kd.C_below HR0_3.out (bl1_ HB.out GE273.out)) | (with_reducible refine Kd.C_alloc ?_ _) | (with_reducible refine Kd.C_drewN ?_ _) | (with_reducible refine Kd.C_drew ?_)))
     (case side2 => exact HC0_3.out)
     rintro e w' ⟨rfl,⟨nd,rfl⟩⟩
     refine ⟨_,rfl,?_⟩
     refine hK.out _ _ ⟨(bc_ BK273.out 0).trans rfl,(bc_ BK273.out 1).trans rfl,(bc_ BK273.out 2).trans rfl,(bc_ BK273.out 3).trans rfl⟩ (fun hHeld => ?_)
     clear hK K
     refine norm_ (a':=_) ap_ ?_
     refine pZ (i:=14) (N:=some 17) #[Tt,Tt,Tt,Tt,Tt,Tt,Tt,Tt,Tt,Tt,Tt,Tt,Tt,Tt,Tt,Ff,Ff,Ff,Ff,Ff,Ff,Ff,Ff,Ff,Ff,Ff,Ff,Ff,Ff,Ff,Ff,Ff,Ff,Ff] ?_
     refine pZ (i:=15) (N:=some 18) #[Tt,Tt,Tt,Tt,Tt,Tt,Tt,Tt,Tt,Tt,Tt,Tt,Tt,Tt,Tt,Tt,Ff,Ff,Ff,Ff,Ff,Ff,Ff,Ff,Ff,Ff,Ff,Ff,Ff,Ff,Ff,Ff,Ff,Ff] ?_
     refine pZ (i:=16) (N:=some 19) #[Tt,Tt,Tt,Tt,Tt,Tt,Tt,Tt,Tt,Tt,Tt,Tt,Tt,Tt,Tt,Tt,Tt,Ff,Ff,Ff,Ff,Ff,Ff,Ff,Ff,Ff,Ff,Ff,Ff,Ff,Ff,Ff,Ff,Ff] ?_
     refine tZ (i:=17) (N:=some 20) #[Tt,Tt,Tt,Tt,Tt,Tt,Tt,Tt,Tt,Tt,Tt,Tt,Tt,Tt,Tt,Tt,Tt,Tt,Ff,Ff,Ff,Ff,Ff,Ff,Ff,Ff,Ff,Ff,Ff,Ff,Ff,Ff,Ff,Ff] ?_
     refine tZ (i:=18) (N:=some 21) #[Tt,Tt,Tt,Tt,Tt,Tt,Tt,Tt,Tt,Tt,Tt,Tt,Tt,Tt,Tt,Tt,Tt,Tt,Tt,Ff,Ff,Ff,Ff,Ff,Ff,Ff,Ff,Ff,Ff,Ff,Ff,Ff,Ff,Ff] ?_
     refine one_ (i:=19) (N:=some 22) #[Tt,Tt,Tt,Tt,Tt,Tt,Tt,Tt,Tt,Tt,Tt,Tt,Tt,Tt,Tt,Tt,Tt,Tt,Tt,Tt,Ff,Ff,Ff,Ff,Ff,Ff,Ff,Ff,Ff,Ff,Ff,Ff,Ff,Ff] rfl rfl (one_of HT_.out (by kernel_rfl)) (by decide) (fun K hK => ?_)
     refine goes_ Tryz.func41 (by kernel_rfl) rfl #[.agg #[.int .i64 a0_0,.int .i64 a0_1,.slice A0_2 l0_2.length c0_2,.slice A0_3 l0_3.length c0_3]] (by rfl) rfl rfl ob_ ?_
     with_reducible refine (impl_Figure_grid.calls a0_0 a0_1 _ _ l0_2 _ _ l0_3 t277 t278 _ ?side1 ?side2 ?side3 ?side4 A8.out).mono ?_
     (case side1 => repeat (first | exact (Kd.C_below HR0_2.out (bl1_ HB.out GE273.out)) | (with_reducible refine Kd.C_alloc ?_ _) | (with_reducible refine Kd.C_drewN ?_ _) | (with_reducible refine Kd.C_drew ?_)))
     (case side2 => exact HC0_2.out)
     (case side3 => repeat (first | exact (Kd.C_below HR0_3.out (bl1_ HB.out GE273.out)) | (with_reducible refine Kd.C_alloc ?_ _) | (with_reducible refine Kd.C_drewN ?_ _) | (with_reducible refine Kd.C_drew ?_)))
     (case side4 => exact HC0_3.out)
     rintro e w17 ⟨rfl,hb⟩
     refine ⟨_,rfl,?_⟩
     have n0_:=am_ (bb_ BK273.out hb)
     have n1_:=am_ (below_step (bl1_ HB.out GE273.out) hb)
     clear BK273
     clear HB
     have BK273:=n0_
     have HB:=n1_
     clear n0_ n1_
     (try clear hb)
     (try clear hb2)
     (try clear hk)
     (try clear hi)
     refine hK.out _ _ ⟨(bc_ BK273.out 0).trans rfl,(bc_ BK273.out 1).trans rfl,(bc_ BK273.out 2).trans rfl,(bc_ BK273.out 3).trans rfl⟩ (fun hHeld => ?_)
     clear hK K
     refine norm_ (a':=_) ap_ ?_
     refine one_ (i:=20) (N:=some 23) #[Tt,Tt,Tt,Tt,Tt,Tt,Tt,Tt,Tt,Tt,Tt,Tt,Tt,Tt,Tt,Tt,Tt,Tt,Tt,Tt,Tt,Ff,Ff,Ff,Ff,Ff,Ff,Ff,Ff,Ff,Ff,Ff,Ff,Ff] rfl rfl (one_of HT_.out (by kernel_rfl)) (by decide) (fun K hK => ?_)
     refine goes_ Tryz.func72 (by kernel_rfl) rfl #[.agg #[.int .i64 t277,.int .i64 t278]] (by rfl) rfl rfl ob_ ?_
     with_reducible refine (impl_grid_levels.calls t277 t278 t279 _ A9.out).mono ?_
     rintro e w18 ⟨rfl,hb⟩
     refine ⟨_,rfl,?_⟩
     have n0_:=am_ (bb_ BK273.out hb)
     have n1_:=am_ (below_step (bl1_ HB.out GE273.out) hb)
     clear BK273
     clear HB
     have BK273:=n0_
     have HB:=n1_
     clear n0_ n1_
     (try clear hb)
     (try clear hb2)
     (try clear hk)
     (try clear hi)
     refine hK.out _ _ ⟨(bc_ BK273.out 0).trans rfl,(bc_ BK273.out 1).trans rfl,(bc_ BK273.out 2).trans rfl,(bc_ BK273.out 3).trans rfl⟩ (fun hHeld => ?_)
     clear hK K
     refine norm_ (a':=_) ap_ ?_
     refine pZ (i:=21) (N:=some 24) #[Tt,Tt,Tt,Tt,Tt,Tt,Tt,Tt,Tt,Tt,Tt,Tt,Tt,Tt,Tt,Tt,Tt,Tt,Tt,Tt,Tt,Tt,Ff,Ff,Ff,Ff,Ff,Ff,Ff,Ff,Ff,Ff,Ff,Ff] ?_
     refine one_ (i:=22) (N:=some 25) #[Tt,Tt,Tt,Tt,Tt,Tt,Tt,Tt,Tt,Tt,Tt,Tt,Tt,Tt,Tt,Tt,Tt,Tt,Tt,Tt,Tt,Tt,Tt,Ff,Ff,Ff,Ff,Ff,Ff,Ff,Ff,Ff,Ff,Ff] rfl rfl (one_of HT_.out (by kernel_rfl)) (by decide) (fun K hK => ?_)
     refine goes_ Tryz.func115 (by kernel_rfl) rfl #[.slice A0_2 l0_2.length c0_2,.int .i64 0,.int .i64 (wrap64 (t279 - 1))] (by rfl) rfl rfl ob_ ?_
     with_reducible refine (impl_areWithin.calls _ _ l0_2 0 (wrap64 (t279 - 1)) true _ ?side1 ?side2 A10.out).mono ?_
     (case side1 => exact kc_ (Kd.C_below HR0_2.out HB.out))
     (case side2 => exact HC0_2.out)
     rintro e w19 ⟨rfl,hb⟩
     refine ⟨_,rfl,?_⟩
     have n0_:=am_ (bb_ BK273.out hb)
     have n1_:=am_ (below_step (bl1_ HB.out GE273.out) hb)
     clear BK273
     clear HB
     have BK273:=n0_
     have HB:=n1_
     clear n0_ n1_
     (try clear hb)
     (try clear hb2)
     (try clear hk)
     (try clear hi)
     refine hK.out _ _ ⟨(bc_ BK273.out 0).trans rfl,(bc_ BK273.out 1).trans rfl,(bc_ BK273.out 2).trans rfl,(bc_ BK273.out 3).trans rfl⟩ (fun hHeld => ?_)
     clear hK K
     refine norm_ (a':=_) ap_ ?_
     refine pZ (i:=23) (N:=some 26) #[Tt,Tt,Tt,Tt,Tt,Tt,Tt,Tt,Tt,Tt,Tt,Tt,Tt,Tt,Tt,Tt,Tt,Tt,Tt,Tt,Tt,Tt,Tt,Tt,Ff,Ff,Ff,Ff,Ff,Ff,Ff,Ff,Ff,Ff] ?_
     refine pZ (i:=24) (N:=some 27) #[Tt,Tt,Tt,Tt,Tt,Tt,Tt,Tt,Tt,Tt,Tt,Tt,Tt,Tt,Tt,Tt,Tt,Tt,Tt,Tt,Tt,Tt,Tt,Tt,Tt,Ff,Ff,Ff,Ff,Ff,Ff,Ff,Ff,Ff] ?_
     refine pZ (i:=25) (N:=some 28) #[Tt,Tt,Tt,Tt,Tt,Tt,Tt,Tt,Tt,Tt,Tt,Tt,Tt,Tt,Tt,Tt,Tt,Tt,Tt,Tt,Tt,Tt,Tt,Tt,Tt,Tt,Ff,Ff,Ff,Ff,Ff,Ff,Ff,Ff] ?_
     refine tZ (i:=26) (N:=some 29) #[Tt,Tt,Tt,Tt,Tt,Tt,Tt,Tt,Tt,Tt,Tt,Tt,Tt,Tt,Tt,Tt,Tt,Tt,Tt,Tt,Tt,Tt,Tt,Tt,Tt,Tt,Tt,Ff,Ff,Ff,Ff,Ff,Ff,Ff] ?_
     refine tZ (i:=27) (N:=some 30) #[Tt,Tt,Tt,Tt,Tt,Tt,Tt,Tt,Tt,Tt,Tt,Tt,Tt,Tt,Tt,Tt,Tt,Tt,Tt,Tt,Tt,Tt,Tt,Tt,Tt,Tt,Tt,Tt,Ff,Ff,Ff,Ff,Ff,Ff] ?_
     refine one_ (i:=28) (N:=some 31) #[Tt,Tt,Tt,Tt,Tt,Tt,Tt,Tt,Tt,Tt,Tt,Tt,Tt,Tt,Tt,Tt,Tt,Tt,Tt,Tt,Tt,Tt,Tt,Tt,Tt,Tt,Tt,Tt,Tt,Ff,Ff,Ff,Ff,Ff] rfl rfl (one_of HT_.out (by kernel_rfl)) (by decide) (fun K hK => ?_)
     refine goes_ Tryz.func41 (by kernel_rfl) rfl #[.agg #[.int .i64 a0_0,.int .i64 a0_1,.slice A0_2 l0_2.length c0_2,.slice A0_3 l0_3.length c0_3]] (by rfl) rfl rfl ob_ ?_
     with_reducible refine (impl_Figure_grid.calls a0_0 a0_1 _ _ l0_2 _ _ l0_3 t281 t282 _ ?side1 ?side2 ?side3 ?side4 A12.out).mono ?_
     (case side1 => exact kc_ (Kd.C_below HR0_2.out HB.out))
     (case side2 => exact HC0_2.out)
     (case side3 => exact kc_ (Kd.C_below HR0_3.out HB.out))
     (case side4 => exact HC0_3.out)
     rintro e w20 ⟨rfl,hb⟩
     refine ⟨_,rfl,?_⟩
     have n0_:=am_ (bb_ BK273.out hb)
     have n1_:=am_ (below_step (bl1_ HB.out GE273.out) hb)
     clear BK273
     clear HB
     have BK273:=n0_
     have HB:=n1_
     clear n0_ n1_
     (try clear hb)
     (try clear hb2)
     (try clear hk)
     (try clear hi)
     refine hK.out _ _ ⟨(bc_ BK273.out 0).trans rfl,(bc_ BK273.out 1).trans rfl,(bc_ BK273.out 2).trans rfl,(bc_ BK273.out 3).trans rfl⟩ (fun hHeld => ?_)
     clear hK K
     refine norm_ (a':=_) ap_ ?_
     refine one_ (i:=29) (N:=some 32) #[Tt,Tt,Tt,Tt,Tt,Tt,Tt,Tt,Tt,Tt,Tt,Tt,Tt,Tt,Tt,Tt,Tt,Tt,Tt,Tt,Tt,Tt,Tt,Tt,Tt,Tt,Tt,Tt,Tt,Tt,Ff,Ff,Ff,Ff] rfl rfl (one_of HT_.out (by kernel_rfl)) (by decide) (fun K hK => ?_)
     refine goes_ Tryz.func108 (by kernel_rfl) rfl #[.agg #[.int .i64 t281,.int .i64 t282]] (by rfl) rfl rfl ob_ ?_
     with_reducible refine (impl_grid_uprights.calls t281 t282 t283 _ A13.out).mono ?_
     rintro e w21 ⟨rfl,hb⟩
     refine ⟨_,rfl,?_⟩
     have n0_:=am_ (bb_ BK273.out hb)
     have n1_:=am_ (below_step (bl1_ HB.out GE273.out) hb)
     clear BK273
     clear HB
     have BK273:=n0_
     have HB:=n1_
     clear n0_ n1_
     (try clear hb)
     (try clear hb2)
     (try clear hk)
     (try clear hi)
     refine hK.out _ _ ⟨(bc_ BK273.out 0).trans rfl,(bc_ BK273.out 1).trans rfl,(bc_ BK273.out 2).trans rfl,(bc_ BK273.out 3).trans rfl⟩ (fun hHeld => ?_)
     clear hK K
     refine norm_ (a':=_) ap_ ?_
     refine pZ (i:=30) (N:=some 33) #[Tt,Tt,Tt,Tt,Tt,Tt,Tt,Tt,Tt,Tt,Tt,Tt,Tt,Tt,Tt,Tt,Tt,Tt,Tt,Tt,Tt,Tt,Tt,Tt,Tt,Tt,Tt,Tt,Tt,Tt,Tt,Ff,Ff,Ff] ?_
     refine one_ (i:=31) (N:=some 34) #[Tt,Tt,Tt,Tt,Tt,Tt,Tt,Tt,Tt,Tt,Tt,Tt,Tt,Tt,Tt,Tt,Tt,Tt,Tt,Tt,Tt,Tt,Tt,Tt,Tt,Tt,Tt,Tt,Tt,Tt,Tt,Tt,Ff,Ff] rfl rfl (one_of HT_.out (by kernel_rfl)) (by decide) (fun K hK => ?_)
     refine goes_ Tryz.func115 (by kernel_rfl) rfl #[.slice A0_3 l0_3.length c0_3,.int .i64 0,.int .i64 (wrap64 (t283 - 1))] (by rfl) rfl rfl ob_ ?_
     with_reducible refine (impl_areWithin.calls _ _ l0_3 0 (wrap64 (t283 - 1)) t284 _ ?side1 ?side2 A14.out).mono ?_
     (case side1 => exact kc_ (Kd.C_below HR0_3.out HB.out))
     (case side2 => exact HC0_3.out)
     rintro e w22 ⟨rfl,hb⟩
     refine ⟨_,rfl,?_⟩
     have n0_:=am_ (bb_ BK273.out hb)
     have n1_:=am_ (below_step (bl1_ HB.out GE273.out) hb)
     clear BK273
     clear HB
     have BK273:=n0_
     have HB:=n1_
     clear n0_ n1_
     (try clear hb)
     (try clear hb2)
     (try clear hk)
     (try clear hi)
     refine hK.out _ _ ⟨(bc_ BK273.out 0).trans rfl,(bc_ BK273.out 1).trans rfl,(bc_ BK273.out 2).trans rfl,(bc_ BK273.out 3).trans rfl⟩ (fun hHeld => ?_)
     clear hK K
     refine norm_ (a':=_) ap_ ?_
     refine pZ (i:=32) (N:=some 35) #[Tt,Tt,Tt,Tt,Tt,Tt,Tt,Tt,Tt,Tt,Tt,Tt,Tt,Tt,Tt,Tt,Tt,Tt,Tt,Tt,Tt,Tt,Tt,Tt,Tt,Tt,Tt,Tt,Tt,Tt,Tt,Tt,Tt,Ff] ?_
     refine pZ (i:=33) (N:=some 2) #[Tt,Tt,Tt,Tt,Tt,Tt,Tt,Tt,Tt,Tt,Tt,Tt,Tt,Tt,Tt,Tt,Tt,Tt,Tt,Tt,Tt,Tt,Tt,Tt,Tt,Tt,Tt,Tt,Tt,Tt,Tt,Tt,Tt,Tt] ?_
     refine done_ (done_of HT_.out (by kernel_rfl)) ?_
     try go_wp2
     go_ret
     exact ⟨er_,bl1_ HB.out GE273.out⟩
    ·replace c11:=Bool.eq_false_iff.mpr c11
     subst c11
     have H1:(some false) = some r:=by rw [if_neg (show ¬ (false = true) by decide)] at H; exact H
     clear H
     have H:=H1
     clear H1
     obtain rfl:=Option.some.inj H
     go_enter Tryz.func88,Tryz.ntmps88
     try go_wp2_with (first | ((with_reducible refine gate_dst (N:=1) rfl ?_); refine boxE_ (N:=1) (cs:=#[.int .i64 a0_0,.int .i64 a0_1,.slice A0_2 l0_2.length c0_2,.slice A0_3 l0_3.length c0_3]) (t:=26) ?_; intro gb273 hg w23 hbox hb; have n0_:=am_ (below_step (bl0_ HB.out) hb); have n1_:=am_ (hbox); have n2_:=am_ ((bs0_ hg HB.out:w.heap.size ≤ gb273)); have n3_:=am_ ((bs0_ hg HB.out:w.heap.size ≤ gb273)); clear HB; have HB:=n0_; have BK273:=n1_; have GW273:=n2_; have GE273:=n3_; clear n0_ n1_ n2_ n3_; clear hb hbox hg))
     have n0_:=am_ (blk_drew BK273.out)
     have n1_:=am_ (below_drew1 HB.out)
     clear BK273
     clear HB
     have BK273:=n0_
     have HB:=n1_
     clear n0_ n1_
     refine start_ (n:=34) (S:=fun w' => w'.cell? ⟨gb273,0,none⟩ = some (.int .i64 a0_0) ∧ w'.cell? ⟨gb273,1,none⟩ = some (.int .i64 a0_1) ∧ w'.cell? ⟨gb273,2,none⟩ = some (.slice A0_2 l0_2.length c0_2) ∧ w'.cell? ⟨gb273,3,none⟩ = some (.slice A0_3 l0_3.length c0_3)) (ds:=[]) #[Ff,Ff,Ff,Ff,Ff,Ff,Ff,Ff,Ff,Ff,Ff,Ff,Ff,Ff,Ff,Ff,Ff,Ff,Ff,Ff,Ff,Ff,Ff,Ff,Ff,Ff,Ff,Ff,Ff,Ff,Ff,Ff,Ff,Ff] (by kernel_rfl) rfl rfl ⟨(bc_ BK273.out 0).trans rfl,(bc_ BK273.out 1).trans rfl,(bc_ BK273.out 2).trans rfl,(bc_ BK273.out 3).trans rfl⟩ (fun hHeld => ?_); refine with_tabW impl_IsFigure.tab1 impl_IsFigure.bits1 (fun HT_ HW_ => ?_)
     generalize w23.drew = w24 at BK273 HB hHeld ⊢
     refine pZ (i:=0) (N:=some 3) #[Tt,Ff,Ff,Ff,Ff,Ff,Ff,Ff,Ff,Ff,Ff,Ff,Ff,Ff,Ff,Ff,Ff,Ff,Ff,Ff,Ff,Ff,Ff,Ff,Ff,Ff,Ff,Ff,Ff,Ff,Ff,Ff,Ff,Ff] ?_
     refine pZ (i:=2) (N:=some 5) #[Tt,Ff,Tt,Ff,Ff,Ff,Ff,Ff,Ff,Ff,Ff,Ff,Ff,Ff,Ff,Ff,Ff,Ff,Ff,Ff,Ff,Ff,Ff,Ff,Ff,Ff,Ff,Ff,Ff,Ff,Ff,Ff,Ff,Ff] ?_
     refine tZ (i:=1) (N:=some 4) #[Tt,Tt,Tt,Ff,Ff,Ff,Ff,Ff,Ff,Ff,Ff,Ff,Ff,Ff,Ff,Ff,Ff,Ff,Ff,Ff,Ff,Ff,Ff,Ff,Ff,Ff,Ff,Ff,Ff,Ff,Ff,Ff,Ff,Ff] ?_
     refine tZ (i:=3) (N:=some 6) #[Tt,Tt,Tt,Tt,Ff,Ff,Ff,Ff,Ff,Ff,Ff,Ff,Ff,Ff,Ff,Ff,Ff,Ff,Ff,Ff,Ff,Ff,Ff,Ff,Ff,Ff,Ff,Ff,Ff,Ff,Ff,Ff,Ff,Ff] ?_
     refine one_ (i:=4) (N:=some 7) #[Tt,Tt,Tt,Tt,Tt,Ff,Ff,Ff,Ff,Ff,Ff,Ff,Ff,Ff,Ff,Ff,Ff,Ff,Ff,Ff,Ff,Ff,Ff,Ff,Ff,Ff,Ff,Ff,Ff,Ff,Ff,Ff,Ff,Ff] rfl rfl (one_of HT_.out (by kernel_rfl)) (by decide) (fun K hK => ?_)
     refine goes_ Tryz.func113 (by kernel_rfl) rfl #[.int .i64 a0_0,.int .i64 a0_1] (by rfl) rfl rfl ob_ ?_
     with_reducible refine (impl_isGrid.calls a0_0 a0_1 true _ A2.out).mono ?_
     rintro e w' ⟨rfl,⟨nd,rfl⟩⟩
     refine ⟨_,rfl,?_⟩
     refine hK.out _ _ ⟨(bc_ BK273.out 0).trans rfl,(bc_ BK273.out 1).trans rfl,(bc_ BK273.out 2).trans rfl,(bc_ BK273.out 3).trans rfl⟩ (fun hHeld => ?_)
     clear hK K
     refine norm_ (a':=_) ap_ ?_
     refine pZ (i:=5) (N:=some 8) #[Tt,Tt,Tt,Tt,Tt,Tt,Ff,Ff,Ff,Ff,Ff,Ff,Ff,Ff,Ff,Ff,Ff,Ff,Ff,Ff,Ff,Ff,Ff,Ff,Ff,Ff,Ff,Ff,Ff,Ff,Ff,Ff,Ff,Ff] ?_
     refine pZ (i:=6) (N:=some 9) #[Tt,Tt,Tt,Tt,Tt,Tt,Tt,Ff,Ff,Ff,Ff,Ff,Ff,Ff,Ff,Ff,Ff,Ff,Ff,Ff,Ff,Ff,Ff,Ff,Ff,Ff,Ff,Ff,Ff,Ff,Ff,Ff,Ff,Ff] ?_
     refine tZ (i:=7) (N:=some 10) #[Tt,Tt,Tt,Tt,Tt,Tt,Tt,Tt,Ff,Ff,Ff,Ff,Ff,Ff,Ff,Ff,Ff,Ff,Ff,Ff,Ff,Ff,Ff,Ff,Ff,Ff,Ff,Ff,Ff,Ff,Ff,Ff,Ff,Ff] ?_
     refine one_ (i:=8) (N:=some 11) #[Tt,Tt,Tt,Tt,Tt,Tt,Tt,Tt,Tt,Ff,Ff,Ff,Ff,Ff,Ff,Ff,Ff,Ff,Ff,Ff,Ff,Ff,Ff,Ff,Ff,Ff,Ff,Ff,Ff,Ff,Ff,Ff,Ff,Ff] rfl rfl (one_of HT_.out (by kernel_rfl)) (by decide) (fun K hK => ?_)
     refine goes_ Tryz.func114 (by kernel_rfl) rfl #[.slice A0_2 l0_2.length c0_2] (by rfl) rfl rfl ob_ ?_
     with_reducible refine (impl_isRising.calls k _ _ l0_2 true _ ?side1 ?side2 A4.out).mono ?_
     (case side1 => repeat (first | exact (Kd.C_below HR0_2.out (bl1_ HB.out GE273.out)) | (with_reducible refine Kd.C_alloc ?_ _) | (with_reducible refine Kd.C_drewN ?_ _) | (with_reducible refine Kd.C_drew ?_)))
     (case side2 => exact HC0_2.out)
     rintro e w' ⟨rfl,⟨nd,rfl⟩⟩
     refine ⟨_,rfl,?_⟩
     refine hK.out _ _ ⟨(bc_ BK273.out 0).trans rfl,(bc_ BK273.out 1).trans rfl,(bc_ BK273.out 2).trans rfl,(bc_ BK273.out 3).trans rfl⟩ (fun hHeld => ?_)
     clear hK K
     refine norm_ (a':=_) ap_ ?_
     refine pZ (i:=9) (N:=some 12) #[Tt,Tt,Tt,Tt,Tt,Tt,Tt,Tt,Tt,Tt,Ff,Ff,Ff,Ff,Ff,Ff,Ff,Ff,Ff,Ff,Ff,Ff,Ff,Ff,Ff,Ff,Ff,Ff,Ff,Ff,Ff,Ff,Ff,Ff] ?_
     refine pZ (i:=10) (N:=some 13) #[Tt,Tt,Tt,Tt,Tt,Tt,Tt,Tt,Tt,Tt,Tt,Ff,Ff,Ff,Ff,Ff,Ff,Ff,Ff,Ff,Ff,Ff,Ff,Ff,Ff,Ff,Ff,Ff,Ff,Ff,Ff,Ff,Ff,Ff] ?_
     refine pZ (i:=11) (N:=some 14) #[Tt,Tt,Tt,Tt,Tt,Tt,Tt,Tt,Tt,Tt,Tt,Tt,Ff,Ff,Ff,Ff,Ff,Ff,Ff,Ff,Ff,Ff,Ff,Ff,Ff,Ff,Ff,Ff,Ff,Ff,Ff,Ff,Ff,Ff] ?_
     refine tZ (i:=12) (N:=some 15) #[Tt,Tt,Tt,Tt,Tt,Tt,Tt,Tt,Tt,Tt,Tt,Tt,Tt,Ff,Ff,Ff,Ff,Ff,Ff,Ff,Ff,Ff,Ff,Ff,Ff,Ff,Ff,Ff,Ff,Ff,Ff,Ff,Ff,Ff] ?_
     refine one_ (i:=13) (N:=some 16) #[Tt,Tt,Tt,Tt,Tt,Tt,Tt,Tt,Tt,Tt,Tt,Tt,Tt,Tt,Ff,Ff,Ff,Ff,Ff,Ff,Ff,Ff,Ff,Ff,Ff,Ff,Ff,Ff,Ff,Ff,Ff,Ff,Ff,Ff] rfl rfl (one_of HT_.out (by kernel_rfl)) (by decide) (fun K hK => ?_)
     refine goes_ Tryz.func114 (by kernel_rfl) rfl #[.slice A0_3 l0_3.length c0_3] (by rfl) rfl rfl ob_ ?_
     with_reducible refine (impl_isRising.calls k _ _ l0_3 true _ ?side1 ?side2 A6.out).mono ?_
     (case side1 => repeat (first | exact (Kd.C_below HR0_3.out (bl1_ HB.out GE273.out)) | (with_reducible refine Kd.C_alloc ?_ _) | (with_reducible refine Kd.C_drewN ?_ _) | (with_reducible refine Kd.C_drew ?_)))
     (case side2 => exact HC0_3.out)
     rintro e w' ⟨rfl,⟨nd,rfl⟩⟩
     refine ⟨_,rfl,?_⟩
     refine hK.out _ _ ⟨(bc_ BK273.out 0).trans rfl,(bc_ BK273.out 1).trans rfl,(bc_ BK273.out 2).trans rfl,(bc_ BK273.out 3).trans rfl⟩ (fun hHeld => ?_)
     clear hK K
     refine norm_ (a':=_) ap_ ?_
     refine pZ (i:=14) (N:=some 17) #[Tt,Tt,Tt,Tt,Tt,Tt,Tt,Tt,Tt,Tt,Tt,Tt,Tt,Tt,Tt,Ff,Ff,Ff,Ff,Ff,Ff,Ff,Ff,Ff,Ff,Ff,Ff,Ff,Ff,Ff,Ff,Ff,Ff,Ff] ?_
     refine pZ (i:=15) (N:=some 18) #[Tt,Tt,Tt,Tt,Tt,Tt,Tt,Tt,Tt,Tt,Tt,Tt,Tt,Tt,Tt,Tt,Ff,Ff,Ff,Ff,Ff,Ff,Ff,Ff,Ff,Ff,Ff,Ff,Ff,Ff,Ff,Ff,Ff,Ff] ?_
     refine pZ (i:=16) (N:=some 19) #[Tt,Tt,Tt,Tt,Tt,Tt,Tt,Tt,Tt,Tt,Tt,Tt,Tt,Tt,Tt,Tt,Tt,Ff,Ff,Ff,Ff,Ff,Ff,Ff,Ff,Ff,Ff,Ff,Ff,Ff,Ff,Ff,Ff,Ff] ?_
     refine tZ (i:=17) (N:=some 20) #[Tt,Tt,Tt,Tt,Tt,Tt,Tt,Tt,Tt,Tt,Tt,Tt,Tt,Tt,Tt,Tt,Tt,Tt,Ff,Ff,Ff,Ff,Ff,Ff,Ff,Ff,Ff,Ff,Ff,Ff,Ff,Ff,Ff,Ff] ?_
     refine tZ (i:=18) (N:=some 21) #[Tt,Tt,Tt,Tt,Tt,Tt,Tt,Tt,Tt,Tt,Tt,Tt,Tt,Tt,Tt,Tt,Tt,Tt,Tt,Ff,Ff,Ff,Ff,Ff,Ff,Ff,Ff,Ff,Ff,Ff,Ff,Ff,Ff,Ff] ?_
     refine one_ (i:=19) (N:=some 22) #[Tt,Tt,Tt,Tt,Tt,Tt,Tt,Tt,Tt,Tt,Tt,Tt,Tt,Tt,Tt,Tt,Tt,Tt,Tt,Tt,Ff,Ff,Ff,Ff,Ff,Ff,Ff,Ff,Ff,Ff,Ff,Ff,Ff,Ff] rfl rfl (one_of HT_.out (by kernel_rfl)) (by decide) (fun K hK => ?_)
     refine goes_ Tryz.func41 (by kernel_rfl) rfl #[.agg #[.int .i64 a0_0,.int .i64 a0_1,.slice A0_2 l0_2.length c0_2,.slice A0_3 l0_3.length c0_3]] (by rfl) rfl rfl ob_ ?_
     with_reducible refine (impl_Figure_grid.calls a0_0 a0_1 _ _ l0_2 _ _ l0_3 t277 t278 _ ?side1 ?side2 ?side3 ?side4 A8.out).mono ?_
     (case side1 => repeat (first | exact (Kd.C_below HR0_2.out (bl1_ HB.out GE273.out)) | (with_reducible refine Kd.C_alloc ?_ _) | (with_reducible refine Kd.C_drewN ?_ _) | (with_reducible refine Kd.C_drew ?_)))
     (case side2 => exact HC0_2.out)
     (case side3 => repeat (first | exact (Kd.C_below HR0_3.out (bl1_ HB.out GE273.out)) | (with_reducible refine Kd.C_alloc ?_ _) | (with_reducible refine Kd.C_drewN ?_ _) | (with_reducible refine Kd.C_drew ?_)))
     (case side4 => exact HC0_3.out)
     rintro e w25 ⟨rfl,hb⟩
     refine ⟨_,rfl,?_⟩
     have n0_:=am_ (bb_ BK273.out hb)
     have n1_:=am_ (below_step (bl1_ HB.out GE273.out) hb)
     clear BK273
     clear HB
     have BK273:=n0_
     have HB:=n1_
     clear n0_ n1_
     (try clear hb)
     (try clear hb2)
     (try clear hk)
     (try clear hi)
     refine hK.out _ _ ⟨(bc_ BK273.out 0).trans rfl,(bc_ BK273.out 1).trans rfl,(bc_ BK273.out 2).trans rfl,(bc_ BK273.out 3).trans rfl⟩ (fun hHeld => ?_)
     clear hK K
     refine norm_ (a':=_) ap_ ?_
     refine one_ (i:=20) (N:=some 23) #[Tt,Tt,Tt,Tt,Tt,Tt,Tt,Tt,Tt,Tt,Tt,Tt,Tt,Tt,Tt,Tt,Tt,Tt,Tt,Tt,Tt,Ff,Ff,Ff,Ff,Ff,Ff,Ff,Ff,Ff,Ff,Ff,Ff,Ff] rfl rfl (one_of HT_.out (by kernel_rfl)) (by decide) (fun K hK => ?_)
     refine goes_ Tryz.func72 (by kernel_rfl) rfl #[.agg #[.int .i64 t277,.int .i64 t278]] (by rfl) rfl rfl ob_ ?_
     with_reducible refine (impl_grid_levels.calls t277 t278 t279 _ A9.out).mono ?_
     rintro e w26 ⟨rfl,hb⟩
     refine ⟨_,rfl,?_⟩
     have n0_:=am_ (bb_ BK273.out hb)
     have n1_:=am_ (below_step (bl1_ HB.out GE273.out) hb)
     clear BK273
     clear HB
     have BK273:=n0_
     have HB:=n1_
     clear n0_ n1_
     (try clear hb)
     (try clear hb2)
     (try clear hk)
     (try clear hi)
     refine hK.out _ _ ⟨(bc_ BK273.out 0).trans rfl,(bc_ BK273.out 1).trans rfl,(bc_ BK273.out 2).trans rfl,(bc_ BK273.out 3).trans rfl⟩ (fun hHeld => ?_)
     clear hK K
     refine norm_ (a':=_) ap_ ?_
     refine pZ (i:=21) (N:=some 24) #[Tt,Tt,Tt,Tt,Tt,Tt,Tt,Tt,Tt,Tt,Tt,Tt,Tt,Tt,Tt,Tt,Tt,Tt,Tt,Tt,Tt,Tt,Ff,Ff,Ff,Ff,Ff,Ff,Ff,Ff,Ff,Ff,Ff,Ff] ?_
     refine one_ (i:=22) (N:=some 25) #[Tt,Tt,Tt,Tt,Tt,Tt,Tt,Tt,Tt,Tt,Tt,Tt,Tt,Tt,Tt,Tt,Tt,Tt,Tt,Tt,Tt,Tt,Tt,Ff,Ff,Ff,Ff,Ff,Ff,Ff,Ff,Ff,Ff,Ff] rfl rfl (one_of HT_.out (by kernel_rfl)) (by decide) (fun K hK => ?_)
     refine goes_ Tryz.func115 (by kernel_rfl) rfl #[.slice A0_2 l0_2.length c0_2,.int .i64 0,.int .i64 (wrap64 (t279 - 1))] (by rfl) rfl rfl ob_ ?_
     with_reducible refine (impl_areWithin.calls _ _ l0_2 0 (wrap64 (t279 - 1)) false _ ?side1 ?side2 A10.out).mono ?_
     (case side1 => exact kc_ (Kd.C_below HR0_2.out HB.out))
     (case side2 => exact HC0_2.out)
     rintro e w27 ⟨rfl,hb⟩
     refine ⟨_,rfl,?_⟩
     have n0_:=am_ (bb_ BK273.out hb)
     have n1_:=am_ (below_step (bl1_ HB.out GE273.out) hb)
     clear BK273
     clear HB
     have BK273:=n0_
     have HB:=n1_
     clear n0_ n1_
     (try clear hb)
     (try clear hb2)
     (try clear hk)
     (try clear hi)
     refine hK.out _ _ ⟨(bc_ BK273.out 0).trans rfl,(bc_ BK273.out 1).trans rfl,(bc_ BK273.out 2).trans rfl,(bc_ BK273.out 3).trans rfl⟩ (fun hHeld => ?_)
     clear hK K
     refine norm_ (a':=_) ap_ ?_
     refine pZ (i:=23) (N:=some 26) #[Tt,Tt,Tt,Tt,Tt,Tt,Tt,Tt,Tt,Tt,Tt,Tt,Tt,Tt,Tt,Tt,Tt,Tt,Tt,Tt,Tt,Tt,Tt,Tt,Ff,Ff,Ff,Ff,Ff,Ff,Ff,Ff,Ff,Ff] ?_
     refine pZ (i:=24) (N:=some 27) #[Tt,Tt,Tt,Tt,Tt,Tt,Tt,Tt,Tt,Tt,Tt,Tt,Tt,Tt,Tt,Tt,Tt,Tt,Tt,Tt,Tt,Tt,Tt,Tt,Tt,Ff,Ff,Ff,Ff,Ff,Ff,Ff,Ff,Ff] ?_
     refine pU (i:=25) (N:=some 28) #[Tt,Tt,Tt,Tt,Tt,Tt,Tt,Tt,Tt,Tt,Tt,Tt,Tt,Tt,Tt,Tt,Tt,Tt,Tt,Tt,Tt,Tt,Tt,Tt,Tt,Tt,Ff,Ff,Ff,Ff,Ff,Ff,Ff,Ff] ?_
     refine pU (i:=26) (N:=some 29) #[Tt,Tt,Tt,Tt,Tt,Tt,Tt,Tt,Tt,Tt,Tt,Tt,Tt,Tt,Tt,Tt,Tt,Tt,Tt,Tt,Tt,Tt,Tt,Tt,Tt,Tt,Tt,Ff,Ff,Ff,Ff,Ff,Ff,Ff] ?_
     refine pU (i:=27) (N:=some 30) #[Tt,Tt,Tt,Tt,Tt,Tt,Tt,Tt,Tt,Tt,Tt,Tt,Tt,Tt,Tt,Tt,Tt,Tt,Tt,Tt,Tt,Tt,Tt,Tt,Tt,Tt,Tt,Tt,Ff,Ff,Ff,Ff,Ff,Ff] ?_
     refine pU (i:=28) (N:=some 31) #[Tt,Tt,Tt,Tt,Tt,Tt,Tt,Tt,Tt,Tt,Tt,Tt,Tt,Tt,Tt,Tt,Tt,Tt,Tt,Tt,Tt,Tt,Tt,Tt,Tt,Tt,Tt,Tt,Tt,Ff,Ff,Ff,Ff,Ff] ?_
     refine pU (i:=29) (N:=some 32) #[Tt,Tt,Tt,Tt,Tt,Tt,Tt,Tt,Tt,Tt,Tt,Tt,Tt,Tt,Tt,Tt,Tt,Tt,Tt,Tt,Tt,Tt,Tt,Tt,Tt,Tt,Tt,Tt,Tt,Tt,Ff,Ff,Ff,Ff] ?_
     refine pU (i:=30) (N:=some 33) #[Tt,Tt,Tt,Tt,Tt,Tt,Tt,Tt,Tt,Tt,Tt,Tt,Tt,Tt,Tt,Tt,Tt,Tt,Tt,Tt,Tt,Tt,Tt,Tt,Tt,Tt,Tt,Tt,Tt,Tt,Tt,Ff,Ff,Ff] ?_
     refine pU (i:=31) (N:=some 34) #[Tt,Tt,Tt,Tt,Tt,Tt,Tt,Tt,Tt,Tt,Tt,Tt,Tt,Tt,Tt,Tt,Tt,Tt,Tt,Tt,Tt,Tt,Tt,Tt,Tt,Tt,Tt,Tt,Tt,Tt,Tt,Tt,Ff,Ff] ?_
     refine pZ (i:=32) (N:=some 35) #[Tt,Tt,Tt,Tt,Tt,Tt,Tt,Tt,Tt,Tt,Tt,Tt,Tt,Tt,Tt,Tt,Tt,Tt,Tt,Tt,Tt,Tt,Tt,Tt,Tt,Tt,Tt,Tt,Tt,Tt,Tt,Tt,Tt,Ff] ?_
     refine pZ (i:=33) (N:=some 2) #[Tt,Tt,Tt,Tt,Tt,Tt,Tt,Tt,Tt,Tt,Tt,Tt,Tt,Tt,Tt,Tt,Tt,Tt,Tt,Tt,Tt,Tt,Tt,Tt,Tt,Tt,Tt,Tt,Tt,Tt,Tt,Tt,Tt,Tt] ?_
     refine done_ (done_of HT_.out (by kernel_rfl)) ?_
     try go_wp2
     go_ret
     exact ⟨er_,bl1_ HB.out GE273.out⟩
   ·replace c7:=Bool.eq_false_iff.mpr c7
    subst c7
    have H1:(some false) = some r:=by rw [if_neg (show ¬ (false = true) by decide)] at H; exact H
    clear H
    have H:=H1
    clear H1
    obtain rfl:=Option.some.inj H
    go_enter Tryz.func88,Tryz.ntmps88
    try go_wp2_with (first | ((with_reducible refine gate_dst (N:=1) rfl ?_); refine boxE_ (N:=1) (cs:=#[.int .i64 a0_0,.int .i64 a0_1,.slice A0_2 l0_2.length c0_2,.slice A0_3 l0_3.length c0_3]) (t:=26) ?_; intro gb273 hg w28 hbox hb; have n0_:=am_ (below_step (bl0_ HB.out) hb); have n1_:=am_ (hbox); have n2_:=am_ ((bs0_ hg HB.out:w.heap.size ≤ gb273)); have n3_:=am_ ((bs0_ hg HB.out:w.heap.size ≤ gb273)); clear HB; have HB:=n0_; have BK273:=n1_; have GW273:=n2_; have GE273:=n3_; clear n0_ n1_ n2_ n3_; clear hb hbox hg))
    have n0_:=am_ (blk_drew BK273.out)
    have n1_:=am_ (below_drew1 HB.out)
    clear BK273
    clear HB
    have BK273:=n0_
    have HB:=n1_
    clear n0_ n1_
    refine start_ (n:=34) (S:=fun w' => w'.cell? ⟨gb273,0,none⟩ = some (.int .i64 a0_0) ∧ w'.cell? ⟨gb273,1,none⟩ = some (.int .i64 a0_1) ∧ w'.cell? ⟨gb273,2,none⟩ = some (.slice A0_2 l0_2.length c0_2) ∧ w'.cell? ⟨gb273,3,none⟩ = some (.slice A0_3 l0_3.length c0_3)) (ds:=[]) #[Ff,Ff,Ff,Ff,Ff,Ff,Ff,Ff,Ff,Ff,Ff,Ff,Ff,Ff,Ff,Ff,Ff,Ff,Ff,Ff,Ff,Ff,Ff,Ff,Ff,Ff,Ff,Ff,Ff,Ff,Ff,Ff,Ff,Ff] (by kernel_rfl) rfl rfl ⟨(bc_ BK273.out 0).trans rfl,(bc_ BK273.out 1).trans rfl,(bc_ BK273.out 2).trans rfl,(bc_ BK273.out 3).trans rfl⟩ (fun hHeld => ?_); refine with_tabW impl_IsFigure.tab1 impl_IsFigure.bits1 (fun HT_ HW_ => ?_)
    generalize w28.drew = w29 at BK273 HB hHeld ⊢
    refine pZ (i:=0) (N:=some 3) #[Tt,Ff,Ff,Ff,Ff,Ff,Ff,Ff,Ff,Ff,Ff,Ff,Ff,Ff,Ff,Ff,Ff,Ff,Ff,Ff,Ff,Ff,Ff,Ff,Ff,Ff,Ff,Ff,Ff,Ff,Ff,Ff,Ff,Ff] ?_
    refine pZ (i:=2) (N:=some 5) #[Tt,Ff,Tt,Ff,Ff,Ff,Ff,Ff,Ff,Ff,Ff,Ff,Ff,Ff,Ff,Ff,Ff,Ff,Ff,Ff,Ff,Ff,Ff,Ff,Ff,Ff,Ff,Ff,Ff,Ff,Ff,Ff,Ff,Ff] ?_
    refine tZ (i:=1) (N:=some 4) #[Tt,Tt,Tt,Ff,Ff,Ff,Ff,Ff,Ff,Ff,Ff,Ff,Ff,Ff,Ff,Ff,Ff,Ff,Ff,Ff,Ff,Ff,Ff,Ff,Ff,Ff,Ff,Ff,Ff,Ff,Ff,Ff,Ff,Ff] ?_
    refine tZ (i:=3) (N:=some 6) #[Tt,Tt,Tt,Tt,Ff,Ff,Ff,Ff,Ff,Ff,Ff,Ff,Ff,Ff,Ff,Ff,Ff,Ff,Ff,Ff,Ff,Ff,Ff,Ff,Ff,Ff,Ff,Ff,Ff,Ff,Ff,Ff,Ff,Ff] ?_
    refine one_ (i:=4) (N:=some 7) #[Tt,Tt,Tt,Tt,Tt,Ff,Ff,Ff,Ff,Ff,Ff,Ff,Ff,Ff,Ff,Ff,Ff,Ff,Ff,Ff,Ff,Ff,Ff,Ff,Ff,Ff,Ff,Ff,Ff,Ff,Ff,Ff,Ff,Ff] rfl rfl (one_of HT_.out (by kernel_rfl)) (by decide) (fun K hK => ?_)
    refine goes_ Tryz.func113 (by kernel_rfl) rfl #[.int .i64 a0_0,.int .i64 a0_1] (by rfl) rfl rfl ob_ ?_
    with_reducible refine (impl_isGrid.calls a0_0 a0_1 true _ A2.out).mono ?_
    rintro e w' ⟨rfl,⟨nd,rfl⟩⟩
    refine ⟨_,rfl,?_⟩
    refine hK.out _ _ ⟨(bc_ BK273.out 0).trans rfl,(bc_ BK273.out 1).trans rfl,(bc_ BK273.out 2).trans rfl,(bc_ BK273.out 3).trans rfl⟩ (fun hHeld => ?_)
    clear hK K
    refine norm_ (a':=_) ap_ ?_
    refine pZ (i:=5) (N:=some 8) #[Tt,Tt,Tt,Tt,Tt,Tt,Ff,Ff,Ff,Ff,Ff,Ff,Ff,Ff,Ff,Ff,Ff,Ff,Ff,Ff,Ff,Ff,Ff,Ff,Ff,Ff,Ff,Ff,Ff,Ff,Ff,Ff,Ff,Ff] ?_
    refine pZ (i:=6) (N:=some 9) #[Tt,Tt,Tt,Tt,Tt,Tt,Tt,Ff,Ff,Ff,Ff,Ff,Ff,Ff,Ff,Ff,Ff,Ff,Ff,Ff,Ff,Ff,Ff,Ff,Ff,Ff,Ff,Ff,Ff,Ff,Ff,Ff,Ff,Ff] ?_
    refine tZ (i:=7) (N:=some 10) #[Tt,Tt,Tt,Tt,Tt,Tt,Tt,Tt,Ff,Ff,Ff,Ff,Ff,Ff,Ff,Ff,Ff,Ff,Ff,Ff,Ff,Ff,Ff,Ff,Ff,Ff,Ff,Ff,Ff,Ff,Ff,Ff,Ff,Ff] ?_
    refine one_ (i:=8) (N:=some 11) #[Tt,Tt,Tt,Tt,Tt,Tt,Tt,Tt,Tt,Ff,Ff,Ff,Ff,Ff,Ff,Ff,Ff,Ff,Ff,Ff,Ff,Ff,Ff,Ff,Ff,Ff,Ff,Ff,Ff,Ff,Ff,Ff,Ff,Ff] rfl rfl (one_of HT_.out (by kernel_rfl)) (by decide) (fun K hK => ?_)
    refine goes_ Tryz.func114 (by kernel_rfl) rfl #[.slice A0_2 l0_2.length c0_2] (by rfl) rfl rfl ob_ ?_
    with_reducible refine (impl_isRising.calls k _ _ l0_2 true _ ?side1 ?side2 A4.out).mono ?_
    (case side1 => repeat (first | exact (Kd.C_below HR0_2.out (bl1_ HB.out GE273.out)) | (with_reducible refine Kd.C_alloc ?_ _) | (with_reducible refine Kd.C_drewN ?_ _) | (with_reducible refine Kd.C_drew ?_)))
    (case side2 => exact HC0_2.out)
    rintro e w' ⟨rfl,⟨nd,rfl⟩⟩
    refine ⟨_,rfl,?_⟩
    refine hK.out _ _ ⟨(bc_ BK273.out 0).trans rfl,(bc_ BK273.out 1).trans rfl,(bc_ BK273.out 2).trans rfl,(bc_ BK273.out 3).trans rfl⟩ (fun hHeld => ?_)
    clear hK K
    refine norm_ (a':=_) ap_ ?_
    refine pZ (i:=9) (N:=some 12) #[Tt,Tt,Tt,Tt,Tt,Tt,Tt,Tt,Tt,Tt,Ff,Ff,Ff,Ff,Ff,Ff,Ff,Ff,Ff,Ff,Ff,Ff,Ff,Ff,Ff,Ff,Ff,Ff,Ff,Ff,Ff,Ff,Ff,Ff] ?_
    refine pZ (i:=10) (N:=some 13) #[Tt,Tt,Tt,Tt,Tt,Tt,Tt,Tt,Tt,Tt,Tt,Ff,Ff,Ff,Ff,Ff,Ff,Ff,Ff,Ff,Ff,Ff,Ff,Ff,Ff,Ff,Ff,Ff,Ff,Ff,Ff,Ff,Ff,Ff] ?_
    refine pZ (i:=11) (N:=some 14) #[Tt,Tt,Tt,Tt,Tt,Tt,Tt,Tt,Tt,Tt,Tt,Tt,Ff,Ff,Ff,Ff,Ff,Ff,Ff,Ff,Ff,Ff,Ff,Ff,Ff,Ff,Ff,Ff,Ff,Ff,Ff,Ff,Ff,Ff] ?_
    refine tZ (i:=12) (N:=some 15) #[Tt,Tt,Tt,Tt,Tt,Tt,Tt,Tt,Tt,Tt,Tt,Tt,Tt,Ff,Ff,Ff,Ff,Ff,Ff,Ff,Ff,Ff,Ff,Ff,Ff,Ff,Ff,Ff,Ff,Ff,Ff,Ff,Ff,Ff] ?_
    refine one_ (i:=13) (N:=some 16) #[Tt,Tt,Tt,Tt,Tt,Tt,Tt,Tt,Tt,Tt,Tt,Tt,Tt,Tt,Ff,Ff,Ff,Ff,Ff,Ff,Ff,Ff,Ff,Ff,Ff,Ff,Ff,Ff,Ff,Ff,Ff,Ff,Ff,Ff] rfl rfl (one_of HT_.out (by kernel_rfl)) (by decide) (fun K hK => ?_)
    refine goes_ Tryz.func114 (by kernel_rfl) rfl #[.slice A0_3 l0_3.length c0_3] (by rfl) rfl rfl ob_ ?_
    with_reducible refine (impl_isRising.calls k _ _ l0_3 false _ ?side1 ?side2 A6.out).mono ?_
    (case side1 => repeat (first | exact (Kd.C_below HR0_3.out (bl1_ HB.out GE273.out)) | (with_reducible refine Kd.C_alloc ?_ _) | (with_reducible refine Kd.C_drewN ?_ _) | (with_reducible refine Kd.C_drew ?_)))
    (case side2 => exact HC0_3.out)
    rintro e w' ⟨rfl,⟨nd,rfl⟩⟩
    refine ⟨_,rfl,?_⟩
    refine hK.out _ _ ⟨(bc_ BK273.out 0).trans rfl,(bc_ BK273.out 1).trans rfl,(bc_ BK273.out 2).trans rfl,(bc_ BK273.out 3).trans rfl⟩ (fun hHeld => ?_)
    clear hK K
    refine norm_ (a':=_) ap_ ?_
    refine pZ (i:=14) (N:=some 17) #[Tt,Tt,Tt,Tt,Tt,Tt,Tt,Tt,Tt,Tt,Tt,Tt,Tt,Tt,Tt,Ff,Ff,Ff,Ff,Ff,Ff,Ff,Ff,Ff,Ff,Ff,Ff,Ff,Ff,Ff,Ff,Ff,Ff,Ff] ?_
    refine pZ (i:=15) (N:=some 18) #[Tt,Tt,Tt,Tt,Tt,Tt,Tt,Tt,Tt,Tt,Tt,Tt,Tt,Tt,Tt,Tt,Ff,Ff,Ff,Ff,Ff,Ff,Ff,Ff,Ff,Ff,Ff,Ff,Ff,Ff,Ff,Ff,Ff,Ff] ?_
    refine pU (i:=16) (N:=some 19) #[Tt,Tt,Tt,Tt,Tt,Tt,Tt,Tt,Tt,Tt,Tt,Tt,Tt,Tt,Tt,Tt,Tt,Ff,Ff,Ff,Ff,Ff,Ff,Ff,Ff,Ff,Ff,Ff,Ff,Ff,Ff,Ff,Ff,Ff] ?_
    refine pU (i:=17) (N:=some 20) #[Tt,Tt,Tt,Tt,Tt,Tt,Tt,Tt,Tt,Tt,Tt,Tt,Tt,Tt,Tt,Tt,Tt,Tt,Ff,Ff,Ff,Ff,Ff,Ff,Ff,Ff,Ff,Ff,Ff,Ff,Ff,Ff,Ff,Ff] ?_
    refine pU (i:=18) (N:=some 21) #[Tt,Tt,Tt,Tt,Tt,Tt,Tt,Tt,Tt,Tt,Tt,Tt,Tt,Tt,Tt,Tt,Tt,Tt,Tt,Ff,Ff,Ff,Ff,Ff,Ff,Ff,Ff,Ff,Ff,Ff,Ff,Ff,Ff,Ff] ?_
    refine pU (i:=19) (N:=some 22) #[Tt,Tt,Tt,Tt,Tt,Tt,Tt,Tt,Tt,Tt,Tt,Tt,Tt,Tt,Tt,Tt,Tt,Tt,Tt,Tt,Ff,Ff,Ff,Ff,Ff,Ff,Ff,Ff,Ff,Ff,Ff,Ff,Ff,Ff] ?_
    refine pU (i:=20) (N:=some 23) #[Tt,Tt,Tt,Tt,Tt,Tt,Tt,Tt,Tt,Tt,Tt,Tt,Tt,Tt,Tt,Tt,Tt,Tt,Tt,Tt,Tt,Ff,Ff,Ff,Ff,Ff,Ff,Ff,Ff,Ff,Ff,Ff,Ff,Ff] ?_
    refine pU (i:=21) (N:=some 24) #[Tt,Tt,Tt,Tt,Tt,Tt,Tt,Tt,Tt,Tt,Tt,Tt,Tt,Tt,Tt,Tt,Tt,Tt,Tt,Tt,Tt,Tt,Ff,Ff,Ff,Ff,Ff,Ff,Ff,Ff,Ff,Ff,Ff,Ff] ?_
    refine pU (i:=22) (N:=some 25) #[Tt,Tt,Tt,Tt,Tt,Tt,Tt,Tt,Tt,Tt,Tt,Tt,Tt,Tt,Tt,Tt,Tt,Tt,Tt,Tt,Tt,Tt,Tt,Ff,Ff,Ff,Ff,Ff,Ff,Ff,Ff,Ff,Ff,Ff] ?_
    refine pZ (i:=23) (N:=some 26) #[Tt,Tt,Tt,Tt,Tt,Tt,Tt,Tt,Tt,Tt,Tt,Tt,Tt,Tt,Tt,Tt,Tt,Tt,Tt,Tt,Tt,Tt,Tt,Tt,Ff,Ff,Ff,Ff,Ff,Ff,Ff,Ff,Ff,Ff] ?_
    refine pZ (i:=24) (N:=some 27) #[Tt,Tt,Tt,Tt,Tt,Tt,Tt,Tt,Tt,Tt,Tt,Tt,Tt,Tt,Tt,Tt,Tt,Tt,Tt,Tt,Tt,Tt,Tt,Tt,Tt,Ff,Ff,Ff,Ff,Ff,Ff,Ff,Ff,Ff] ?_
    refine pU (i:=25) (N:=some 28) #[Tt,Tt,Tt,Tt,Tt,Tt,Tt,Tt,Tt,Tt,Tt,Tt,Tt,Tt,Tt,Tt,Tt,Tt,Tt,Tt,Tt,Tt,Tt,Tt,Tt,Tt,Ff,Ff,Ff,Ff,Ff,Ff,Ff,Ff] ?_
    refine pU (i:=26) (N:=some 29) #[Tt,Tt,Tt,Tt,Tt,Tt,Tt,Tt,Tt,Tt,Tt,Tt,Tt,Tt,Tt,Tt,Tt,Tt,Tt,Tt,Tt,Tt,Tt,Tt,Tt,Tt,Tt,Ff,Ff,Ff,Ff,Ff,Ff,Ff] ?_
    refine pU (i:=27) (N:=some 30) #[Tt,Tt,Tt,Tt,Tt,Tt,Tt,Tt,Tt,Tt,Tt,Tt,Tt,Tt,Tt,Tt,Tt,Tt,Tt,Tt,Tt,Tt,Tt,Tt,Tt,Tt,Tt,Tt,Ff,Ff,Ff,Ff,Ff,Ff] ?_
    refine pU (i:=28) (N:=some 31) #[Tt,Tt,Tt,Tt,Tt,Tt,Tt,Tt,Tt,Tt,Tt,Tt,Tt,Tt,Tt,Tt,Tt,Tt,Tt,Tt,Tt,Tt,Tt,Tt,Tt,Tt,Tt,Tt,Tt,Ff,Ff,Ff,Ff,Ff] ?_
    refine pU (i:=29) (N:=some 32) #[Tt,Tt,Tt,Tt,Tt,Tt,Tt,Tt,Tt,Tt,Tt,Tt,Tt,Tt,Tt,Tt,Tt,Tt,Tt,Tt,Tt,Tt,Tt,Tt,Tt,Tt,Tt,Tt,Tt,Tt,Ff,Ff,Ff,Ff] ?_
    refine pU (i:=30) (N:=some 33) #[Tt,Tt,Tt,Tt,Tt,Tt,Tt,Tt,Tt,Tt,Tt,Tt,Tt,Tt,Tt,Tt,Tt,Tt,Tt,Tt,Tt,Tt,Tt,Tt,Tt,Tt,Tt,Tt,Tt,Tt,Tt,Ff,Ff,Ff] ?_
    refine pU (i:=31) (N:=some 34) #[Tt,Tt,Tt,Tt,Tt,Tt,Tt,Tt,Tt,Tt,Tt,Tt,Tt,Tt,Tt,Tt,Tt,Tt,Tt,Tt,Tt,Tt,Tt,Tt,Tt,Tt,Tt,Tt,Tt,Tt,Tt,Tt,Ff,Ff] ?_
    refine pZ (i:=32) (N:=some 35) #[Tt,Tt,Tt,Tt,Tt,Tt,Tt,Tt,Tt,Tt,Tt,Tt,Tt,Tt,Tt,Tt,Tt,Tt,Tt,Tt,Tt,Tt,Tt,Tt,Tt,Tt,Tt,Tt,Tt,Tt,Tt,Tt,Tt,Ff] ?_
    refine pZ (i:=33) (N:=some 2) #[Tt,Tt,Tt,Tt,Tt,Tt,Tt,Tt,Tt,Tt,Tt,Tt,Tt,Tt,Tt,Tt,Tt,Tt,Tt,Tt,Tt,Tt,Tt,Tt,Tt,Tt,Tt,Tt,Tt,Tt,Tt,Tt,Tt,Tt] ?_
    refine done_ (done_of HT_.out (by kernel_rfl)) ?_
    try go_wp2
    go_ret
    exact ⟨er_,bl1_ HB.out GE273.out⟩
  ·replace c5:=Bool.eq_false_iff.mpr c5
   subst c5
   have H1:(some false) = some r:=by rw [if_neg (show ¬ (false = true) by decide)] at H; exact H
   clear H
   have H:=H1
   clear H1
   obtain rfl:=Option.some.inj H
   go_enter Tryz.func88,Tryz.ntmps88
   try go_wp2_with (first | ((with_reducible refine gate_dst (N:=1) rfl ?_); refine boxE_ (N:=1) (cs:=#[.int .i64 a0_0,.int .i64 a0_1,.slice A0_2 l0_2.length c0_2,.slice A0_3 l0_3.length c0_3]) (t:=26) ?_; intro gb273 hg w30 hbox hb; have n0_:=am_ (below_step (bl0_ HB.out) hb); have n1_:=am_ (hbox); have n2_:=am_ ((bs0_ hg HB.out:w.heap.size ≤ gb273)); have n3_:=am_ ((bs0_ hg HB.out:w.heap.size ≤ gb273)); clear HB; have HB:=n0_; have BK273:=n1_; have GW273:=n2_; have GE273:=n3_; clear n0_ n1_ n2_ n3_; clear hb hbox hg))
   have n0_:=am_ (blk_drew BK273.out)
   have n1_:=am_ (below_drew1 HB.out)
   clear BK273
   clear HB
   have BK273:=n0_
   have HB:=n1_
   clear n0_ n1_
   refine start_ (n:=34) (S:=fun w' => w'.cell? ⟨gb273,0,none⟩ = some (.int .i64 a0_0) ∧ w'.cell? ⟨gb273,1,none⟩ = some (.int .i64 a0_1) ∧ w'.cell? ⟨gb273,2,none⟩ = some (.slice A0_2 l0_2.length c0_2) ∧ w'.cell? ⟨gb273,3,none⟩ = some (.slice A0_3 l0_3.length c0_3)) (ds:=[]) #[Ff,Ff,Ff,Ff,Ff,Ff,Ff,Ff,Ff,Ff,Ff,Ff,Ff,Ff,Ff,Ff,Ff,Ff,Ff,Ff,Ff,Ff,Ff,Ff,Ff,Ff,Ff,Ff,Ff,Ff,Ff,Ff,Ff,Ff] (by kernel_rfl) rfl rfl ⟨(bc_ BK273.out 0).trans rfl,(bc_ BK273.out 1).trans rfl,(bc_ BK273.out 2).trans rfl,(bc_ BK273.out 3).trans rfl⟩ (fun hHeld => ?_); refine with_tabW impl_IsFigure.tab1 impl_IsFigure.bits1 (fun HT_ HW_ => ?_)
   generalize w30.drew = w31 at BK273 HB hHeld ⊢
   refine pZ (i:=0) (N:=some 3) #[Tt,Ff,Ff,Ff,Ff,Ff,Ff,Ff,Ff,Ff,Ff,Ff,Ff,Ff,Ff,Ff,Ff,Ff,Ff,Ff,Ff,Ff,Ff,Ff,Ff,Ff,Ff,Ff,Ff,Ff,Ff,Ff,Ff,Ff] ?_
   refine pZ (i:=2) (N:=some 5) #[Tt,Ff,Tt,Ff,Ff,Ff,Ff,Ff,Ff,Ff,Ff,Ff,Ff,Ff,Ff,Ff,Ff,Ff,Ff,Ff,Ff,Ff,Ff,Ff,Ff,Ff,Ff,Ff,Ff,Ff,Ff,Ff,Ff,Ff] ?_
   refine tZ (i:=1) (N:=some 4) #[Tt,Tt,Tt,Ff,Ff,Ff,Ff,Ff,Ff,Ff,Ff,Ff,Ff,Ff,Ff,Ff,Ff,Ff,Ff,Ff,Ff,Ff,Ff,Ff,Ff,Ff,Ff,Ff,Ff,Ff,Ff,Ff,Ff,Ff] ?_
   refine tZ (i:=3) (N:=some 6) #[Tt,Tt,Tt,Tt,Ff,Ff,Ff,Ff,Ff,Ff,Ff,Ff,Ff,Ff,Ff,Ff,Ff,Ff,Ff,Ff,Ff,Ff,Ff,Ff,Ff,Ff,Ff,Ff,Ff,Ff,Ff,Ff,Ff,Ff] ?_
   refine one_ (i:=4) (N:=some 7) #[Tt,Tt,Tt,Tt,Tt,Ff,Ff,Ff,Ff,Ff,Ff,Ff,Ff,Ff,Ff,Ff,Ff,Ff,Ff,Ff,Ff,Ff,Ff,Ff,Ff,Ff,Ff,Ff,Ff,Ff,Ff,Ff,Ff,Ff] rfl rfl (one_of HT_.out (by kernel_rfl)) (by decide) (fun K hK => ?_)
   refine goes_ Tryz.func113 (by kernel_rfl) rfl #[.int .i64 a0_0,.int .i64 a0_1] (by rfl) rfl rfl ob_ ?_
   with_reducible refine (impl_isGrid.calls a0_0 a0_1 true _ A2.out).mono ?_
   rintro e w' ⟨rfl,⟨nd,rfl⟩⟩
   refine ⟨_,rfl,?_⟩
   refine hK.out _ _ ⟨(bc_ BK273.out 0).trans rfl,(bc_ BK273.out 1).trans rfl,(bc_ BK273.out 2).trans rfl,(bc_ BK273.out 3).trans rfl⟩ (fun hHeld => ?_)
   clear hK K
   refine norm_ (a':=_) ap_ ?_
   refine pZ (i:=5) (N:=some 8) #[Tt,Tt,Tt,Tt,Tt,Tt,Ff,Ff,Ff,Ff,Ff,Ff,Ff,Ff,Ff,Ff,Ff,Ff,Ff,Ff,Ff,Ff,Ff,Ff,Ff,Ff,Ff,Ff,Ff,Ff,Ff,Ff,Ff,Ff] ?_
   refine pZ (i:=6) (N:=some 9) #[Tt,Tt,Tt,Tt,Tt,Tt,Tt,Ff,Ff,Ff,Ff,Ff,Ff,Ff,Ff,Ff,Ff,Ff,Ff,Ff,Ff,Ff,Ff,Ff,Ff,Ff,Ff,Ff,Ff,Ff,Ff,Ff,Ff,Ff] ?_
   refine tZ (i:=7) (N:=some 10) #[Tt,Tt,Tt,Tt,Tt,Tt,Tt,Tt,Ff,Ff,Ff,Ff,Ff,Ff,Ff,Ff,Ff,Ff,Ff,Ff,Ff,Ff,Ff,Ff,Ff,Ff,Ff,Ff,Ff,Ff,Ff,Ff,Ff,Ff] ?_
   refine one_ (i:=8) (N:=some 11) #[Tt,Tt,Tt,Tt,Tt,Tt,Tt,Tt,Tt,Ff,Ff,Ff,Ff,Ff,Ff,Ff,Ff,Ff,Ff,Ff,Ff,Ff,Ff,Ff,Ff,Ff,Ff,Ff,Ff,Ff,Ff,Ff,Ff,Ff] rfl rfl (one_of HT_.out (by kernel_rfl)) (by decide) (fun K hK => ?_)
   refine goes_ Tryz.func114 (by kernel_rfl) rfl #[.slice A0_2 l0_2.length c0_2] (by rfl) rfl rfl ob_ ?_
   with_reducible refine (impl_isRising.calls k _ _ l0_2 false _ ?side1 ?side2 A4.out).mono ?_
   (case side1 => repeat (first | exact (Kd.C_below HR0_2.out (bl1_ HB.out GE273.out)) | (with_reducible refine Kd.C_alloc ?_ _) | (with_reducible refine Kd.C_drewN ?_ _) | (with_reducible refine Kd.C_drew ?_)))
   (case side2 => exact HC0_2.out)
   rintro e w' ⟨rfl,⟨nd,rfl⟩⟩
   refine ⟨_,rfl,?_⟩
   refine hK.out _ _ ⟨(bc_ BK273.out 0).trans rfl,(bc_ BK273.out 1).trans rfl,(bc_ BK273.out 2).trans rfl,(bc_ BK273.out 3).trans rfl⟩ (fun hHeld => ?_)
   clear hK K
   refine norm_ (a':=_) ap_ ?_
   refine pZ (i:=9) (N:=some 12) #[Tt,Tt,Tt,Tt,Tt,Tt,Tt,Tt,Tt,Tt,Ff,Ff,Ff,Ff,Ff,Ff,Ff,Ff,Ff,Ff,Ff,Ff,Ff,Ff,Ff,Ff,Ff,Ff,Ff,Ff,Ff,Ff,Ff,Ff] ?_
   refine pZ (i:=10) (N:=some 13) #[Tt,Tt,Tt,Tt,Tt,Tt,Tt,Tt,Tt,Tt,Tt,Ff,Ff,Ff,Ff,Ff,Ff,Ff,Ff,Ff,Ff,Ff,Ff,Ff,Ff,Ff,Ff,Ff,Ff,Ff,Ff,Ff,Ff,Ff] ?_
   refine pU (i:=11) (N:=some 14) #[Tt,Tt,Tt,Tt,Tt,Tt,Tt,Tt,Tt,Tt,Tt,Tt,Ff,Ff,Ff,Ff,Ff,Ff,Ff,Ff,Ff,Ff,Ff,Ff,Ff,Ff,Ff,Ff,Ff,Ff,Ff,Ff,Ff,Ff] ?_
   refine pU (i:=12) (N:=some 15) #[Tt,Tt,Tt,Tt,Tt,Tt,Tt,Tt,Tt,Tt,Tt,Tt,Tt,Ff,Ff,Ff,Ff,Ff,Ff,Ff,Ff,Ff,Ff,Ff,Ff,Ff,Ff,Ff,Ff,Ff,Ff,Ff,Ff,Ff] ?_
   refine pU (i:=13) (N:=some 16) #[Tt,Tt,Tt,Tt,Tt,Tt,Tt,Tt,Tt,Tt,Tt,Tt,Tt,Tt,Ff,Ff,Ff,Ff,Ff,Ff,Ff,Ff,Ff,Ff,Ff,Ff,Ff,Ff,Ff,Ff,Ff,Ff,Ff,Ff] ?_
   refine pZ (i:=14) (N:=some 17) #[Tt,Tt,Tt,Tt,Tt,Tt,Tt,Tt,Tt,Tt,Tt,Tt,Tt,Tt,Tt,Ff,Ff,Ff,Ff,Ff,Ff,Ff,Ff,Ff,Ff,Ff,Ff,Ff,Ff,Ff,Ff,Ff,Ff,Ff] ?_
   refine pZ (i:=15) (N:=some 18) #[Tt,Tt,Tt,Tt,Tt,Tt,Tt,Tt,Tt,Tt,Tt,Tt,Tt,Tt,Tt,Tt,Ff,Ff,Ff,Ff,Ff,Ff,Ff,Ff,Ff,Ff,Ff,Ff,Ff,Ff,Ff,Ff,Ff,Ff] ?_
   refine pU (i:=16) (N:=some 19) #[Tt,Tt,Tt,Tt,Tt,Tt,Tt,Tt,Tt,Tt,Tt,Tt,Tt,Tt,Tt,Tt,Tt,Ff,Ff,Ff,Ff,Ff,Ff,Ff,Ff,Ff,Ff,Ff,Ff,Ff,Ff,Ff,Ff,Ff] ?_
   refine pU (i:=17) (N:=some 20) #[Tt,Tt,Tt,Tt,Tt,Tt,Tt,Tt,Tt,Tt,Tt,Tt,Tt,Tt,Tt,Tt,Tt,Tt,Ff,Ff,Ff,Ff,Ff,Ff,Ff,Ff,Ff,Ff,Ff,Ff,Ff,Ff,Ff,Ff] ?_
   refine pU (i:=18) (N:=some 21) #[Tt,Tt,Tt,Tt,Tt,Tt,Tt,Tt,Tt,Tt,Tt,Tt,Tt,Tt,Tt,Tt,Tt,Tt,Tt,Ff,Ff,Ff,Ff,Ff,Ff,Ff,Ff,Ff,Ff,Ff,Ff,Ff,Ff,Ff] ?_
   refine pU (i:=19) (N:=some 22) #[Tt,Tt,Tt,Tt,Tt,Tt,Tt,Tt,Tt,Tt,Tt,Tt,Tt,Tt,Tt,Tt,Tt,Tt,Tt,Tt,Ff,Ff,Ff,Ff,Ff,Ff,Ff,Ff,Ff,Ff,Ff,Ff,Ff,Ff] ?_
   refine pU (i:=20) (N:=some 23) #[Tt,Tt,Tt,Tt,Tt,Tt,Tt,Tt,Tt,Tt,Tt,Tt,Tt,Tt,Tt,Tt,Tt,Tt,Tt,Tt,Tt,Ff,Ff,Ff,Ff,Ff,Ff,Ff,Ff,Ff,Ff,Ff,Ff,Ff] ?_
   refine pU (i:=21) (N:=some 24) #[Tt,Tt,Tt,Tt,Tt,Tt,Tt,Tt,Tt,Tt,Tt,Tt,Tt,Tt,Tt,Tt,Tt,Tt,Tt,Tt,Tt,Tt,Ff,Ff,Ff,Ff,Ff,Ff,Ff,Ff,Ff,Ff,Ff,Ff] ?_
   refine pU (i:=22) (N:=some 25) #[Tt,Tt,Tt,Tt,Tt,Tt,Tt,Tt,Tt,Tt,Tt,Tt,Tt,Tt,Tt,Tt,Tt,Tt,Tt,Tt,Tt,Tt,Tt,Ff,Ff,Ff,Ff,Ff,Ff,Ff,Ff,Ff,Ff,Ff] ?_
   refine pZ (i:=23) (N:=some 26) #[Tt,Tt,Tt,Tt,Tt,Tt,Tt,Tt,Tt,Tt,Tt,Tt,Tt,Tt,Tt,Tt,Tt,Tt,Tt,Tt,Tt,Tt,Tt,Tt,Ff,Ff,Ff,Ff,Ff,Ff,Ff,Ff,Ff,Ff] ?_
   refine pZ (i:=24) (N:=some 27) #[Tt,Tt,Tt,Tt,Tt,Tt,Tt,Tt,Tt,Tt,Tt,Tt,Tt,Tt,Tt,Tt,Tt,Tt,Tt,Tt,Tt,Tt,Tt,Tt,Tt,Ff,Ff,Ff,Ff,Ff,Ff,Ff,Ff,Ff] ?_
   refine pU (i:=25) (N:=some 28) #[Tt,Tt,Tt,Tt,Tt,Tt,Tt,Tt,Tt,Tt,Tt,Tt,Tt,Tt,Tt,Tt,Tt,Tt,Tt,Tt,Tt,Tt,Tt,Tt,Tt,Tt,Ff,Ff,Ff,Ff,Ff,Ff,Ff,Ff] ?_
   refine pU (i:=26) (N:=some 29) #[Tt,Tt,Tt,Tt,Tt,Tt,Tt,Tt,Tt,Tt,Tt,Tt,Tt,Tt,Tt,Tt,Tt,Tt,Tt,Tt,Tt,Tt,Tt,Tt,Tt,Tt,Tt,Ff,Ff,Ff,Ff,Ff,Ff,Ff] ?_
   refine pU (i:=27) (N:=some 30) #[Tt,Tt,Tt,Tt,Tt,Tt,Tt,Tt,Tt,Tt,Tt,Tt,Tt,Tt,Tt,Tt,Tt,Tt,Tt,Tt,Tt,Tt,Tt,Tt,Tt,Tt,Tt,Tt,Ff,Ff,Ff,Ff,Ff,Ff] ?_
   refine pU (i:=28) (N:=some 31) #[Tt,Tt,Tt,Tt,Tt,Tt,Tt,Tt,Tt,Tt,Tt,Tt,Tt,Tt,Tt,Tt,Tt,Tt,Tt,Tt,Tt,Tt,Tt,Tt,Tt,Tt,Tt,Tt,Tt,Ff,Ff,Ff,Ff,Ff] ?_
   refine pU (i:=29) (N:=some 32) #[Tt,Tt,Tt,Tt,Tt,Tt,Tt,Tt,Tt,Tt,Tt,Tt,Tt,Tt,Tt,Tt,Tt,Tt,Tt,Tt,Tt,Tt,Tt,Tt,Tt,Tt,Tt,Tt,Tt,Tt,Ff,Ff,Ff,Ff] ?_
   refine pU (i:=30) (N:=some 33) #[Tt,Tt,Tt,Tt,Tt,Tt,Tt,Tt,Tt,Tt,Tt,Tt,Tt,Tt,Tt,Tt,Tt,Tt,Tt,Tt,Tt,Tt,Tt,Tt,Tt,Tt,Tt,Tt,Tt,Tt,Tt,Ff,Ff,Ff] ?_
   refine pU (i:=31) (N:=some 34) #[Tt,Tt,Tt,Tt,Tt,Tt,Tt,Tt,Tt,Tt,Tt,Tt,Tt,Tt,Tt,Tt,Tt,Tt,Tt,Tt,Tt,Tt,Tt,Tt,Tt,Tt,Tt,Tt,Tt,Tt,Tt,Tt,Ff,Ff] ?_
   refine pZ (i:=32) (N:=some 35) #[Tt,Tt,Tt,Tt,Tt,Tt,Tt,Tt,Tt,Tt,Tt,Tt,Tt,Tt,Tt,Tt,Tt,Tt,Tt,Tt,Tt,Tt,Tt,Tt,Tt,Tt,Tt,Tt,Tt,Tt,Tt,Tt,Tt,Ff] ?_
   refine pZ (i:=33) (N:=some 2) #[Tt,Tt,Tt,Tt,Tt,Tt,Tt,Tt,Tt,Tt,Tt,Tt,Tt,Tt,Tt,Tt,Tt,Tt,Tt,Tt,Tt,Tt,Tt,Tt,Tt,Tt,Tt,Tt,Tt,Tt,Tt,Tt,Tt,Tt] ?_
   refine done_ (done_of HT_.out (by kernel_rfl)) ?_
   try go_wp2
   go_ret
   exact ⟨er_,bl1_ HB.out GE273.out⟩
 ·replace c3:=Bool.eq_false_iff.mpr c3
  subst c3
  have H1:(some false) = some r:=by rw [if_neg (show ¬ (false = true) by decide)] at H; exact H
  clear H
  have H:=H1
  clear H1
  obtain rfl:=Option.some.inj H
  go_enter Tryz.func88,Tryz.ntmps88
  try go_wp2_with (first | ((with_reducible refine gate_dst (N:=1) rfl ?_); refine boxE_ (N:=1) (cs:=#[.int .i64 a0_0,.int .i64 a0_1,.slice A0_2 l0_2.length c0_2,.slice A0_3 l0_3.length c0_3]) (t:=26) ?_; intro gb273 hg w32 hbox hb; have n0_:=am_ (below_step (bl0_ HB.out) hb); have n1_:=am_ (hbox); have n2_:=am_ ((bs0_ hg HB.out:w.heap.size ≤ gb273)); have n3_:=am_ ((bs0_ hg HB.out:w.heap.size ≤ gb273)); clear HB; have HB:=n0_; have BK273:=n1_; have GW273:=n2_; have GE273:=n3_; clear n0_ n1_ n2_ n3_; clear hb hbox hg))
  have n0_:=am_ (blk_drew BK273.out)
  have n1_:=am_ (below_drew1 HB.out)
  clear BK273
  clear HB
  have BK273:=n0_
  have HB:=n1_
  clear n0_ n1_
  refine start_ (n:=34) (S:=fun w' => w'.cell? ⟨gb273,0,none⟩ = some (.int .i64 a0_0) ∧ w'.cell? ⟨gb273,1,none⟩ = some (.int .i64 a0_1) ∧ w'.cell? ⟨gb273,2,none⟩ = some (.slice A0_2 l0_2.length c0_2) ∧ w'.cell? ⟨gb273,3,none⟩ = some (.slice A0_3 l0_3.length c0_3)) (ds:=[]) #[Ff,Ff,Ff,Ff,Ff,Ff,Ff,Ff,Ff,Ff,Ff,Ff,Ff,Ff,Ff,Ff,Ff,Ff,Ff,Ff,Ff,Ff,Ff,Ff,Ff,Ff,Ff,Ff,Ff,Ff,Ff,Ff,Ff,Ff] (by kernel_rfl) rfl rfl ⟨(bc_ BK273.out 0).trans rfl,(bc_ BK273.out 1).trans rfl,(bc_ BK273.out 2).trans rfl,(bc_ BK273.out 3).trans rfl⟩ (fun hHeld => ?_); refine with_tabW impl_IsFigure.tab1 impl_IsFigure.bits1 (fun HT_ HW_ => ?_)
  generalize w32.drew = w33 at BK273 HB hHeld ⊢
  refine pZ (i:=0) (N:=some 3) #[Tt,Ff,Ff,Ff,Ff,Ff,Ff,Ff,Ff,Ff,Ff,Ff,Ff,Ff,Ff,Ff,Ff,Ff,Ff,Ff,Ff,Ff,Ff,Ff,Ff,Ff,Ff,Ff,Ff,Ff,Ff,Ff,Ff,Ff] ?_
  refine pZ (i:=2) (N:=some 5) #[Tt,Ff,Tt,Ff,Ff,Ff,Ff,Ff,Ff,Ff,Ff,Ff,Ff,Ff,Ff,Ff,Ff,Ff,Ff,Ff,Ff,Ff,Ff,Ff,Ff,Ff,Ff,Ff,Ff,Ff,Ff,Ff,Ff,Ff] ?_
  refine tZ (i:=1) (N:=some 4) #[Tt,Tt,Tt,Ff,Ff,Ff,Ff,Ff,Ff,Ff,Ff,Ff,Ff,Ff,Ff,Ff,Ff,Ff,Ff,Ff,Ff,Ff,Ff,Ff,Ff,Ff,Ff,Ff,Ff,Ff,Ff,Ff,Ff,Ff] ?_
  refine tZ (i:=3) (N:=some 6) #[Tt,Tt,Tt,Tt,Ff,Ff,Ff,Ff,Ff,Ff,Ff,Ff,Ff,Ff,Ff,Ff,Ff,Ff,Ff,Ff,Ff,Ff,Ff,Ff,Ff,Ff,Ff,Ff,Ff,Ff,Ff,Ff,Ff,Ff] ?_
  refine one_ (i:=4) (N:=some 7) #[Tt,Tt,Tt,Tt,Tt,Ff,Ff,Ff,Ff,Ff,Ff,Ff,Ff,Ff,Ff,Ff,Ff,Ff,Ff,Ff,Ff,Ff,Ff,Ff,Ff,Ff,Ff,Ff,Ff,Ff,Ff,Ff,Ff,Ff] rfl rfl (one_of HT_.out (by kernel_rfl)) (by decide) (fun K hK => ?_)
  refine goes_ Tryz.func113 (by kernel_rfl) rfl #[.int .i64 a0_0,.int .i64 a0_1] (by rfl) rfl rfl ob_ ?_
  with_reducible refine (impl_isGrid.calls a0_0 a0_1 false _ A2.out).mono ?_
  rintro e w' ⟨rfl,⟨nd,rfl⟩⟩
  refine ⟨_,rfl,?_⟩
  refine hK.out _ _ ⟨(bc_ BK273.out 0).trans rfl,(bc_ BK273.out 1).trans rfl,(bc_ BK273.out 2).trans rfl,(bc_ BK273.out 3).trans rfl⟩ (fun hHeld => ?_)
  clear hK K
  refine norm_ (a':=_) ap_ ?_
  refine pZ (i:=5) (N:=some 8) #[Tt,Tt,Tt,Tt,Tt,Tt,Ff,Ff,Ff,Ff,Ff,Ff,Ff,Ff,Ff,Ff,Ff,Ff,Ff,Ff,Ff,Ff,Ff,Ff,Ff,Ff,Ff,Ff,Ff,Ff,Ff,Ff,Ff,Ff] ?_
  refine pU (i:=6) (N:=some 9) #[Tt,Tt,Tt,Tt,Tt,Tt,Tt,Ff,Ff,Ff,Ff,Ff,Ff,Ff,Ff,Ff,Ff,Ff,Ff,Ff,Ff,Ff,Ff,Ff,Ff,Ff,Ff,Ff,Ff,Ff,Ff,Ff,Ff,Ff] ?_
  refine pU (i:=7) (N:=some 10) #[Tt,Tt,Tt,Tt,Tt,Tt,Tt,Tt,Ff,Ff,Ff,Ff,Ff,Ff,Ff,Ff,Ff,Ff,Ff,Ff,Ff,Ff,Ff,Ff,Ff,Ff,Ff,Ff,Ff,Ff,Ff,Ff,Ff,Ff] ?_
  refine pU (i:=8) (N:=some 11) #[Tt,Tt,Tt,Tt,Tt,Tt,Tt,Tt,Tt,Ff,Ff,Ff,Ff,Ff,Ff,Ff,Ff,Ff,Ff,Ff,Ff,Ff,Ff,Ff,Ff,Ff,Ff,Ff,Ff,Ff,Ff,Ff,Ff,Ff] ?_
  refine pZ (i:=9) (N:=some 12) #[Tt,Tt,Tt,Tt,Tt,Tt,Tt,Tt,Tt,Tt,Ff,Ff,Ff,Ff,Ff,Ff,Ff,Ff,Ff,Ff,Ff,Ff,Ff,Ff,Ff,Ff,Ff,Ff,Ff,Ff,Ff,Ff,Ff,Ff] ?_
  refine pZ (i:=10) (N:=some 13) #[Tt,Tt,Tt,Tt,Tt,Tt,Tt,Tt,Tt,Tt,Tt,Ff,Ff,Ff,Ff,Ff,Ff,Ff,Ff,Ff,Ff,Ff,Ff,Ff,Ff,Ff,Ff,Ff,Ff,Ff,Ff,Ff,Ff,Ff] ?_
  refine pU (i:=11) (N:=some 14) #[Tt,Tt,Tt,Tt,Tt,Tt,Tt,Tt,Tt,Tt,Tt,Tt,Ff,Ff,Ff,Ff,Ff,Ff,Ff,Ff,Ff,Ff,Ff,Ff,Ff,Ff,Ff,Ff,Ff,Ff,Ff,Ff,Ff,Ff] ?_
  refine pU (i:=12) (N:=some 15) #[Tt,Tt,Tt,Tt,Tt,Tt,Tt,Tt,Tt,Tt,Tt,Tt,Tt,Ff,Ff,Ff,Ff,Ff,Ff,Ff,Ff,Ff,Ff,Ff,Ff,Ff,Ff,Ff,Ff,Ff,Ff,Ff,Ff,Ff] ?_
  refine pU (i:=13) (N:=some 16) #[Tt,Tt,Tt,Tt,Tt,Tt,Tt,Tt,Tt,Tt,Tt,Tt,Tt,Tt,Ff,Ff,Ff,Ff,Ff,Ff,Ff,Ff,Ff,Ff,Ff,Ff,Ff,Ff,Ff,Ff,Ff,Ff,Ff,Ff] ?_
  refine pZ (i:=14) (N:=some 17) #[Tt,Tt,Tt,Tt,Tt,Tt,Tt,Tt,Tt,Tt,Tt,Tt,Tt,Tt,Tt,Ff,Ff,Ff,Ff,Ff,Ff,Ff,Ff,Ff,Ff,Ff,Ff,Ff,Ff,Ff,Ff,Ff,Ff,Ff] ?_
  refine pZ (i:=15) (N:=some 18) #[Tt,Tt,Tt,Tt,Tt,Tt,Tt,Tt,Tt,Tt,Tt,Tt,Tt,Tt,Tt,Tt,Ff,Ff,Ff,Ff,Ff,Ff,Ff,Ff,Ff,Ff,Ff,Ff,Ff,Ff,Ff,Ff,Ff,Ff] ?_
  refine pU (i:=16) (N:=some 19) #[Tt,Tt,Tt,Tt,Tt,Tt,Tt,Tt,Tt,Tt,Tt,Tt,Tt,Tt,Tt,Tt,Tt,Ff,Ff,Ff,Ff,Ff,Ff,Ff,Ff,Ff,Ff,Ff,Ff,Ff,Ff,Ff,Ff,Ff] ?_
  refine pU (i:=17) (N:=some 20) #[Tt,Tt,Tt,Tt,Tt,Tt,Tt,Tt,Tt,Tt,Tt,Tt,Tt,Tt,Tt,Tt,Tt,Tt,Ff,Ff,Ff,Ff,Ff,Ff,Ff,Ff,Ff,Ff,Ff,Ff,Ff,Ff,Ff,Ff] ?_
  refine pU (i:=18) (N:=some 21) #[Tt,Tt,Tt,Tt,Tt,Tt,Tt,Tt,Tt,Tt,Tt,Tt,Tt,Tt,Tt,Tt,Tt,Tt,Tt,Ff,Ff,Ff,Ff,Ff,Ff,Ff,Ff,Ff,Ff,Ff,Ff,Ff,Ff,Ff] ?_
  refine pU (i:=19) (N:=some 22) #[Tt,Tt,Tt,Tt,Tt,Tt,Tt,Tt,Tt,Tt,Tt,Tt,Tt,Tt,Tt,Tt,Tt,Tt,Tt,Tt,Ff,Ff,Ff,Ff,Ff,Ff,Ff,Ff,Ff,Ff,Ff,Ff,Ff,Ff] ?_
  refine pU (i:=20) (N:=some 23) #[Tt,Tt,Tt,Tt,Tt,Tt,Tt,Tt,Tt,Tt,Tt,Tt,Tt,Tt,Tt,Tt,Tt,Tt,Tt,Tt,Tt,Ff,Ff,Ff,Ff,Ff,Ff,Ff,Ff,Ff,Ff,Ff,Ff,Ff] ?_
  refine pU (i:=21) (N:=some 24) #[Tt,Tt,Tt,Tt,Tt,Tt,Tt,Tt,Tt,Tt,Tt,Tt,Tt,Tt,Tt,Tt,Tt,Tt,Tt,Tt,Tt,Tt,Ff,Ff,Ff,Ff,Ff,Ff,Ff,Ff,Ff,Ff,Ff,Ff] ?_
  refine pU (i:=22) (N:=some 25) #[Tt,Tt,Tt,Tt,Tt,Tt,Tt,Tt,Tt,Tt,Tt,Tt,Tt,Tt,Tt,Tt,Tt,Tt,Tt,Tt,Tt,Tt,Tt,Ff,Ff,Ff,Ff,Ff,Ff,Ff,Ff,Ff,Ff,Ff] ?_
  refine pZ (i:=23) (N:=some 26) #[Tt,Tt,Tt,Tt,Tt,Tt,Tt,Tt,Tt,Tt,Tt,Tt,Tt,Tt,Tt,Tt,Tt,Tt,Tt,Tt,Tt,Tt,Tt,Tt,Ff,Ff,Ff,Ff,Ff,Ff,Ff,Ff,Ff,Ff] ?_
  refine pZ (i:=24) (N:=some 27) #[Tt,Tt,Tt,Tt,Tt,Tt,Tt,Tt,Tt,Tt,Tt,Tt,Tt,Tt,Tt,Tt,Tt,Tt,Tt,Tt,Tt,Tt,Tt,Tt,Tt,Ff,Ff,Ff,Ff,Ff,Ff,Ff,Ff,Ff] ?_
  refine pU (i:=25) (N:=some 28) #[Tt,Tt,Tt,Tt,Tt,Tt,Tt,Tt,Tt,Tt,Tt,Tt,Tt,Tt,Tt,Tt,Tt,Tt,Tt,Tt,Tt,Tt,Tt,Tt,Tt,Tt,Ff,Ff,Ff,Ff,Ff,Ff,Ff,Ff] ?_
  refine pU (i:=26) (N:=some 29) #[Tt,Tt,Tt,Tt,Tt,Tt,Tt,Tt,Tt,Tt,Tt,Tt,Tt,Tt,Tt,Tt,Tt,Tt,Tt,Tt,Tt,Tt,Tt,Tt,Tt,Tt,Tt,Ff,Ff,Ff,Ff,Ff,Ff,Ff] ?_
  refine pU (i:=27) (N:=some 30) #[Tt,Tt,Tt,Tt,Tt,Tt,Tt,Tt,Tt,Tt,Tt,Tt,Tt,Tt,Tt,Tt,Tt,Tt,Tt,Tt,Tt,Tt,Tt,Tt,Tt,Tt,Tt,Tt,Ff,Ff,Ff,Ff,Ff,Ff] ?_
  refine pU (i:=28) (N:=some 31) #[Tt,Tt,Tt,Tt,Tt,Tt,Tt,Tt,Tt,Tt,Tt,Tt,Tt,Tt,Tt,Tt,Tt,Tt,Tt,Tt,Tt,Tt,Tt,Tt,Tt,Tt,Tt,Tt,Tt,Ff,Ff,Ff,Ff,Ff] ?_
  refine pU (i:=29) (N:=some 32) #[Tt,Tt,Tt,Tt,Tt,Tt,Tt,Tt,Tt,Tt,Tt,Tt,Tt,Tt,Tt,Tt,Tt,Tt,Tt,Tt,Tt,Tt,Tt,Tt,Tt,Tt,Tt,Tt,Tt,Tt,Ff,Ff,Ff,Ff] ?_
  refine pU (i:=30) (N:=some 33) #[Tt,Tt,Tt,Tt,Tt,Tt,Tt,Tt,Tt,Tt,Tt,Tt,Tt,Tt,Tt,Tt,Tt,Tt,Tt,Tt,Tt,Tt,Tt,Tt,Tt,Tt,Tt,Tt,Tt,Tt,Tt,Ff,Ff,Ff] ?_
  refine pU (i:=31) (N:=some 34) #[Tt,Tt,Tt,Tt,Tt,Tt,Tt,Tt,Tt,Tt,Tt,Tt,Tt,Tt,Tt,Tt,Tt,Tt,Tt,Tt,Tt,Tt,Tt,Tt,Tt,Tt,Tt,Tt,Tt,Tt,Tt,Tt,Ff,Ff] ?_
  refine pZ (i:=32) (N:=some 35) #[Tt,Tt,Tt,Tt,Tt,Tt,Tt,Tt,Tt,Tt,Tt,Tt,Tt,Tt,Tt,Tt,Tt,Tt,Tt,Tt,Tt,Tt,Tt,Tt,Tt,Tt,Tt,Tt,Tt,Tt,Tt,Tt,Tt,Ff] ?_
  refine pZ (i:=33) (N:=some 2) #[Tt,Tt,Tt,Tt,Tt,Tt,Tt,Tt,Tt,Tt,Tt,Tt,Tt,Tt,Tt,Tt,Tt,Tt,Tt,Tt,Tt,Tt,Tt,Tt,Tt,Tt,Tt,Tt,Tt,Tt,Tt,Tt,Tt,Tt] ?_
  refine done_ (done_of HT_.out (by kernel_rfl)) ?_
  try go_wp2
  go_ret
  exact ⟨er_,bl1_ HB.out GE273.out⟩


theorem up_rounds {α:Type} {f:Nat → Option α} (hm:∀ k,LeO (f k) (f (k + 1))) {k k':Nat} (h:k ≤ k') {r:α} (hr:f k = some r):f k' = some r:=by
  induction k' with
  | zero => obtain rfl:k = 0:=by omega
            exact hr
  | succ n ih =>
    by_cases e:k = n + 1
    · subst e; exact hr
    · exact hm n r (ih (by omega))
def risingB:List Int → Bool
  | a :: b :: t => decide (a < b) && risingB (b :: t)
  | _ => true
def inB (lo hi:Int) (l:List Int):Bool:=l.all fun x => decide (lo ≤ x) && decide (x ≤ hi)
theorem isRising_l0 (l:List Int) (hL:l.length ≤ 4000000):∀ (d k i:Nat),l.length - i = d → 1 ≤ i → i ≤ l.length → d < k → impl_isRising.l0 k l (i:Int) = some (risingB (l.drop (i - 1))):=by
  intro d
  induction d with
  | zero =>
    intro k i h1 h2 h3 h4
    obtain ⟨k,rfl⟩:∃ m,k = m + 1:=⟨k - 1,by omega⟩
    simp only [impl_isRising.l0]
    rw [if_neg (by omega),List.drop_eq_getElem_cons (by omega),List.drop_of_length_le (by omega)]
    rfl
  | succ d ih =>
    intro k i h1 h2 h3 h4
    obtain ⟨k,rfl⟩:∃ m,k = m + 1:=⟨k - 1,by omega⟩
    have e1:wrap64 ((i:Int) - 1) = ((i - 1:Nat):Int):=by unfold wrap64; omega
    have e2:wrap64 ((i:Int) + 1) = ((i + 1:Nat):Int):=by unfold wrap64; omega
    simp only [impl_isRising.l0]
    rw [if_pos (by omega),if_pos (by omega),e1,if_pos (by omega),if_pos (by omega),rd_nat l i (by omega),rd_nat l (i - 1) (by omega),e2,ih k (i + 1) (by omega) (by omega) (by omega) (by omega),
      List.drop_eq_getElem_cons (show i - 1 < l.length by omega),show i - 1 + 1 = i by omega,show i + 1 - 1 = i by omega,List.drop_eq_getElem_cons (show i < l.length by omega)]
    by_cases hlt:l[i] ≤ l[i - 1]
    · rw [if_pos hlt]
      simp only [risingB]
      rw [decide_eq_false (by omega)]
      rfl
    · rw [if_neg hlt]
      simp only [risingB]
      rw [decide_eq_true (by omega)]
      rfl
theorem isRising_f (l:List Int) (hL:l.length ≤ 4000000) (k:Nat) (hk:l.length + 1 < k):impl_isRising.f k l = some (risingB l):=by
  unfold impl_isRising.f
  by_cases h0:l.length = 0
  · have:l = []:=List.length_eq_zero_iff.1 h0
    subst this
    obtain ⟨k,rfl⟩:∃ m,k = m + 1:=⟨k - 1,by omega⟩
    simp only [impl_isRising.l0]
    rw [if_neg (by simp)]
    rfl
  · exact isRising_l0 l hL (l.length - 1) k 1 rfl (by omega) (by omega) (by omega)
theorem fiRises_l0 (l:List Int) (hL:l.length ≤ 4000000):∀ (d k i:Nat),l.length - i = d → 1 ≤ i → i ≤ l.length → d < k → spec_fiRises.l0 k l (i:Int) = some (risingB (l.drop (i - 1))):=by
  intro d
  induction d with
  | zero =>
    intro k i h1 h2 h3 h4
    obtain ⟨k,rfl⟩:∃ m,k = m + 1:=⟨k - 1,by omega⟩
    simp only [spec_fiRises.l0]
    rw [if_neg (by omega),List.drop_eq_getElem_cons (by omega),List.drop_of_length_le (by omega)]
    rfl
  | succ d ih =>
    intro k i h1 h2 h3 h4
    obtain ⟨k,rfl⟩:∃ m,k = m + 1:=⟨k - 1,by omega⟩
    have e1:wrap64 ((i:Int) - 1) = ((i - 1:Nat):Int):=by unfold wrap64; omega
    have e2:wrap64 ((i:Int) + 1) = ((i + 1:Nat):Int):=by unfold wrap64; omega
    simp only [spec_fiRises.l0]
    rw [if_pos (by omega),e1,if_pos (by omega),if_pos (by omega),if_pos (by omega),rd_nat l i (by omega),rd_nat l (i - 1) (by omega),e2,ih k (i + 1) (by omega) (by omega) (by omega) (by omega),
      List.drop_eq_getElem_cons (show i - 1 < l.length by omega),show i - 1 + 1 = i by omega,show i + 1 - 1 = i by omega,List.drop_eq_getElem_cons (show i < l.length by omega)]
    by_cases hlt:l[i - 1] ≥ l[i]
    · rw [if_pos hlt]
      simp only [risingB]
      rw [decide_eq_false (by omega)]
      rfl
    · rw [if_neg hlt]
      simp only [risingB]
      rw [decide_eq_true (by omega)]
      rfl
theorem l1All_l0 (l:List Int) (lo hi:Int) (hL:l.length ≤ 4000000):∀ (d k i:Nat),l.length - i = d → i ≤ l.length → d < k → spec_l1All.l0 k lo hi l (l.length:Int) (i:Int) = some (inB lo hi (l.drop i)):=by
  intro d
  induction d with
  | zero =>
    intro k i h1 h3 h4
    obtain ⟨k,rfl⟩:∃ m,k = m + 1:=⟨k - 1,by omega⟩
    simp only [spec_l1All.l0]
    rw [if_neg (by omega),List.drop_of_length_le (by omega)]
    rfl
  | succ d ih =>
    intro k i h1 h3 h4
    obtain ⟨k,rfl⟩:∃ m,k = m + 1:=⟨k - 1,by omega⟩
    have e2:wrap64 ((i:Int) + 1) = ((i + 1:Nat):Int):=by unfold wrap64; omega
    have e3:∀ x:Int,spec_l1In.f x lo hi = some (decide (lo ≤ x) && decide (x ≤ hi)):=fun x => by
      unfold spec_l1In.f
      by_cases h:lo ≤ x
      · rw [if_pos h,decide_eq_true h]; rfl
      · rw [if_neg (show ¬ x ≥ lo from h),decide_eq_false h]; rfl
    simp only [spec_l1All.l0]
    rw [if_pos (by omega),if_pos (by omega),if_pos (by omega),rd_nat l i (by omega),e3,Option.bind_some,e2,ih k (i + 1) (by omega) (by omega) (by omega),List.drop_eq_getElem_cons (show i < l.length by omega)]
    unfold inB
    rw [List.all_cons]
    cases (decide (lo ≤ l[i]) && decide (l[i] ≤ hi)) <;> rfl
theorem l1All_f (l:List Int) (lo hi:Int) (hL:l.length ≤ 4000000) (k:Nat) (hk:l.length < k):spec_l1All.f k l lo hi = some (inB lo hi l):=by
  unfold spec_l1All.f
  exact l1All_l0 l lo hi hL l.length k 0 (by omega) (by omega) hk
theorem rising_len (l:List Int):∀ (lo hi:Int),risingB l = true → inB lo hi l = true → (l.length:Int) ≤ hi - lo + 1 ∨ l = []:=by
  induction l with
  | nil => intro lo hi _ _; exact .inr rfl
  | cons a t ih =>
    intro lo hi h1 h2
    unfold inB at h2
    rw [List.all_cons,Bool.and_eq_true,Bool.and_eq_true,decide_eq_true_iff,decide_eq_true_iff] at h2
    obtain ⟨⟨h3,h4⟩,h5⟩:=h2
    left
    cases t with
    | nil => simp; omega
    | cons b t =>
      simp only [risingB,Bool.and_eq_true,decide_eq_true_iff] at h1
      have h6:inB (a + 1) hi (b :: t) = true:=by
        have hr:∀ (t:List Int) (a b:Int),a < b → risingB (b :: t) = true → ∀ x ∈ b :: t,a < x:=by
          intro t
          induction t with
          | nil => intro a b hab _ x hx; simp at hx; omega
          | cons c t ih2 =>
            intro a b hab hr x hx
            simp only [risingB,Bool.and_eq_true,decide_eq_true_iff] at hr
            rcases List.mem_cons.1 hx with rfl | hx
            · exact hab
            · have:=ih2 b c hr.1 hr.2 x hx; omega
        unfold inB
        rw [List.all_eq_true] at h5 ⊢
        intro x hx
        have h7:=h5 x hx
        have h8:=hr t a b h1.1 h1.2 x hx
        simp only [Bool.and_eq_true,decide_eq_true_iff] at h7 ⊢
        omega
      rcases ih (a + 1) hi h1.2 h6 with h | h
      · simp at h ⊢; omega
      · cases h
def figB (w h:Int) (a u:List Int):Bool :=
  (decide (1 ≤ w) && decide (w ≤ 4) && decide (1 ≤ h) && decide (h ≤ 4)) && (risingB a && (risingB u && (inB 0 (w * (h + 1) - 1) a && inB 0 (h * (w + 1) - 1) u)))
theorem within_f (n lo hi:Int):impl_within.f n lo hi = some (decide (lo ≤ n) && decide (n ≤ hi)):=by
  unfold impl_within.f
  by_cases h:lo ≤ n
  · rw [if_pos h,decide_eq_true h]; rfl
  · rw [if_neg h,decide_eq_false h]; rfl
theorem l1In_f (n lo hi:Int):spec_l1In.f n lo hi = some (decide (lo ≤ n) && decide (n ≤ hi)):=by
  unfold spec_l1In.f
  by_cases h:lo ≤ n
  · rw [if_pos h,decide_eq_true h]; rfl
  · rw [if_neg (show ¬ n ≥ lo from h),decide_eq_false h]; rfl
theorem isGrid_f (w h:Int):impl_isGrid.f w h = some (decide (1 ≤ w) && decide (w ≤ 4) && decide (1 ≤ h) && decide (h ≤ 4)):=by
  unfold impl_isGrid.f
  rw [within_f,within_f,Option.bind_some,Option.bind_some]
  cases (decide (1 ≤ w) && decide (w ≤ 4)) <;> simp
theorem fiGrid_f (w h:Int):spec_fiGrid.f w h = some (decide (1 ≤ w) && decide (w ≤ 4) && decide (1 ≤ h) && decide (h ≤ 4)):=by
  unfold spec_fiGrid.f
  rw [l1In_f,l1In_f,Option.bind_some,Option.bind_some]
  cases (decide (1 ≤ w) && decide (w ≤ 4)) <;> simp
theorem grid_bounds {w h:Int} (hg:(decide (1 ≤ w) && decide (w ≤ 4) && decide (1 ≤ h) && decide (h ≤ 4)) = true):1 ≤ w ∧ w ≤ 4 ∧ 1 ≤ h ∧ h ≤ 4:=by
  simp only [Bool.and_eq_true,decide_eq_true_iff] at hg; omega
theorem area_bounds {w h:Int} (h1:1 ≤ w) (h2:w ≤ 4) (h3:1 ≤ h) (h4:h ≤ 4):2 ≤ w * (h + 1) ∧ w * (h + 1) ≤ 20 ∧ 2 ≤ h * (w + 1) ∧ h * (w + 1) ≤ 20:=by
  have:w = 1 ∨ w = 2 ∨ w = 3 ∨ w = 4:=by omega
  rcases this with rfl | rfl | rfl | rfl <;> omega
theorem IsFigure_f (w h:Int) (a u:List Int) (ha:a.length ≤ 1000000) (hu:u.length ≤ 1000000) (k:Nat) (hk:1000010 < k):impl_IsFigure.f k w h a u = some (figB w h a u):=by
  unfold impl_IsFigure.f figB
  rw [isGrid_f,Option.bind_some]
  by_cases hg:(decide (1 ≤ w) && decide (w ≤ 4) && decide (1 ≤ h) && decide (h ≤ 4)) = true
  · rw [if_pos hg,hg,isRising_f a (by omega) k (by omega),isRising_f u (by omega) k (by omega),Option.bind_some]
    obtain ⟨b1,b2,b3,b4⟩:=grid_bounds hg
    obtain ⟨c1,c2,c3,c4⟩:=area_bounds b1 b2 b3 b4
    have e1:wrap64 (h + 1) = h + 1:=by unfold wrap64; omega
    have e2:wrap64 (w + 1) = w + 1:=by unfold wrap64; omega
    have e3:wrap64 (w * (h + 1)) = w * (h + 1):=by unfold wrap64; omega
    have e4:wrap64 (h * (w + 1)) = h * (w + 1):=by unfold wrap64; omega
    have e5:wrap64 (w * (h + 1) - 1) = w * (h + 1) - 1:=by unfold wrap64; omega
    have e6:wrap64 (h * (w + 1) - 1) = h * (w + 1) - 1:=by unfold wrap64; omega
    unfold impl_Figure_grid.f impl_grid_levels.f impl_grid_uprights.f impl_areWithin.f
    simp only [Option.bind_some,e1,e2,e3,e4,e5,e6]
    have key:∀ A B C D:Bool,(if A = true then (if B = true then (if C = true then some D else some false) else some false) else some false) = some (true && (A && (B && (C && D)))):=by decide
    exact key _ _ _ _
  · rw [if_neg hg,Bool.eq_false_iff.mpr hg]
    rfl
theorem fiRises_f (l:List Int) (m:Int) (hm0:0 ≤ m) (hm:m ≤ 100) (hl:l.length ≤ 1000000) (k:Nat) (hk:1000010 < k):spec_fiRises.f k l m = some (risingB l && inB 0 m l):=by
  unfold spec_fiRises.f
  have e:wrap64 (m + 1) = m + 1:=by unfold wrap64; omega
  have hj:∀ b:Bool,spec_fiRises.j0 k l b = some (!b && risingB l):=fun b => by
    obtain ⟨k,rfl⟩:∃ q,k = q + 1:=⟨k - 1,by omega⟩
    simp only [spec_fiRises.j0]
    cases b with
    | true => rfl
    | false =>
      rw [if_neg (by simp)]
      by_cases h0:l.length = 0
      · have:l = []:=List.length_eq_zero_iff.1 h0
        subst this
        obtain ⟨k,rfl⟩:∃ q,k = q + 1:=⟨k - 1,by omega⟩
        simp only [spec_fiRises.l0]
        rw [if_neg (by simp)]
        rfl
      · rw [show (1:Int) = ((1:Nat):Int) from rfl,fiRises_l0 l (by omega) (l.length - 1) k 1 rfl (by omega) (by omega) (by omega)]
        rfl
  rw [e,hj,l1All_f l 0 m (by omega) k (by omega),Option.bind_some,hj]
  by_cases hgt:(l.length:Int) > m + 1
  · rw [if_pos hgt]
    cases h1:risingB l with
    | false => rfl
    | true =>
      cases h2:inB 0 m l with
      | false => rfl
      | true =>
        rcases rising_len l 0 m h1 h2 with h | h
        · omega
        · subst h; simp at hgt; omega
  · rw [if_neg hgt,Bool.not_not,Bool.and_comm]
theorem fiGood_f (w h:Int) (a u:List Int) (ha:a.length ≤ 1000000) (hu:u.length ≤ 1000000) (k:Nat) (hk:1000010 < k):spec_fiGood.f k w h a u = some (figB w h a u):=by
  unfold spec_fiGood.f figB
  rw [fiGrid_f,Option.bind_some]
  by_cases hg:(decide (1 ≤ w) && decide (w ≤ 4) && decide (1 ≤ h) && decide (h ≤ 4)) = true
  · rw [if_pos hg,hg]
    obtain ⟨b1,b2,b3,b4⟩:=grid_bounds hg
    obtain ⟨c1,c2,c3,c4⟩:=area_bounds b1 b2 b3 b4
    have e1:wrap64 (h + 1) = h + 1:=by unfold wrap64; omega
    have e2:wrap64 (w + 1) = w + 1:=by unfold wrap64; omega
    have e3:wrap64 (w * (h + 1)) = w * (h + 1):=by unfold wrap64; omega
    have e4:wrap64 ((w + 1) * h) = h * (w + 1):=by rw [Int.mul_comm]; unfold wrap64; omega
    have e5:wrap64 (w * (h + 1) - 1) = w * (h + 1) - 1:=by unfold wrap64; omega
    have e6:wrap64 (h * (w + 1) - 1) = h * (w + 1) - 1:=by unfold wrap64; omega
    rw [e1,e2,e3,e4,e5,e6,fiRises_f a _ (by omega) (by omega) ha k hk,fiRises_f u _ (by omega) (by omega) hu k hk,Option.bind_some,Option.bind_some]
    cases risingB a <;> cases risingB u <;> simp
    cases inB 0 (w * (h + 1) - 1) a <;> simp
  · rw [if_neg hg,Bool.eq_false_iff.mpr hg]
    rfl


mutual
def impl_Figure_set.l0:Nat → Int → List Int → Int → Int → Int → Int → List Int → List Int → Option (Int)
 | 0,_,_,_,_,_,_,_,_ => none
 | k + 1,x3,x9,x10,x11,x252000,x252001,x252002,x252003 => if x11 < x10 then (if 0 ≤ x11 then (if x11 < (x9.length:Int) then (if 0 ≤ (rd x9 x11) then (impl_Figure_set.l0 k (Go.bits .or .u64 x3 (shl .u64 1 (rd x9 x11))) x9 x10 (wrap64 (x11 + 1)) x252000 x252001 x252002 x252003) else (none)) else (none)) else (none)) else (impl_Figure_set.l1 k x3 x252003 (x252003.length:Int) 0 x252000 x252001 x252002 x252003)
def impl_Figure_set.l1:Nat → Int → List Int → Int → Int → Int → Int → List Int → List Int → Option (Int)
 | 0,_,_,_,_,_,_,_,_ => none
 | k + 1,x3,x21,x22,x23,x252000,x252001,x252002,x252003 => if x23 < x22 then (if 0 ≤ x23 then (if x23 < (x21.length:Int) then ((impl_Figure_grid.f x252000 x252001 x252002 x252003).bind fun bt254 => ((impl_grid_levels.f bt254.1 bt254.2).bind fun t256 => (if 0 ≤ (wrap64 (t256 + (rd x21 x23))) then (impl_Figure_set.l1 k (Go.bits .or .u64 x3 (shl .u64 1 (wrap64 (t256 + (rd x21 x23))))) x21 x22 (wrap64 (x23 + 1)) x252000 x252001 x252002 x252003) else (none)))) else (none)) else (none)) else (some x3)
end
def impl_Figure_set.f (k:Nat) (a0_0:Int) (a0_1:Int) (l0_2:List Int) (l0_3:List Int):Option (Int):=impl_Figure_set.l0 k 0 l0_2 (l0_2.length:Int) 0 a0_0 a0_1 l0_2 l0_3
theorem impl_Figure_set.mono_l:∀ k,(∀ y0 y1 y2 y3 y4 y5 y6 y7,LeO (impl_Figure_set.l0 k y0 y1 y2 y3 y4 y5 y6 y7) (impl_Figure_set.l0 (k + 1) y0 y1 y2 y3 y4 y5 y6 y7)) ∧ (∀ y0 y1 y2 y3 y4 y5 y6 y7,LeO (impl_Figure_set.l1 k y0 y1 y2 y3 y4 y5 y6 y7) (impl_Figure_set.l1 (k + 1) y0 y1 y2 y3 y4 y5 y6 y7))
 | 0 => ⟨fun _ _ _ _ _ _ _ _ r h => by simp [impl_Figure_set.l0] at h,fun _ _ _ _ _ _ _ _ r h => by simp [impl_Figure_set.l1] at h⟩
 | k + 1 => by
  obtain ⟨ih0,ih1⟩:=impl_Figure_set.mono_l k
  refine ⟨?_,?_⟩
  ·intro y0 y1 y2 y3 y4 y5 y6 y7
   unfold impl_Figure_set.l0
   repeat' first | (with_reducible first | exact ih0 _ _ _ _ _ _ _ _ | exact ih1 _ _ _ _ _ _ _ _ | exact LeO.refl _ | exact LeO.none _ | refine LeO.ite ?_ ?_ | refine LeO.bind ?_ (fun _ => ?_)) | exact ih0 _ _ _ _ _ _ _ _ | exact ih1 _ _ _ _ _ _ _ _
  ·intro y0 y1 y2 y3 y4 y5 y6 y7
   unfold impl_Figure_set.l1
   repeat' first | (with_reducible first | exact ih0 _ _ _ _ _ _ _ _ | exact ih1 _ _ _ _ _ _ _ _ | exact LeO.refl _ | exact LeO.none _ | refine LeO.ite ?_ ?_ | refine LeO.bind ?_ (fun _ => ?_)) | exact ih0 _ _ _ _ _ _ _ _ | exact ih1 _ _ _ _ _ _ _ _
theorem impl_Figure_set.mono:∀ a0 a1 a2 a3 k,LeO (impl_Figure_set.f k a0 a1 a2 a3) (impl_Figure_set.f (k + 1) a0 a1 a2 a3):=by
 intro a0 a1 a2 a3 k
 obtain ⟨ih0,ih1⟩:=impl_Figure_set.mono_l k
 unfold impl_Figure_set.f
 repeat' first | (with_reducible first | exact ih0 _ _ _ _ _ _ _ _ | exact ih1 _ _ _ _ _ _ _ _ | exact LeO.refl _ | exact LeO.none _ | refine LeO.ite ?_ ?_ | refine LeO.bind ?_ (fun _ => ?_)) | exact ih0 _ _ _ _ _ _ _ _ | exact ih1 _ _ _ _ _ _ _ _
set_option maxHeartbeats 8000000 in
set_option maxRecDepth 100000 in
theorem impl_Figure_set.calls (k:Nat) (a0_0:Int) (a0_1:Int) (A0_2:Option Addr) (c0_2:Nat) (l0_2:List Int) (A0_3:Option Addr) (c0_3:Nat) (l0_3:List Int) (r:Int) (w:World) (hr0_2:Kd.C (Kd.int .i64) w A0_2 l0_2.length l0_2) (hc0_2:l0_2.length ≤ c0_2) (hr0_3:Kd.C (Kd.int .i64) w A0_3 l0_3.length l0_3) (hc0_3:l0_3.length ≤ c0_3) (h:impl_Figure_set.f k a0_0 a0_1 l0_2 l0_3 = some r) :
  Calls Tryz.prog 79 #[.agg #[.int .i64 a0_0,.int .i64 a0_1,.slice A0_2 l0_2.length c0_2,.slice A0_3 l0_3.length c0_3]] w fun e w' => e = .returned (.int .u64 r) ∧ Below w.heap.size w w':=by
 have hu26:=Tryz.underlying26
 have HR0_2:=am_ hr0_2
 have HC0_2:=am_ hc0_2
 clear hr0_2 hc0_2
 have HR0_3:=am_ hr0_3
 have HC0_3:=am_ hc0_3
 clear hr0_3 hc0_3
 have HB:=am_ (Below.refl w.heap.size w)
 have H:(impl_Figure_set.l0 k 0 l0_2 (l0_2.length:Int) 0 a0_0 a0_1 l0_2 l0_3) = some r:=h
 clear h
 have H':=am_ H
 clear H
 go_enter Tryz.func79,Tryz.ntmps79
 go_wp2_with (first | ((with_reducible refine gate_dst (N:=1) rfl ?_); refine boxE_ (N:=1) (cs:=#[.int .i64 a0_0,.int .i64 a0_1,.slice A0_2 l0_2.length c0_2,.slice A0_3 l0_3.length c0_3]) (t:=26) ?_; intro gb251 hg w2 hbox hb; have n0_:=am_ (below_step (bl0_ HB.out) hb); have n1_:=am_ (hbox); have n2_:=am_ ((bs0_ hg HB.out:w.heap.size ≤ gb251)); have n3_:=am_ ((bs0_ hg HB.out:w.heap.size ≤ gb251)); clear HB; have HB:=n0_; have BK251:=n1_; have GW251:=n2_; have GE251:=n3_; clear n0_ n1_ n2_ n3_; clear hb hbox hg; have hcz3_0:w2.cell? ⟨gb251,0,none⟩ = some (.int .i64 a0_0):=(bc_ BK251.out 0).trans rfl; have hcz3_1:w2.cell? ⟨gb251,1,none⟩ = some (.int .i64 a0_1):=(bc_ BK251.out 1).trans rfl; have hcz3_2:w2.cell? ⟨gb251,2,none⟩ = some (.slice A0_2 l0_2.length c0_2):=(bc_ BK251.out 2).trans rfl; have hcz3_3:w2.cell? ⟨gb251,3,none⟩ = some (.slice A0_3 l0_3.length c0_3):=(bc_ BK251.out 3).trans rfl; have hfz3_0:=bz_ BK251.out 0; have hfz3_1:=bz_ BK251.out 1; have hfz3_2:=bz_ BK251.out 2; have hfz3_3:=bz_ BK251.out 3))
 go_loopg [3,11] k (fun kq v3 v11 w' => ∃ (x3_1:Int) (x11_1:Int),v3 = .int .u64 x3_1 ∧ v11 = .int .i64 x11_1 ∧ Aside0 (impl_Figure_set.l0 kq x3_1 l0_2 (l0_2.length:Int) x11_1 a0_0 a0_1 l0_2 l0_3 = some r) ∧ Aside0 (kq ≤ k) ∧ Aside0 (w'.heap[gb251]? = some (.cells #[.int .i64 a0_0,.int .i64 a0_1,(.slice A0_2 l0_2.length c0_2),(.slice A0_3 l0_3.length c0_3)] 26 (0,0))) ∧ Aside0 (Below w.heap.size w w'))
 case atStart => exact ⟨(0),(0),rs_,rs_,H',⟨Nat.le_refl _⟩,⟨bk_ BK251.out⟩,⟨bl1_ HB.out GE251.out⟩⟩
 case round =>
  clear H'
  try clear p2
  try clear hcz3_0
  try clear hcz3_1
  try clear hcz3_2
  try clear hcz3_3
  try clear hfz3_0
  try clear hfz3_1
  try clear hfz3_2
  try clear hfz3_3
  obtain ⟨x3_1,x11_1,rfl,rfl,HA,HK1,BK251,HB⟩:=hrel
  cases gk with
  | zero => exact absurd HA.out (by simp [impl_Figure_set.l0])
  | succ k1 =>
   have H:=HA.out
   clear HA
   simp only [impl_Figure_set.l0] at H
   by_cases c4:x11_1 < (l0_2.length:Int)
   ·rw [if_pos c4] at H
    have c4b0:decide (x11_1 < (l0_2.length:Int)) = true:=decide_eq_true c4
    clear c4
    by_cases c5:0 ≤ x11_1
    ·rw [if_pos c5] at H
     have c5b0:decide (0 ≤ x11_1) = true:=decide_eq_true c5
     clear c5
     by_cases c6:x11_1 < (l0_2.length:Int)
     ·rw [if_pos c6] at H
      have c6b0:decide (x11_1 < (l0_2.length:Int)) = true:=decide_eq_true c6
      clear c6
      by_cases c7:0 ≤ (rd l0_2 x11_1)
      ·rw [if_pos c7] at H
       have c7b0:=eq_true c7
       have c7b1:decide (0 ≤ (rd l0_2 x11_1)) = true:=decide_eq_true c7
       clear c7
       obtain ⟨ji8,hji8⟩:∃ j_:Int,(shl .u64 1 (rd l0_2 x11_1)) = j_:=⟨_,rfl⟩
       replace H:(impl_Figure_set.l0 k1 (Go.bits .or .u64 x3_1 (ji8)) l0_2 (l0_2.length:Int) (wrap64 (x11_1 + 1)) a0_0 a0_1 l0_2 l0_3) = some r:=by first | (rw [hji8] at H; exact H) | (simp only [hji8] at H ⊢; exact H)
       have hji8_:(IntKind.u64.wrap (1 * 2 ^ min (rd l0_2 x11_1).toNat 64)) = ji8:=hji8
       have hji8z:(rd l0_2 x11_1) ≤ 64 → (IntKind.u64.wrap (1 * 2 ^ (rd l0_2 x11_1).toNat)) = ji8:=shl_small hji8
       have hji8u:(IntKind.u64.wrap (2 ^ min (rd l0_2 x11_1).toNat 64)) = ji8:=by have h_:=hji8_; rw [Int.one_mul] at h_; exact h_
       have hji8v:(rd l0_2 x11_1) ≤ 64 → (IntKind.u64.wrap (2 ^ (rd l0_2 x11_1).toNat)) = ji8:=fun hle_ => by have h_:=hji8z hle_; rw [Int.one_mul] at h_; exact h_
       have H':=am_ H
       clear H
       have p252:0 ≤ (x11_1:Int):=of_decide_eq_true as_
       have q252:x11_1 < (l0_2.length:Int):=of_decide_eq_true as_
       obtain ⟨ad252,e252,hx252_0⟩:=Kd.at_int HR0_2.out x11_1 p252 q252
       cases e252
       replace hx252_0:=(HB.out.cell (wl_ w _ hx252_0)).trans hx252_0
       replace p252:=eq_true p252
       replace q252:=eq_true q252
       go_wp2
       go_roundg k1
       case measure => have:=HK1.out; omega
       case rel => exact ⟨(Go.bits .or .u64 x3_1 (ji8)),(wrap64 (x11_1 + 1)),(by first | rfl | (simp; done) | (simp only [← hji8] <;> (first | rfl | simp)) | (simp [*]; done)),rs_,H',⟨by have:=HK1.out; omega⟩,⟨bk_ BK251.out⟩,⟨bl1_ HB.out GE251.out⟩⟩
      ·rw [if_neg c7] at H
       exact absurd H (by simp)
     ·rw [if_neg c6] at H
      exact absurd H (by simp)
    ·rw [if_neg c5] at H
     exact absurd H (by simp)
   ·rw [if_neg c4] at H
    have c4b0:decide (x11_1 < (l0_2.length:Int)) = false:=decide_eq_false c4
    clear c4
    have H':=am_ H
    clear H
    have hcz9_0:wr.cell? ⟨gb251,0,none⟩ = some (.int .i64 a0_0):=(bc_ BK251.out 0).trans rfl
    have hcz9_1:wr.cell? ⟨gb251,1,none⟩ = some (.int .i64 a0_1):=(bc_ BK251.out 1).trans rfl
    have hcz9_2:wr.cell? ⟨gb251,2,none⟩ = some (.slice A0_2 l0_2.length c0_2):=(bc_ BK251.out 2).trans rfl
    have hcz9_3:wr.cell? ⟨gb251,3,none⟩ = some (.slice A0_3 l0_3.length c0_3):=(bc_ BK251.out 3).trans rfl
    have hfz9_0:=bz_ BK251.out 0
    have hfz9_1:=bz_ BK251.out 1
    have hfz9_2:=bz_ BK251.out 2
    have hfz9_3:=bz_ BK251.out 3
    go_wp2
    go_loopg [3,23] k1 (fun kq v3 v23 w' => ∃ (x3_2:Int) (x23_2:Int),v3 = .int .u64 x3_2 ∧ v23 = .int .i64 x23_2 ∧ Aside0 (impl_Figure_set.l1 kq x3_2 l0_3 (l0_3.length:Int) x23_2 a0_0 a0_1 l0_2 l0_3 = some r) ∧ Aside0 (kq ≤ k1) ∧ Aside0 (w'.heap[gb251]? = some (.cells #[.int .i64 a0_0,.int .i64 a0_1,(.slice A0_2 l0_2.length c0_2),(.slice A0_3 l0_3.length c0_3)] 26 (0,0))) ∧ Aside0 (Below w.heap.size w w'))
    case atStart => exact ⟨(x3_1),(0),rs_,rs_,H',⟨Nat.le_refl _⟩,⟨bk_ BK251.out⟩,⟨bl1_ HB.out GE251.out⟩⟩
    case round =>
     clear H'
     try clear p2
     try clear q2
     try clear hx2
     try clear c4
     try clear c4b0
     try clear c5
     try clear c5b0
     try clear c6
     try clear c6b0
     try clear p6
     try clear c7
     try clear c7b0
     try clear c7b1
     try clear hcz3_0
     try clear hcz3_1
     try clear hcz3_2
     try clear hcz3_3
     try clear hcz9_0
     try clear hcz9_1
     try clear hcz9_2
     try clear hcz9_3
     try clear hfz3_0
     try clear hfz3_1
     try clear hfz3_2
     try clear hfz3_3
     try clear hfz9_0
     try clear hfz9_1
     try clear hfz9_2
     try clear hfz9_3
     try clear hx252_0
     try clear p2
     try clear p252
     try clear q252
     obtain ⟨x3_2,x23_2,rfl,rfl,HA,HK2,BK251,HB⟩:=hrel
     cases gk with
     | zero => exact absurd HA.out (by simp [impl_Figure_set.l1])
     | succ k2 =>
      have H:=HA.out
      clear HA
      simp only [impl_Figure_set.l1] at H
      by_cases c10:x23_2 < (l0_3.length:Int)
      ·rw [if_pos c10] at H
       have c10b0:decide (x23_2 < (l0_3.length:Int)) = true:=decide_eq_true c10
       clear c10
       by_cases c11:0 ≤ x23_2
       ·rw [if_pos c11] at H
        have c11b0:decide (0 ≤ x23_2) = true:=decide_eq_true c11
        clear c11
        by_cases c12:x23_2 < (l0_3.length:Int)
        ·rw [if_pos c12] at H
         have c12b0:decide (x23_2 < (l0_3.length:Int)) = true:=decide_eq_true c12
         clear c12
         replace H:=bi_ H
         obtain ⟨⟨t254,t255⟩,A130,H⟩:=H
         replace H:((impl_grid_levels.f t254 t255).bind fun t256 => (if 0 ≤ (wrap64 (t256 + (rd l0_3 x23_2))) then (impl_Figure_set.l1 k2 (Go.bits .or .u64 x3_2 (shl .u64 1 (wrap64 (t256 + (rd l0_3 x23_2))))) l0_3 (l0_3.length:Int) (wrap64 (x23_2 + 1)) a0_0 a0_1 l0_2 l0_3) else (none))) = some r:=H
         have A13:=am_ A130
         clear A130
         replace H:=bi_ H
         obtain ⟨t256,A140,H⟩:=H
         replace H:(if 0 ≤ (wrap64 (t256 + (rd l0_3 x23_2))) then (impl_Figure_set.l1 k2 (Go.bits .or .u64 x3_2 (shl .u64 1 (wrap64 (t256 + (rd l0_3 x23_2))))) l0_3 (l0_3.length:Int) (wrap64 (x23_2 + 1)) a0_0 a0_1 l0_2 l0_3) else (none)) = some r:=H
         have A14:=am_ A140
         clear A140
         obtain ⟨ji15,hji15⟩:∃ j_:Int,(wrap64 (t256 + (rd l0_3 x23_2))) = j_:=⟨_,rfl⟩
         replace H:(if 0 ≤ (ji15) then (impl_Figure_set.l1 k2 (Go.bits .or .u64 x3_2 (shl .u64 1 (ji15))) l0_3 (l0_3.length:Int) (wrap64 (x23_2 + 1)) a0_0 a0_1 l0_2 l0_3) else (none)) = some r:=by first | (rw [hji15] at H; exact H) | (simp only [hji15] at H ⊢; exact H)
         (try rw [hji15] at A13)
         (try rw [hji15] at A14)
         have hji15w:(IntKind.i64.wrap (t256 + (rd l0_3 x23_2))) = ji15:=(i64_w _).trans hji15
         by_cases c16:0 ≤ (ji15)
         ·rw [if_pos c16] at H
          have c16b0:=eq_true c16
          have c16b1:decide (0 ≤ (ji15)) = true:=decide_eq_true c16
          clear c16
          obtain ⟨ji17,hji17⟩:∃ j_:Int,(shl .u64 1 (ji15)) = j_:=⟨_,rfl⟩
          replace H:(impl_Figure_set.l1 k2 (Go.bits .or .u64 x3_2 (ji17)) l0_3 (l0_3.length:Int) (wrap64 (x23_2 + 1)) a0_0 a0_1 l0_2 l0_3) = some r:=by first | (rw [hji17] at H; exact H) | (simp only [hji17] at H ⊢; exact H)
          (try rw [hji17] at A13)
          (try rw [hji17] at A14)
          have hji17_:(IntKind.u64.wrap (1 * 2 ^ min (ji15).toNat 64)) = ji17:=hji17
          have hji17z:(ji15) ≤ 64 → (IntKind.u64.wrap (1 * 2 ^ (ji15).toNat)) = ji17:=shl_small hji17
          have hji17u:(IntKind.u64.wrap (2 ^ min (ji15).toNat 64)) = ji17:=by have h_:=hji17_; rw [Int.one_mul] at h_; exact h_
          have hji17v:(ji15) ≤ 64 → (IntKind.u64.wrap (2 ^ (ji15).toNat)) = ji17:=fun hle_ => by have h_:=hji17z hle_; rw [Int.one_mul] at h_; exact h_
          have H':=am_ H
          clear H
          have p253:0 ≤ (x23_2:Int):=of_decide_eq_true as_
          have q253:x23_2 < (l0_3.length:Int):=of_decide_eq_true as_
          obtain ⟨ad253,e253,hx253_0⟩:=Kd.at_int HR0_3.out x23_2 p253 q253
          cases e253
          replace hx253_0:=(HB.out.cell (wl_ w _ hx253_0)).trans hx253_0
          replace p253:=eq_true p253
          replace q253:=eq_true q253
          have hcz18_0:wr.cell? ⟨gb251,0,none⟩ = some (.int .i64 a0_0):=(bc_ BK251.out 0).trans rfl
          have hcz18_1:wr.cell? ⟨gb251,1,none⟩ = some (.int .i64 a0_1):=(bc_ BK251.out 1).trans rfl
          have hcz18_2:wr.cell? ⟨gb251,2,none⟩ = some (.slice A0_2 l0_2.length c0_2):=(bc_ BK251.out 2).trans rfl
          have hcz18_3:wr.cell? ⟨gb251,3,none⟩ = some (.slice (some ad253) l0_3.length c0_3):=(bc_ BK251.out 3).trans rfl
          have hfz18_0:=bz_ BK251.out 0
          have hfz18_1:=bz_ BK251.out 1
          have hfz18_2:=bz_ BK251.out 2
          have hfz18_3:=bz_ BK251.out 3
          go_wp2_with (first | ((with_reducible refine gate_callee (f:=41) rfl ?_); refine goesL_ (some 29) rfl rfl Tryz.func41 (by kernel_rfl) rfl #[.agg #[.int .i64 a0_0,.int .i64 a0_1,.slice A0_2 l0_2.length c0_2,.slice (some ad253) l0_3.length c0_3]] rfl ob_ ?_; (with_reducible refine (impl_Figure_grid.calls a0_0 a0_1 _ _ l0_2 _ _ l0_3 t254 t255 _ ?side1 ?side2 ?side3 ?side4 A13.out).mono ?_); (case side1 => exact kc_ (Kd.C_below HR0_2.out HB.out)); (case side2 => exact HC0_2.out); (case side3 => exact kc_ (Kd.C_below HR0_3.out HB.out)); (case side4 => exact HC0_3.out); rintro e w19 ⟨rfl,hb⟩; refine ⟨_,rfl,?_⟩; have n0_:=am_ (bb_ BK251.out hb); have n1_:=am_ (below_step (bl1_ HB.out GE251.out) hb); clear BK251; clear HB; have BK251:=n0_; have HB:=n1_; clear n0_ n1_; (try clear hb); (try clear hb2); (try clear hk); (try clear hi)) | ((with_reducible refine gate_callee (f:=72) rfl ?_); refine goesL_ (some 30) rfl rfl Tryz.func72 (by kernel_rfl) rfl #[.agg #[.int .i64 t254,.int .i64 t255]] rfl ob_ ?_; (with_reducible refine (impl_grid_levels.calls t254 t255 t256 _ A14.out).mono ?_); rintro e w20 ⟨rfl,hb⟩; refine ⟨_,rfl,?_⟩; have n0_:=am_ (bb_ BK251.out hb); have n1_:=am_ (below_step (bl1_ HB.out GE251.out) hb); clear BK251; clear HB; have BK251:=n0_; have HB:=n1_; clear n0_ n1_; (try clear hb); (try clear hb2); (try clear hk); (try clear hi)))
          go_roundg k2
          case measure => have:=HK1.out; have:=HK2.out; omega
          case rel => exact ⟨(Go.bits .or .u64 x3_2 (ji17)),(wrap64 (x23_2 + 1)),(by first | rfl | (simp; done) | (simp only [← hji17] <;> (first | rfl | simp)) | (simp [*]; done)),rs_,H',⟨by have:=HK1.out; have:=HK2.out; omega⟩,⟨bk_ BK251.out⟩,⟨bl1_ HB.out GE251.out⟩⟩
         ·rw [if_neg c16] at H
          exact absurd H (by simp)
        ·rw [if_neg c12] at H
         exact absurd H (by simp)
       ·rw [if_neg c11] at H
        exact absurd H (by simp)
      ·rw [if_neg c10] at H
       have c10b0:decide (x23_2 < (l0_3.length:Int)) = false:=decide_eq_false c10
       clear c10
       obtain rfl:=Option.some.inj H
       go_wp2
       go_ret
       exact ⟨er_,bl1_ HB.out GE251.out⟩


theorem u64_small (n:Int) (h0:0 ≤ n) (h1:n < 2 ^ 60):IntKind.u64.wrap n = n:=by
 have:IntKind.u64.wrap n = n % 18446744073709551616:=by simp [IntKind.wrap,IntKind.bits,IntKind.signed]
 rw [this]; omega
theorem i64_small (n:Int) (h0:0 ≤ n) (h1:n < 2 ^ 60):IntKind.i64.wrap n = n:=by rw [IntKind.wrap_i64]; omega
theorem or_u64 (a b:Nat) (ha:a < 2 ^ 60) (hb:b < 2 ^ 60):Go.bits .or .u64 (a:Int) (b:Int) = ((a ||| b:Nat):Int):=(bits_nat .u64 60 (by decide) u64_small a b ha hb).2
theorem and_u64 (a b:Nat) (ha:a < 2 ^ 60) (hb:b < 2 ^ 60):Go.bits .and .u64 (a:Int) (b:Int) = ((a &&& b:Nat):Int):=(bits_nat .u64 60 (by decide) u64_small a b ha hb).1
theorem or_i64 (a b:Nat) (ha:a < 2 ^ 60) (hb:b < 2 ^ 60):Go.bits .or .i64 (a:Int) (b:Int) = ((a ||| b:Nat):Int):=(bits_nat .i64 60 (by decide) i64_small a b ha hb).2
theorem and_i64 (a b:Nat) (ha:a < 2 ^ 60) (hb:b < 2 ^ 60):Go.bits .and .i64 (a:Int) (b:Int) = ((a &&& b:Nat):Int):=(bits_nat .i64 60 (by decide) i64_small a b ha hb).1
theorem pow_lt60 {n:Nat} (h:n < 60):2 ^ n < 2 ^ 60:=Nat.pow_lt_pow_right (by decide) h
theorem shl_u64 (n:Nat) (h:n < 60):shl .u64 1 (n:Int) = ((2 ^ n:Nat):Int):=by
 unfold shl
 rw [Int.toNat_natCast,show min n IntKind.u64.bits = n from Nat.min_eq_left (by show n ≤ 64; omega),Int.one_mul]
 have h2:=pow_lt60 h
 rw [u64_small _ (by exact_mod_cast Nat.zero_le _) (by exact_mod_cast h2)]
 norm_cast
theorem shl_i64 (n:Nat) (h:n < 60):shl .i64 1 (n:Int) = ((2 ^ n:Nat):Int):=by
 unfold shl
 rw [Int.toNat_natCast,show min n IntKind.i64.bits = n from Nat.min_eq_left (by show n ≤ 64; omega),Int.one_mul]
 have h2:=pow_lt60 h
 rw [i64_small _ (by exact_mod_cast Nat.zero_le _) (by exact_mod_cast h2)]
 norm_cast
def bitsFrom (s:Nat) (l:List Int) (m:Nat):Nat:=l.foldl (fun m k => m ||| 2 ^ (s + k.toNat)) m
theorem bitsFrom_lt (s:Nat) (l:List Int):∀ m,m < 2 ^ 60 → (∀ k ∈ l,s + k.toNat < 60) → bitsFrom s l m < 2 ^ 60:=by
 induction l with
 | nil => intro m hm _; exact hm
 | cons a t ih =>
  intro m hm h
  exact ih _ (Nat.or_lt_two_pow hm (pow_lt60 (h a (by simp)))) (fun k hk => h k (by simp [hk]))
theorem bitsFrom_test (s:Nat) (l:List Int) (i:Nat):∀ m,(bitsFrom s l m).testBit i = (m.testBit i || l.any fun k => decide (s + k.toNat = i)):=by
 induction l with
 | nil => intro m; simp [bitsFrom]
 | cons a t ih =>
  intro m
  have:=ih (m ||| 2 ^ (s + a.toNat))
  unfold bitsFrom at this ⊢
  rw [List.foldl_cons,this,Nat.testBit_or,Nat.testBit_two_pow,List.any_cons,Bool.or_assoc]
theorem inB_mem {lo hi:Int} {l:List Int} (h:inB lo hi l = true) (x:Int) (hx:x ∈ l):lo ≤ x ∧ x ≤ hi:=by
 unfold inB at h
 rw [List.all_eq_true] at h
 have:=h x hx
 simpa using this
def figMask (w h:Int) (a u:List Int):Nat:=bitsFrom (w * (h + 1)).toNat u (bitsFrom 0 a 0)
theorem figMask_lt {w h:Int} {a u:List Int} (hf:figB w h a u = true):figMask w h a u < 2 ^ 60:=by
 unfold figB at hf
 simp only [Bool.and_eq_true] at hf
 obtain ⟨hg,-,-,hi1,hi2⟩:=hf
 obtain ⟨b1,b2,b3,b4⟩:=grid_bounds (by simp only [Bool.and_eq_true]; exact hg)
 obtain ⟨c1,c2,c3,c4⟩:=area_bounds b1 b2 b3 b4
 refine bitsFrom_lt _ _ _ (bitsFrom_lt _ _ _ (by decide) (fun k hk => ?_)) (fun k hk => ?_)
 ·have:=inB_mem hi1 k hk; omega
 ·have:=inB_mem hi2 k hk; omega
theorem figMask_level {w h:Int} {a u:List Int} (hf:figB w h a u = true) (e:Nat) (he:(e:Int) < w * (h + 1)):(figMask w h a u).testBit e = decide ((e:Int) ∈ a):=by
 unfold figB at hf
 simp only [Bool.and_eq_true] at hf
 obtain ⟨hg,-,-,hi1,hi2⟩:=hf
 unfold figMask
 rw [bitsFrom_test,bitsFrom_test,Nat.zero_testBit,Bool.false_or]
 rw [show (u.any fun k => decide ((w * (h + 1)).toNat + k.toNat = e)) = false from by
  rw [List.any_eq_false]; intro k hk; have:=inB_mem hi2 k hk; simp; omega]
 rw [Bool.or_false,Bool.eq_iff_iff,List.any_eq_true,decide_eq_true_iff]
 constructor
 ·rintro ⟨k,hk,hke⟩
  have:=inB_mem hi1 k hk
  simp at hke
  rw [show (e:Int) = k by omega]
  exact hk
 ·intro hm
  exact ⟨_,hm,by simp⟩
theorem figMask_upright {w h:Int} {a u:List Int} (hf:figB w h a u = true) (e:Nat):(figMask w h a u).testBit ((w * (h + 1)).toNat + e) = decide ((e:Int) ∈ u):=by
 unfold figB at hf
 simp only [Bool.and_eq_true] at hf
 obtain ⟨hg,-,-,hi1,hi2⟩:=hf
 obtain ⟨b1,b2,b3,b4⟩:=grid_bounds (by simp only [Bool.and_eq_true]; exact hg)
 obtain ⟨c1,c2,c3,c4⟩:=area_bounds b1 b2 b3 b4
 unfold figMask
 rw [bitsFrom_test,bitsFrom_test,Nat.zero_testBit,Bool.false_or]
 rw [show (a.any fun k => decide (0 + k.toNat = (w * (h + 1)).toNat + e)) = false from by
  rw [List.any_eq_false]; intro k hk; have:=inB_mem hi1 k hk; simp; omega]
 rw [Bool.false_or,Bool.eq_iff_iff,List.any_eq_true,decide_eq_true_iff]
 constructor
 ·rintro ⟨k,hk,hke⟩
  have:=inB_mem hi2 k hk
  simp at hke
  rw [show (e:Int) = k by omega]
  exact hk
 ·intro hm
  exact ⟨_,hm,by simp⟩
theorem set_l1 (w h:Int) (a u:List Int) (hL:u.length ≤ 4000000) (hw:wrap64 (w * wrap64 (h + 1)) = w * (h + 1)) (h0:0 ≤ w * (h + 1)) (h1:w * (h + 1) ≤ 20) (hu:∀ k ∈ u,0 ≤ k ∧ k ≤ 20):∀ (d k i:Nat) (m:Nat),u.length - i = d → i ≤ u.length → d < k → m < 2 ^ 60 →
  impl_Figure_set.l1 k (m:Int) u (u.length:Int) (i:Int) w h a u = some ((bitsFrom (w * (h + 1)).toNat (u.drop i) m:Nat):Int):=by
 intro d
 induction d with
 | zero =>
  intro k i m h2 h3 h4 h5
  obtain ⟨k,rfl⟩:∃ q,k = q + 1:=⟨k - 1,by omega⟩
  simp only [impl_Figure_set.l1]
  rw [if_neg (by omega),List.drop_of_length_le (by omega)]
  rfl
 | succ d ih =>
  intro k i m h2 h3 h4 h5
  obtain ⟨k,rfl⟩:∃ q,k = q + 1:=⟨k - 1,by omega⟩
  have hi:i < u.length:=by omega
  have hk:=hu u[i] (List.getElem_mem hi)
  have e2:wrap64 ((i:Int) + 1) = ((i + 1:Nat):Int):=by unfold wrap64; omega
  have e3:wrap64 (w * (h + 1) + u[i]) = (((w * (h + 1)).toNat + u[i].toNat:Nat):Int):=by unfold wrap64; omega
  have hlt:(w * (h + 1)).toNat + u[i].toNat < 60:=by omega
  simp only [impl_Figure_set.l1]
  unfold impl_Figure_grid.f impl_grid_levels.f
  rw [if_pos (by omega),if_pos (by omega),if_pos (by omega),rd_nat u i hi,Option.bind_some,Option.bind_some,hw,e3,if_pos (by omega),shl_u64 _ hlt,or_u64 _ _ h5 (pow_lt60 hlt),e2,
   ih k (i + 1) _ (by omega) (by omega) (by omega) (Nat.or_lt_two_pow h5 (pow_lt60 hlt)),List.drop_eq_getElem_cons hi]
  rfl
theorem set_l0 (w h:Int) (a u:List Int) (hL:a.length ≤ 4000000) (hLu:u.length ≤ 4000000) (hw:wrap64 (w * wrap64 (h + 1)) = w * (h + 1)) (h0:0 ≤ w * (h + 1)) (h1:w * (h + 1) ≤ 20) (ha:∀ k ∈ a,0 ≤ k ∧ k ≤ 20) (hu:∀ k ∈ u,0 ≤ k ∧ k ≤ 20):∀ (d k i:Nat) (m:Nat),a.length - i = d → i ≤ a.length → d + u.length + 2 < k → m < 2 ^ 60 →
  impl_Figure_set.l0 k (m:Int) a (a.length:Int) (i:Int) w h a u = some ((bitsFrom (w * (h + 1)).toNat u (bitsFrom 0 (a.drop i) m):Nat):Int):=by
 intro d
 induction d with
 | zero =>
  intro k i m h2 h3 h4 h5
  obtain ⟨k,rfl⟩:∃ q,k = q + 1:=⟨k - 1,by omega⟩
  simp only [impl_Figure_set.l0]
  rw [if_neg (by omega),List.drop_of_length_le (by omega)]
  exact set_l1 w h a u hLu hw h0 h1 hu u.length k 0 m (by omega) (by omega) (by omega) h5
 | succ d ih =>
  intro k i m h2 h3 h4 h5
  obtain ⟨k,rfl⟩:∃ q,k = q + 1:=⟨k - 1,by omega⟩
  have hi:i < a.length:=by omega
  have hk:=ha a[i] (List.getElem_mem hi)
  have e2:wrap64 ((i:Int) + 1) = ((i + 1:Nat):Int):=by unfold wrap64; omega
  have c1:(i:Int) < (a.length:Int):=Int.ofNat_lt.2 hi
  have c2:(0:Int) ≤ (i:Int):=Int.natCast_nonneg _
  have hr:=rd_nat a i hi
  have hd:=List.drop_eq_getElem_cons hi
  have n1:a.length - (i + 1) = d:=by clear hk hr hd c1 c2 ih h5 hw h0 h1 hu ha; omega
  have n2:i + 1 ≤ a.length:=hi
  have n3:d + u.length + 2 < k:=by clear hk hr hd c1 c2 ih h5 hw h0 h1 hu ha; omega
  have hih:=fun m hm => ih k (i + 1) m n1 n2 n3 hm
  generalize a[i] = x at hk hr hd
  obtain ⟨hk1,hk2⟩:=hk
  obtain ⟨y,rfl⟩:∃ y:Nat,x = (y:Int):=⟨x.toNat,(Int.toNat_of_nonneg hk1).symm⟩
  have hlt:y < 60:=by clear hr hd c1 c2 ih h5 hw h0 h1 hu ha hih; omega
  simp only [impl_Figure_set.l0]
  rw [if_pos c1,if_pos c2,if_pos c1,hr,if_pos hk1,shl_u64 _ hlt,or_u64 _ _ h5 (pow_lt60 hlt),e2,hih _ (Nat.or_lt_two_pow h5 (pow_lt60 hlt)),hd]
  unfold bitsFrom
  rw [List.foldl_cons,Nat.zero_add,Int.toNat_natCast]
theorem set_f {w h:Int} {a u:List Int} (hf:figB w h a u = true) (ha:a.length ≤ 1000000) (hu:u.length ≤ 1000000) (k:Nat) (hk:2000010 < k):impl_Figure_set.f k w h a u = some ((figMask w h a u:Nat):Int):=by
 unfold figB at hf
 simp only [Bool.and_eq_true] at hf
 obtain ⟨hg,-,-,hi1,hi2⟩:=hf
 obtain ⟨b1,b2,b3,b4⟩:=grid_bounds (by simp only [Bool.and_eq_true]; exact hg)
 obtain ⟨c1,c2,c3,c4⟩:=area_bounds b1 b2 b3 b4
 have e1:wrap64 (h + 1) = h + 1:=by unfold wrap64; omega
 have e3:wrap64 (w * (h + 1)) = w * (h + 1):=by unfold wrap64; omega
 unfold impl_Figure_set.f figMask
 have q:=set_l0 w h a u (by omega) (by omega) (by rw [e1,e3]) (by omega) (by omega) (fun k hk => by have:=inB_mem hi1 k hk; omega) (fun k hk => by have:=inB_mem hi2 k hk; omega) a.length k 0 0 (by omega) (by omega) (by clear hi1 hi2; omega) (by decide)
 rw [List.drop_zero] at q
 exact q


def diffN (s g:Nat):Nat:=s ^^^ (s &&& g)
theorem diffN_test (s g i:Nat):(diffN s g).testBit i = (s.testBit i && !g.testBit i):=by
  unfold diffN; rw [Nat.testBit_xor,Nat.testBit_and]; cases s.testBit i <;> cases g.testBit i <;> rfl
theorem diffN_lt {s:Nat} (g:Nat) {n:Nat} (h:s < 2 ^ n):diffN s g < 2 ^ n:=Nat.xor_lt_two_pow h (Nat.lt_of_le_of_lt Nat.and_le_left h)
theorem andNot_u64 (s g:Nat) (hs:s < 2 ^ 60) (hg:g < 2 ^ 60):bits .andNot .u64 (s:Int) (g:Int) = ((diffN s g:Nat):Int):=by
  have h1:(BitVec.ofInt 64 (s:Int)).toNat = s:=by
    rw [BitVec.ofInt_natCast,BitVec.toNat_ofNat]; exact Nat.mod_eq_of_lt (by omega)
  have h2:(BitVec.ofInt 64 (g:Int)).toNat = g:=by
    rw [BitVec.ofInt_natCast,BitVec.toNat_ofNat]; exact Nat.mod_eq_of_lt (by omega)
  have h3:s &&& (2 ^ 64 - (g + 1)) = diffN s g:=by
    apply Nat.eq_of_testBit_eq
    intro i
    rw [Nat.testBit_and,Nat.testBit_two_pow_sub_succ (by omega),diffN_test]
    rcases Nat.lt_or_ge i 64 with h | h
    · simp [h]
    · rw [Nat.testBit_lt_two_pow (Nat.lt_of_lt_of_le hs (Nat.pow_le_pow_right (by omega) (by omega)))]; simp
  have hd:=diffN_lt g hs
  show IntKind.u64.wrap ((BitVec.ofInt 64 (s:Int) &&& ~~~ BitVec.ofInt 64 (g:Int)).toNat:Int) = _
  rw [BitVec.toNat_and,BitVec.toNat_not,h1,h2,show 2 ^ 64 - 1 - g = 2 ^ 64 - (g + 1) by omega,h3]
  exact u64_small _ (Int.natCast_nonneg _) (by exact_mod_cast hd)
theorem andNot_i64 (s g:Nat) (hs:s < 2 ^ 60) (hg:g < 2 ^ 60):Go.bits .andNot .i64 (s:Int) (g:Int) = ((diffN s g:Nat):Int):=by
  have h1:(BitVec.ofInt 64 (s:Int)).toNat = s:=by
    rw [BitVec.ofInt_natCast,BitVec.toNat_ofNat]; exact Nat.mod_eq_of_lt (by omega)
  have h2:(BitVec.ofInt 64 (g:Int)).toNat = g:=by
    rw [BitVec.ofInt_natCast,BitVec.toNat_ofNat]; exact Nat.mod_eq_of_lt (by omega)
  have h3:s &&& (2 ^ 64 - (g + 1)) = diffN s g:=by
    apply Nat.eq_of_testBit_eq
    intro i
    rw [Nat.testBit_and,Nat.testBit_two_pow_sub_succ (by omega),diffN_test]
    rcases Nat.lt_or_ge i 64 with h | h
    · simp [h]
    · rw [Nat.testBit_lt_two_pow (Nat.lt_of_lt_of_le hs (Nat.pow_le_pow_right (by omega) (by omega)))]; simp
  have hd:=diffN_lt g hs
  show IntKind.i64.wrap ((BitVec.ofInt 64 (s:Int) &&& ~~~ BitVec.ofInt 64 (g:Int)).toNat:Int) = _
  rw [BitVec.toNat_and,BitVec.toNat_not,h1,h2,show 2 ^ 64 - 1 - g = 2 ^ 64 - (g + 1) by omega,h3]
  exact i64_small _ (Int.natCast_nonneg _) (by exact_mod_cast hd)

end Go.Proofs.YtehjfaddhmdicaaGreatDoor.P
namespace Go.Proofs.YtehjfaddhmdicaaGreatDoor.P
open Go.RowKit Go.Proofs.YtehjfaddhmdicaaGreatDoorW.PrintWords Go.Proofs.YtehjfaddhmdicaaGreatDoorW.PrintLast Go.Proofs.YtehjfaddhmdicaaGreatDoorW.PrintMore
attribute [local go_sem] max2_int min2_int max_two min_two max_three min_three max_four min_four   -- for this text's walks alone
set_option linter.unusedVariables false
set_option linter.unusedSimpArgs false

structure Ring (X Y:Nat → Int) (n:Nat):Prop where
  n4:4 ≤ n
  clX:X n = X 0
  clY:Y n = Y 0
  st:∀ i,i < n → (X (i + 1) = X i ∧ (Y (i + 1) = Y i + 1 ∨ Y (i + 1) = Y i - 1)) ∨ (Y (i + 1) = Y i ∧ (X (i + 1) = X i + 1 ∨ X (i + 1) = X i - 1))
  inj:∀ i j,i < j → j < n → X i = X j → Y i = Y j → False
namespace Ring
variable {X Y:Nat → Int} {n:Nat}
end Ring

end Go.Proofs.YtehjfaddhmdicaaGreatDoor.P
namespace Go.Proofs.YtehjfaddhmdicaaGreatDoor.P
open Go.RowKit Go.Proofs.YtehjfaddhmdicaaGreatDoorW.PrintWords Go.Proofs.YtehjfaddhmdicaaGreatDoorW.PrintLast Go.Proofs.YtehjfaddhmdicaaGreatDoorW.PrintMore
attribute [local go_sem] max2_int min2_int max_two min_two max_three min_three max_four min_four   -- for this text's walks alone
set_option linter.unusedVariables false
set_option linter.unusedSimpArgs false

def spec_sqBit.f (a0:Int) (a1:Int) (a2:Bool) (a3:Int):Option (Int):=if a2 = true then (if 0 ≤ (wrap64 ((wrap64 (a0 * (wrap64 (a1 + 1)))) + a3)) then (some (shl .i64 1 (wrap64 ((wrap64 (a0 * (wrap64 (a1 + 1)))) + a3)))) else (none)) else (if 0 ≤ a3 then (some (shl .i64 1 a3)) else (none))
set_option maxHeartbeats 8000000 in
set_option maxRecDepth 100000 in
theorem spec_sqBit.calls (a0:Int) (a1:Int) (a2:Bool) (a3:Int) (r:Int) (w:World) (h:spec_sqBit.f a0 a1 a2 a3 = some r) :
    Calls Tryz.prog 51 #[.int .i64 a0,.int .i64 a1,.bool a2,.int .i64 a3] w fun e w' => e = .returned (.int .i64 r) ∧ Drawn0 w w':=by
  have H:(if a2 = true then (if 0 ≤ (wrap64 ((wrap64 (a0 * (wrap64 (a1 + 1)))) + a3)) then (some (shl .i64 1 (wrap64 ((wrap64 (a0 * (wrap64 (a1 + 1)))) + a3)))) else (none)) else (if 0 ≤ a3 then (some (shl .i64 1 a3)) else (none))) = some r:=h
  clear h
  by_cases c5:a2 = true
  · subst c5
    have H1:(if 0 ≤ (wrap64 ((wrap64 (a0 * (wrap64 (a1 + 1)))) + a3)) then (some (shl .i64 1 (wrap64 ((wrap64 (a0 * (wrap64 (a1 + 1)))) + a3)))) else (none)) = some r:=by rw [if_pos rfl] at H; exact H
    clear H
    have H:=H1
    clear H1
    obtain ⟨ji6,hji6⟩:∃ j_:Int,(wrap64 ((wrap64 (a0 * (wrap64 (a1 + 1)))) + a3)) = j_:=⟨_,rfl⟩
    replace H:(if 0 ≤ (ji6) then (some (shl .i64 1 (ji6))) else (none)) = some r:=by first | (rw [hji6] at H; exact H) | (simp only [hji6] at H ⊢; exact H)
    have hji6w:(IntKind.i64.wrap ((wrap64 (a0 * (wrap64 (a1 + 1)))) + a3)) = ji6:=(i64_w _).trans hji6
    by_cases c7:0 ≤ (ji6)
    · rw [if_pos c7] at H
      have c7b0:=eq_true c7
      have c7b1:decide (0 ≤ (ji6)) = true:=decide_eq_true c7
      clear c7
      obtain ⟨ji8,hji8⟩:∃ j_:Int,(shl .i64 1 (ji6)) = j_:=⟨_,rfl⟩
      replace H:(some ji8) = some r:=by first | (rw [hji8] at H; exact H) | (simp only [hji8] at H ⊢; exact H)
      have hji8_:(IntKind.i64.wrap (1 * 2 ^ min (ji6).toNat 64)) = ji8:=hji8
      have hji8z:(ji6) ≤ 64 → (IntKind.i64.wrap (1 * 2 ^ (ji6).toNat)) = ji8:=shl_small hji8
      have hji8u:(IntKind.i64.wrap (2 ^ min (ji6).toNat 64)) = ji8:=by have h_:=hji8_; rw [Int.one_mul] at h_; exact h_
      have hji8v:(ji6) ≤ 64 → (IntKind.i64.wrap (2 ^ (ji6).toNat)) = ji8:=fun hle_ => by have h_:=hji8z hle_; rw [Int.one_mul] at h_; exact h_
      have hji8y:(wrap64 (1 * 2 ^ min (ji6).toNat 64)) = ji8:=(i64_w _).symm.trans hji8_
      have hji8x:(ji6) ≤ 64 → (wrap64 (1 * 2 ^ (ji6).toNat)) = ji8:=fun h_ => (i64_w _).symm.trans (hji8z h_)
      obtain rfl:=Option.some.inj H
      go_enter Tryz.func51,Tryz.ntmps51
      go_wp2
      go_ret
      exact ⟨by first | rfl | (simp; done) | (simp only [← hji6,← hji8] <;> (first | rfl | simp)) | (simp [*]; done),by repeat (first | exact Drawn0.refl _ | apply Drawn0.step)⟩
    · rw [if_neg c7] at H
      exact absurd H (by simp)
  · replace c5:=Bool.eq_false_iff.mpr c5
    subst c5
    have H1:(if 0 ≤ a3 then (some (shl .i64 1 a3)) else (none)) = some r:=by rw [if_neg (show ¬ (false = true) by decide)] at H; exact H
    clear H
    have H:=H1
    clear H1
    by_cases c9:0 ≤ a3
    · rw [if_pos c9] at H
      have c9b0:=eq_true c9
      have c9b1:decide (0 ≤ a3) = true:=decide_eq_true c9
      clear c9
      obtain ⟨ji10,hji10⟩:∃ j_:Int,(shl .i64 1 a3) = j_:=⟨_,rfl⟩
      replace H:(some ji10) = some r:=by first | (rw [hji10] at H; exact H) | (simp only [hji10] at H ⊢; exact H)
      have hji10_:(IntKind.i64.wrap (1 * 2 ^ min a3.toNat 64)) = ji10:=hji10
      have hji10z:a3 ≤ 64 → (IntKind.i64.wrap (1 * 2 ^ a3.toNat)) = ji10:=shl_small hji10
      have hji10u:(IntKind.i64.wrap (2 ^ min a3.toNat 64)) = ji10:=by have h_:=hji10_; rw [Int.one_mul] at h_; exact h_
      have hji10v:a3 ≤ 64 → (IntKind.i64.wrap (2 ^ a3.toNat)) = ji10:=fun hle_ => by have h_:=hji10z hle_; rw [Int.one_mul] at h_; exact h_
      have hji10y:(wrap64 (1 * 2 ^ min a3.toNat 64)) = ji10:=(i64_w _).symm.trans hji10_
      have hji10x:a3 ≤ 64 → (wrap64 (1 * 2 ^ a3.toNat)) = ji10:=fun h_ => (i64_w _).symm.trans (hji10z h_)
      obtain rfl:=Option.some.inj H
      go_enter Tryz.func51,Tryz.ntmps51
      go_wp2
      go_ret
      exact ⟨by first | rfl | (simp; done) | (simp only [← hji10] <;> (first | rfl | simp)) | (simp [*]; done),by repeat (first | exact Drawn0.refl _ | apply Drawn0.step)⟩
    · rw [if_neg c9] at H
      exact absurd H (by simp)


mutual
def spec_sqAround.l0:Nat → Int → Int → Int → Int → Int → Int → Int → Int → Option (Int)
 | 0,_,_,_,_,_,_,_,_ => none
 | k + 1,x0,x1,x2,x3,x4,x5,x13,x14 => if x14 < x4 then ((spec_sqBit.f x0 x1 false (wrap64 ((wrap64 ((wrap64 (x3 * x0)) + x2)) + x14))).bind fun t123 => ((spec_sqBit.f x0 x1 false (wrap64 ((wrap64 ((wrap64 ((wrap64 (x3 + x5)) * x0)) + x2)) + x14))).bind fun t124 => (spec_sqAround.l0 k x0 x1 x2 x3 x4 x5 (Go.bits .or .i64 x13 (Go.bits .or .i64 t123 t124)) (wrap64 (x14 + 1))))) else (spec_sqAround.l1 k x0 x1 x2 x3 x4 x5 x13 0)
def spec_sqAround.l1:Nat → Int → Int → Int → Int → Int → Int → Int → Int → Option (Int)
 | 0,_,_,_,_,_,_,_,_ => none
 | k + 1,x0,x1,x2,x3,x4,x5,x13,x15 => if x15 < x5 then ((spec_sqBit.f x0 x1 true (wrap64 ((wrap64 ((wrap64 (x3 + x15)) * (wrap64 (x0 + 1)))) + x2))).bind fun t125 => ((spec_sqBit.f x0 x1 true (wrap64 ((wrap64 ((wrap64 ((wrap64 (x3 + x15)) * (wrap64 (x0 + 1)))) + x2)) + x4))).bind fun t126 => (spec_sqAround.l1 k x0 x1 x2 x3 x4 x5 (Go.bits .or .i64 x13 (Go.bits .or .i64 t125 t126)) (wrap64 (x15 + 1))))) else (some x13)
end
def spec_sqAround.f (k:Nat) (a0:Int) (a1:Int) (a2:Int) (a3:Int) (a4:Int) (a5:Int):Option (Int):=spec_sqAround.l0 k a0 a1 a2 a3 a4 a5 0 0
theorem spec_sqAround.mono_l:∀ k,(∀ y0 y1 y2 y3 y4 y5 y6 y7,LeO (spec_sqAround.l0 k y0 y1 y2 y3 y4 y5 y6 y7) (spec_sqAround.l0 (k + 1) y0 y1 y2 y3 y4 y5 y6 y7)) ∧ (∀ y0 y1 y2 y3 y4 y5 y6 y7,LeO (spec_sqAround.l1 k y0 y1 y2 y3 y4 y5 y6 y7) (spec_sqAround.l1 (k + 1) y0 y1 y2 y3 y4 y5 y6 y7))
 | 0 => ⟨fun _ _ _ _ _ _ _ _ r h => by simp [spec_sqAround.l0] at h,fun _ _ _ _ _ _ _ _ r h => by simp [spec_sqAround.l1] at h⟩
 | k + 1 => by
  obtain ⟨ih0,ih1⟩:=spec_sqAround.mono_l k
  refine ⟨?_,?_⟩
  ·intro y0 y1 y2 y3 y4 y5 y6 y7
   unfold spec_sqAround.l0
   repeat' first | (with_reducible first | exact ih0 _ _ _ _ _ _ _ _ | exact ih1 _ _ _ _ _ _ _ _ | exact LeO.refl _ | exact LeO.none _ | refine LeO.ite ?_ ?_ | refine LeO.bind ?_ (fun _ => ?_)) | exact ih0 _ _ _ _ _ _ _ _ | exact ih1 _ _ _ _ _ _ _ _
  ·intro y0 y1 y2 y3 y4 y5 y6 y7
   unfold spec_sqAround.l1
   repeat' first | (with_reducible first | exact ih0 _ _ _ _ _ _ _ _ | exact ih1 _ _ _ _ _ _ _ _ | exact LeO.refl _ | exact LeO.none _ | refine LeO.ite ?_ ?_ | refine LeO.bind ?_ (fun _ => ?_)) | exact ih0 _ _ _ _ _ _ _ _ | exact ih1 _ _ _ _ _ _ _ _
theorem spec_sqAround.mono:∀ a0 a1 a2 a3 a4 a5 k,LeO (spec_sqAround.f k a0 a1 a2 a3 a4 a5) (spec_sqAround.f (k + 1) a0 a1 a2 a3 a4 a5):=by
 intro a0 a1 a2 a3 a4 a5 k
 obtain ⟨ih0,ih1⟩:=spec_sqAround.mono_l k
 unfold spec_sqAround.f
 repeat' first | (with_reducible first | exact ih0 _ _ _ _ _ _ _ _ | exact ih1 _ _ _ _ _ _ _ _ | exact LeO.refl _ | exact LeO.none _ | refine LeO.ite ?_ ?_ | refine LeO.bind ?_ (fun _ => ?_)) | exact ih0 _ _ _ _ _ _ _ _ | exact ih1 _ _ _ _ _ _ _ _
set_option maxHeartbeats 8000000 in
set_option maxRecDepth 100000 in
theorem spec_sqAround.calls (k:Nat) (a0:Int) (a1:Int) (a2:Int) (a3:Int) (a4:Int) (a5:Int) (r:Int) (w:World) (h:spec_sqAround.f k a0 a1 a2 a3 a4 a5 = some r) :
  Calls Tryz.prog 64 #[.int .i64 a0,.int .i64 a1,.int .i64 a2,.int .i64 a3,.int .i64 a4,.int .i64 a5] w fun e w' => e = .returned (.int .i64 r) ∧ Drawn0 w w':=by
 have H:(spec_sqAround.l0 k a0 a1 a2 a3 a4 a5 0 0) = some r:=h
 clear h
 have H':=am_ H
 clear H
 go_enter Tryz.func64,Tryz.ntmps64
 go_wp2
 go_loopg [13,14] k (fun kq v13 v14 w' => ∃ (x13_1:Int) (x14_1:Int),v13 = .int .i64 x13_1 ∧ v14 = .int .i64 x14_1 ∧ Aside0 (spec_sqAround.l0 kq a0 a1 a2 a3 a4 a5 x13_1 x14_1 = some r) ∧ Aside0 (kq ≤ k) ∧ Drawn0 w w')
 case atStart => exact ⟨(0),(0),rs_,rs_,H',⟨Nat.le_refl _⟩,by repeat (first | exact Drawn0.refl _ | apply Drawn0.step)⟩
 case round =>
  clear H'
  try clear p2
  try clear c6
  obtain ⟨x13_1,x14_1,rfl,rfl,HA,HK1,⟨m1,rfl⟩⟩:=hrel
  cases gk with
  | zero => exact absurd HA.out (by simp [spec_sqAround.l0])
  | succ k1 =>
   have H:=HA.out
   clear HA
   simp only [spec_sqAround.l0] at H
   by_cases c7:x14_1 < a4
   ·rw [if_pos c7] at H
    have c7b0:decide (x14_1 < a4) = true:=decide_eq_true c7
    clear c7
    replace H:=bi_ H
    obtain ⟨t123,A80,H⟩:=H
    replace H:((spec_sqBit.f a0 a1 false (wrap64 ((wrap64 ((wrap64 ((wrap64 (a3 + a5)) * a0)) + a2)) + x14_1))).bind fun t124 => (spec_sqAround.l0 k1 a0 a1 a2 a3 a4 a5 (Go.bits .or .i64 x13_1 (Go.bits .or .i64 t123 t124)) (wrap64 (x14_1 + 1)))) = some r:=H
    have A8:=am_ A80
    clear A80
    replace H:=bi_ H
    obtain ⟨t124,A90,H⟩:=H
    replace H:(spec_sqAround.l0 k1 a0 a1 a2 a3 a4 a5 (Go.bits .or .i64 x13_1 (Go.bits .or .i64 t123 t124)) (wrap64 (x14_1 + 1))) = some r:=H
    have A9:=am_ A90
    clear A90
    have H':=am_ H
    clear H
    go_wp2_with (first | ((with_reducible refine gate_callee (f:=51) rfl ?_); refine goesL_ (some 31) rfl rfl Tryz.func51 (by kernel_rfl) rfl #[.int .i64 a0,.int .i64 a1,.bool false,.int .i64 (wrap64 ((wrap64 ((wrap64 (a3 * a0)) + a2)) + x14_1))] rfl ob_ ?_; (with_reducible refine (spec_sqBit.calls a0 a1 false (wrap64 ((wrap64 ((wrap64 (a3 * a0)) + a2)) + x14_1)) t123 _ A8.out).mono ?_); rintro e w' ⟨rfl,⟨nd,rfl⟩⟩; refine ⟨_,rfl,?_⟩) | ((with_reducible refine gate_callee (f:=51) rfl ?_); refine goesL_ (some 43) rfl rfl Tryz.func51 (by kernel_rfl) rfl #[.int .i64 a0,.int .i64 a1,.bool false,.int .i64 (wrap64 ((wrap64 ((wrap64 ((wrap64 (a3 + a5)) * a0)) + a2)) + x14_1))] rfl ob_ ?_; (with_reducible refine (spec_sqBit.calls a0 a1 false (wrap64 ((wrap64 ((wrap64 ((wrap64 (a3 + a5)) * a0)) + a2)) + x14_1)) t124 _ A9.out).mono ?_); rintro e w' ⟨rfl,⟨nd,rfl⟩⟩; refine ⟨_,rfl,?_⟩))
    go_roundg k1
    case measure => have:=HK1.out; omega
    case rel => exact ⟨(Go.bits .or .i64 x13_1 (Go.bits .or .i64 t123 t124)),(wrap64 (x14_1 + 1)),rs_,rs_,H',⟨by have:=HK1.out; omega⟩,by repeat (first | exact Drawn0.refl _ | apply Drawn0.step)⟩
   ·rw [if_neg c7] at H
    have c7b0:decide (x14_1 < a4) = false:=decide_eq_false c7
    clear c7
    have H':=am_ H
    clear H
    go_wp2
    go_loopg [13,15] k1 (fun kq v13 v15 w' => ∃ (x13_2:Int) (x15_2:Int),v13 = .int .i64 x13_2 ∧ v15 = .int .i64 x15_2 ∧ Aside0 (spec_sqAround.l1 kq a0 a1 a2 a3 a4 a5 x13_2 x15_2 = some r) ∧ Aside0 (kq ≤ k1) ∧ Drawn0 w w')
    case atStart => exact ⟨(x13_1),(0),rs_,rs_,H',⟨Nat.le_refl _⟩,by repeat (first | exact Drawn0.refl _ | apply Drawn0.step)⟩
    case round =>
     clear H'
     try clear p2
     try clear c5
     try clear c6
     try clear p6
     try clear c7
     try clear c7b0
     try clear p2
     obtain ⟨x13_2,x15_2,rfl,rfl,HA,HK2,⟨m2,rfl⟩⟩:=hrel
     cases gk with
     | zero => exact absurd HA.out (by simp [spec_sqAround.l1])
     | succ k2 =>
      have H:=HA.out
      clear HA
      simp only [spec_sqAround.l1] at H
      by_cases c10:x15_2 < a5
      ·rw [if_pos c10] at H
       have c10b0:decide (x15_2 < a5) = true:=decide_eq_true c10
       clear c10
       replace H:=bi_ H
       obtain ⟨t125,A110,H⟩:=H
       replace H:((spec_sqBit.f a0 a1 true (wrap64 ((wrap64 ((wrap64 ((wrap64 (a3 + x15_2)) * (wrap64 (a0 + 1)))) + a2)) + a4))).bind fun t126 => (spec_sqAround.l1 k2 a0 a1 a2 a3 a4 a5 (Go.bits .or .i64 x13_2 (Go.bits .or .i64 t125 t126)) (wrap64 (x15_2 + 1)))) = some r:=H
       have A11:=am_ A110
       clear A110
       replace H:=bi_ H
       obtain ⟨t126,A120,H⟩:=H
       replace H:(spec_sqAround.l1 k2 a0 a1 a2 a3 a4 a5 (Go.bits .or .i64 x13_2 (Go.bits .or .i64 t125 t126)) (wrap64 (x15_2 + 1))) = some r:=H
       have A12:=am_ A120
       clear A120
       have H':=am_ H
       clear H
       go_wp2_with (first | ((with_reducible refine gate_callee (f:=51) rfl ?_); refine goesL_ (some 62) rfl rfl Tryz.func51 (by kernel_rfl) rfl #[.int .i64 a0,.int .i64 a1,.bool true,.int .i64 (wrap64 ((wrap64 ((wrap64 (a3 + x15_2)) * (wrap64 (a0 + 1)))) + a2))] rfl ob_ ?_; (with_reducible refine (spec_sqBit.calls a0 a1 true (wrap64 ((wrap64 ((wrap64 (a3 + x15_2)) * (wrap64 (a0 + 1)))) + a2)) t125 _ A11.out).mono ?_); rintro e w' ⟨rfl,⟨nd,rfl⟩⟩; refine ⟨_,rfl,?_⟩) | ((with_reducible refine gate_callee (f:=51) rfl ?_); refine goesL_ (some 75) rfl rfl Tryz.func51 (by kernel_rfl) rfl #[.int .i64 a0,.int .i64 a1,.bool true,.int .i64 (wrap64 ((wrap64 ((wrap64 ((wrap64 (a3 + x15_2)) * (wrap64 (a0 + 1)))) + a2)) + a4))] rfl ob_ ?_; (with_reducible refine (spec_sqBit.calls a0 a1 true (wrap64 ((wrap64 ((wrap64 ((wrap64 (a3 + x15_2)) * (wrap64 (a0 + 1)))) + a2)) + a4)) t126 _ A12.out).mono ?_); rintro e w' ⟨rfl,⟨nd,rfl⟩⟩; refine ⟨_,rfl,?_⟩))
       go_roundg k2
       case measure => have:=HK1.out; have:=HK2.out; omega
       case rel => exact ⟨(Go.bits .or .i64 x13_2 (Go.bits .or .i64 t125 t126)),(wrap64 (x15_2 + 1)),rs_,rs_,H',⟨by have:=HK1.out; have:=HK2.out; omega⟩,by repeat (first | exact Drawn0.refl _ | apply Drawn0.step)⟩
      ·rw [if_neg c10] at H
       have c10b0:decide (x15_2 < a5) = false:=decide_eq_false c10
       clear c10
       obtain rfl:=Option.some.inj H
       go_wp2
       go_ret
       exact ⟨by first | rfl | (simp; done) | (simp [*]; done),by repeat (first | exact Drawn0.refl _ | apply Drawn0.step)⟩


mutual
def spec_sqAll.l0:Nat → Int → Int → List (S85) → Int → Option ((List (S85)))
 | 0,_,_,_,_ => none
 | k + 1,x0,x1,x5,x6 => if x6 ≤ x0 then (spec_sqAll.j1 k x0 x1 x5 x6 (decide (x6 ≤ x1))) else (spec_sqAll.j1 k x0 x1 x5 x6 false)
def spec_sqAll.j1:Nat → Int → Int → List (S85) → Int → Bool → Option ((List (S85)))
 | 0,_,_,_,_,_ => none
 | k + 1,x0,x1,x5,x6,x16 => if x16 = true then (spec_sqAll.l1 k x0 x1 x5 x6 0) else (some x5)
def spec_sqAll.l1:Nat → Int → Int → List (S85) → Int → Int → Option ((List (S85)))
 | 0,_,_,_,_,_ => none
 | k + 1,x0,x1,x5,x6,x7 => if (wrap64 (x7 + x6)) ≤ x1 then (spec_sqAll.l2 k x0 x1 x5 x6 x7 0) else (spec_sqAll.l0 k x0 x1 x5 (wrap64 (x6 + 1)))
def spec_sqAll.l2:Nat → Int → Int → List (S85) → Int → Int → Int → Option ((List (S85)))
 | 0,_,_,_,_,_,_ => none
 | k + 1,x0,x1,x5,x6,x7,x8 => if (wrap64 (x8 + x6)) ≤ x0 then ((spec_sqAround.f k x0 x1 x8 x7 x6 x6).bind fun t127 => (if x5.length < 4398046511104 then (spec_sqAll.l2 k x0 x1 (x5 ++ [(⟨x8,x7,x6,t127⟩:S85)]) x6 x7 (wrap64 (x8 + 1))) else (none))) else (spec_sqAll.l1 k x0 x1 x5 x6 (wrap64 (x7 + 1)))
end
def spec_sqAll.f (k:Nat) (a0:Int) (a1:Int):Option ((List (S85))):=spec_sqAll.l0 k a0 a1 ([]:List (S85)) 1
theorem spec_sqAll.mono_l:∀ k,(∀ y0 y1 y2 y3,LeO (spec_sqAll.l0 k y0 y1 y2 y3) (spec_sqAll.l0 (k + 1) y0 y1 y2 y3)) ∧ (∀ y0 y1 y2 y3 y4,LeO (spec_sqAll.j1 k y0 y1 y2 y3 y4) (spec_sqAll.j1 (k + 1) y0 y1 y2 y3 y4)) ∧ (∀ y0 y1 y2 y3 y4,LeO (spec_sqAll.l1 k y0 y1 y2 y3 y4) (spec_sqAll.l1 (k + 1) y0 y1 y2 y3 y4)) ∧ (∀ y0 y1 y2 y3 y4 y5,LeO (spec_sqAll.l2 k y0 y1 y2 y3 y4 y5) (spec_sqAll.l2 (k + 1) y0 y1 y2 y3 y4 y5))
 | 0 => ⟨fun _ _ _ _ r h => by simp [spec_sqAll.l0] at h,fun _ _ _ _ _ r h => by simp [spec_sqAll.j1] at h,fun _ _ _ _ _ r h => by simp [spec_sqAll.l1] at h,fun _ _ _ _ _ _ r h => by simp [spec_sqAll.l2] at h⟩
 | k + 1 => by
  obtain ⟨ih0,ih1,ih2,ih3⟩:=spec_sqAll.mono_l k
  refine ⟨?_,?_,?_,?_⟩
  ·intro y0 y1 y2 y3
   unfold spec_sqAll.l0
   repeat' first | (with_reducible first | exact ih0 _ _ _ _ | exact ih1 _ _ _ _ _ | exact ih2 _ _ _ _ _ | exact ih3 _ _ _ _ _ _ | exact spec_sqAround.mono _ _ _ _ _ _ _ | exact LeO.refl _ | exact LeO.none _ | refine LeO.ite ?_ ?_ | refine LeO.bind ?_ (fun _ => ?_)) | exact ih0 _ _ _ _ | exact ih1 _ _ _ _ _ | exact ih2 _ _ _ _ _ | exact ih3 _ _ _ _ _ _ | exact spec_sqAround.mono _ _ _ _ _ _ _
  ·intro y0 y1 y2 y3 y4
   unfold spec_sqAll.j1
   repeat' first | (with_reducible first | exact ih0 _ _ _ _ | exact ih1 _ _ _ _ _ | exact ih2 _ _ _ _ _ | exact ih3 _ _ _ _ _ _ | exact spec_sqAround.mono _ _ _ _ _ _ _ | exact LeO.refl _ | exact LeO.none _ | refine LeO.ite ?_ ?_ | refine LeO.bind ?_ (fun _ => ?_)) | exact ih0 _ _ _ _ | exact ih1 _ _ _ _ _ | exact ih2 _ _ _ _ _ | exact ih3 _ _ _ _ _ _ | exact spec_sqAround.mono _ _ _ _ _ _ _
  ·intro y0 y1 y2 y3 y4
   unfold spec_sqAll.l1
   repeat' first | (with_reducible first | exact ih0 _ _ _ _ | exact ih1 _ _ _ _ _ | exact ih2 _ _ _ _ _ | exact ih3 _ _ _ _ _ _ | exact spec_sqAround.mono _ _ _ _ _ _ _ | exact LeO.refl _ | exact LeO.none _ | refine LeO.ite ?_ ?_ | refine LeO.bind ?_ (fun _ => ?_)) | exact ih0 _ _ _ _ | exact ih1 _ _ _ _ _ | exact ih2 _ _ _ _ _ | exact ih3 _ _ _ _ _ _ | exact spec_sqAround.mono _ _ _ _ _ _ _
  ·intro y0 y1 y2 y3 y4 y5
   unfold spec_sqAll.l2
   repeat' first | (with_reducible first | exact ih0 _ _ _ _ | exact ih1 _ _ _ _ _ | exact ih2 _ _ _ _ _ | exact ih3 _ _ _ _ _ _ | exact spec_sqAround.mono _ _ _ _ _ _ _ | exact LeO.refl _ | exact LeO.none _ | refine LeO.ite ?_ ?_ | refine LeO.bind ?_ (fun _ => ?_)) | exact ih0 _ _ _ _ | exact ih1 _ _ _ _ _ | exact ih2 _ _ _ _ _ | exact ih3 _ _ _ _ _ _ | exact spec_sqAround.mono _ _ _ _ _ _ _
theorem spec_sqAll.mono:∀ a0 a1 k,LeO (spec_sqAll.f k a0 a1) (spec_sqAll.f (k + 1) a0 a1):=by
 intro a0 a1 k
 obtain ⟨ih0,ih1,ih2,ih3⟩:=spec_sqAll.mono_l k
 unfold spec_sqAll.f
 repeat' first | (with_reducible first | exact ih0 _ _ _ _ | exact ih1 _ _ _ _ _ | exact ih2 _ _ _ _ _ | exact ih3 _ _ _ _ _ _ | exact spec_sqAround.mono _ _ _ _ _ _ _ | exact LeO.refl _ | exact LeO.none _ | refine LeO.ite ?_ ?_ | refine LeO.bind ?_ (fun _ => ?_)) | exact ih0 _ _ _ _ | exact ih1 _ _ _ _ _ | exact ih2 _ _ _ _ _ | exact ih3 _ _ _ _ _ _ | exact spec_sqAround.mono _ _ _ _ _ _ _
set_option maxHeartbeats 8000000 in
set_option maxRecDepth 100000 in
theorem spec_sqAll.calls (k:Nat) (a0:Int) (a1:Int) (r:List (S85)) (w:World) (h:spec_sqAll.f k a0 a1 = some r) :
  Calls Tryz.prog 47 #[.int .i64 a0,.int .i64 a1] w fun e w' => ∃ v0_:Value,e = .returned (v0_) ∧ Kd.R k85 85 w' w.heap.size (fun _ => True) v0_ r ∧ Below w.heap.size w w':=by
 have hu85:=Tryz.underlying85
 have HB:=am_ (Below.refl w.heap.size w)
 have H:(spec_sqAll.l0 k a0 a1 ([]:List (S85)) 1) = some r:=h
 clear h
 have H':=am_ H
 clear H
 go_enter Tryz.func47,Tryz.ntmps47
 go_wp2
 go_loopg [5,6] k (fun kq v5 v6 w' => ∃ (x5_1:List (S85)) (x6_1:Int),v6 = .int .i64 x6_1 ∧ Aside0 (spec_sqAll.l0 kq a0 a1 x5_1 x6_1 = some r) ∧ Aside0 (kq ≤ k) ∧ Aside0 (Kd.R k85 85 w' w.heap.size (fun _ => True) v5 x5_1) ∧ Aside0 (Below w.heap.size w w'))
 case atStart => exact ⟨(([]:List (S85))),(1),rs_,H',⟨Nat.le_refl _⟩,⟨by first | exact Kd.R_nil _ _ _ _ _ | exact Kd.N_nil _ _ _ _ _ | exact Kd.V_nil _ _ _ _ _ | exact Kd.Q_nil _ _ _ _ _ | exact Kd.S_nil _ _ _ _ _⟩,⟨bl0_ HB.out⟩⟩
 case round =>
  clear H'
  try clear p2
  obtain ⟨x5_1,x6_1,rfl,HA,HK1,HO_5,HB⟩:=hrel
  cases gk with
  | zero => exact absurd HA.out (by simp [spec_sqAll.l0])
  | succ k1 =>
   have H:=HA.out
   clear HA
   simp only [spec_sqAll.l0] at H
   have HC3:=am_ H
   clear H
   go_upto_region 3 with (fail)
   go_cut [16] (fun v16 wc => ∃ (kq:Nat) (x16_2:Bool),v16 = .bool x16_2 ∧ Aside0 (spec_sqAll.j1 kq a0 a1 x5_1 x6_1 x16_2 = some r) ∧ Aside0 (kq ≤ k1) ∧ Aside0 (Kd.R k85 85 wc w.heap.size (fun _ => True) u5 x5_1) ∧ Aside0 (Below w.heap.size w wc))
   case first =>
    have H:=HC3.out
    clear HC3
    by_cases c4:x6_1 ≤ a0
    ·rw [if_pos c4] at H
     have c4b0:decide (x6_1 ≤ a0) = true:=decide_eq_true c4
     clear c4
     (first | rw [c4b0] | (simp only [i64_w,i32_w]; rw [c4b0]) | skip)
     have H':=am_ H
     clear H
     go_wp2
     go_meet
     case rel => exact ⟨_,(decide (x6_1 ≤ a1)),rs_,H',⟨by have:=HK1.out; first | omega | exact Nat.le_refl _⟩,⟨kr_ HO_5.out⟩,⟨bl0_ HB.out⟩⟩
    ·rw [if_neg c4] at H
     have c4b0:decide (x6_1 ≤ a0) = false:=decide_eq_false c4
     clear c4
     (first | rw [c4b0] | (simp only [i64_w,i32_w]; rw [c4b0]) | skip)
     have H':=am_ H
     clear H
     go_wp2
     go_meet
     case rel => exact ⟨_,(false),rs_,H',⟨by have:=HK1.out; first | omega | exact Nat.le_refl _⟩,⟨kr_ HO_5.out⟩,⟨bl0_ HB.out⟩⟩
   case rest =>
    clear HC3
    try clear p2
    try clear c4
    try clear c4b0
    try clear p2
    obtain ⟨kq,x16_2,rfl,HA,HJ2,HO_5,HB⟩:=hcut
    cases kq with
    | zero => exact absurd HA.out (by simp [spec_sqAll.j1])
    | succ kj2 =>
     have H:=HA.out
     clear HA
     simp only [spec_sqAll.j1] at H
     by_cases c5:x16_2 = true
     ·subst c5
      have H1:(spec_sqAll.l1 kj2 a0 a1 x5_1 x6_1 0) = some r:=by rw [if_pos rfl] at H; exact H
      clear H
      have H:=H1
      clear H1
      have H':=am_ H
      clear H
      go_wp2
      go_loopg [5,7] kj2 (fun kq v5 v7 w' => ∃ (x5_3:List (S85)) (x7_3:Int),v7 = .int .i64 x7_3 ∧ Aside0 (spec_sqAll.l1 kq a0 a1 x5_3 x6_1 x7_3 = some r) ∧ Aside0 (kq ≤ kj2) ∧ Aside0 (Kd.R k85 85 w' w.heap.size (fun _ => True) v5 x5_3) ∧ Aside0 (Below w.heap.size w w'))
      case atStart => exact ⟨(x5_1),(0),rs_,H',⟨Nat.le_refl _⟩,⟨kr_ HO_5.out⟩,⟨bl0_ HB.out⟩⟩
      case round =>
       clear H'
       try clear p2
       try clear c4
       try clear c4b0
       try clear c5
       try clear p2
       obtain ⟨x5_3,x7_3,rfl,HA,HK3,HO_5,HB⟩:=hrel
       cases gk with
       | zero => exact absurd HA.out (by simp [spec_sqAll.l1])
       | succ k3 =>
        have H:=HA.out
        clear HA
        simp only [spec_sqAll.l1] at H
        by_cases c6:(wrap64 (x7_3 + x6_1)) ≤ a1
        ·rw [if_pos c6] at H
         have c6b0:decide ((wrap64 (x7_3 + x6_1)) ≤ a1) = true:=decide_eq_true c6
         clear c6
         have H':=am_ H
         clear H
         go_wp2
         go_loopg [5,8] k3 (fun kq v5 v8 w' => ∃ (x5_4:List (S85)) (x8_4:Int),v8 = .int .i64 x8_4 ∧ Aside0 (spec_sqAll.l2 kq a0 a1 x5_4 x6_1 x7_3 x8_4 = some r) ∧ Aside0 (kq ≤ k3) ∧ Aside0 (Kd.R k85 85 w' w.heap.size (fun _ => True) v5 x5_4) ∧ Aside0 (Below w.heap.size w w'))
         case atStart => exact ⟨(x5_3),(0),rs_,H',⟨Nat.le_refl _⟩,⟨kr_ HO_5.out⟩,⟨bl0_ HB.out⟩⟩
         case round =>
          clear H'
          try clear p2
          try clear c4
          try clear c4b0
          try clear c5
          try clear c6
          try clear c6b0
          try clear p6
          try clear p2
          obtain ⟨x5_4,x8_4,rfl,HA,HK4,HO_5,HB⟩:=hrel
          cases gk with
          | zero => exact absurd HA.out (by simp [spec_sqAll.l2])
          | succ k4 =>
           have H:=HA.out
           clear HA
           simp only [spec_sqAll.l2] at H
           by_cases c7:(wrap64 (x8_4 + x6_1)) ≤ a0
           ·rw [if_pos c7] at H
            have c7b0:decide ((wrap64 (x8_4 + x6_1)) ≤ a0) = true:=decide_eq_true c7
            clear c7
            replace H:=bi_ H
            obtain ⟨t127,A80,H⟩:=H
            replace H:(if x5_4.length < 4398046511104 then (spec_sqAll.l2 k4 a0 a1 (x5_4 ++ [(⟨x8_4,x7_3,x6_1,t127⟩:S85)]) x6_1 x7_3 (wrap64 (x8_4 + 1))) else (none)) = some r:=H
            have A8:=am_ A80
            clear A80
            by_cases c9:x5_4.length < 4398046511104
            ·rw [if_pos c9] at H
             have LMc9:=am_ c9
             clear c9
             obtain ⟨y128,hy128⟩:∃ y_:List (S85),y_ = (x5_4 ++ [(⟨x8_4,x7_3,x6_1,t127⟩:S85)]):=⟨_,rfl⟩
             replace H:(spec_sqAll.l2 k4 a0 a1 y128 x6_1 x7_3 (wrap64 (x8_4 + 1))) = some r:=by first | (rw [hy128]; with_reducible exact H) | (have H2_:=(Option.bind_some _ _).symm.trans H; rw [hy128]; with_reducible exact H2_) | (have H2_:=(Option.bind_some _ _).symm.trans H; with_reducible exact H2_) | with_reducible exact H | (rw [hy128]; exact H) | exact H
             have Ny128:=am_ hy128
             clear hy128
             have H':=am_ H
             clear H
             go_wp2_with (first | ((with_reducible refine gate_callee (f:=64) rfl ?_); refine goesL_ (some 43) rfl rfl Tryz.func64 (by kernel_rfl) rfl #[.int .i64 a0,.int .i64 a1,.int .i64 x8_4,.int .i64 x7_3,.int .i64 x6_1,.int .i64 x6_1] rfl ob_ ?_; (with_reducible refine (spec_sqAround.calls k4 a0 a1 x8_4 x7_3 x6_1 x6_1 t127 _ A8.out).mono ?_); rintro e w' ⟨rfl,⟨nd,rfl⟩⟩; refine ⟨_,rfl,?_⟩) | ((with_reducible refine gate_builtin (b:=.append) (xs:=#[.tmp 33,.tmp 45]) rfl ?_); at_builtin; refine Kd.R_append k85 (w0:=w) w.heap.size rfl (.tmp 33) (.tmp 45) 64 85 (.agg #[(.int .i64 0),(.int .i64 0),(.int .i64 0),(.int .i64 0)]) 32 rfl Tryz.underlying64 info85 rfl (by decide) (by omega) u5 x5_4 (⟨x8_4,x7_3,x6_1,t127⟩:S85) [.int .i64 x8_4,.int .i64 x7_3,.int .i64 x6_1,.int .i64 t127] (fun _ => True) (fun _ => False) rfl rfl ?aP (fun _ hk => hk.elim) ?aF ?aO ?aB ?aS ?aL ?_; (case aP => exact k85_mkM _ _ _ (⟨x8_4,x7_3,x6_1,t127⟩:S85)); (case aB => exact (bl0_ HB.out)); (case aF => exact (fun _ _ => trivial)); (case aO => exact (kr_ HO_5.out)); (case aS => exact (below_size (bl0_ HB.out))); (case aL => have:=LMc9.out; omega); intro v129 w10 ho hb hg hat; rw [← Ny128.out] at ho; have n0_:=am_ (hb); have n1_:=am_ (ho); clear HB; clear HO_5; have HB:=n0_; have HO130:=n1_; clear n0_ n1_; clear ho hb hg hat))
             go_roundg k4
             case measure => have:=HK1.out; have:=HJ2.out; have:=HK3.out; have:=HK4.out; omega
             case rel => exact ⟨(y128),(wrap64 (x8_4 + 1)),rs_,H',⟨by have:=HK1.out; have:=HJ2.out; have:=HK3.out; have:=HK4.out; omega⟩,⟨kr_ HO130.out⟩,⟨bl0_ HB.out⟩⟩
            ·rw [if_neg c9] at H
             exact absurd H (by simp)
           ·rw [if_neg c7] at H
            have c7b0:decide ((wrap64 (x8_4 + x6_1)) ≤ a0) = false:=decide_eq_false c7
            clear c7
            have H':=am_ H
            clear H
            go_wp2
            go_roundg k4
            case measure => have:=HK1.out; have:=HJ2.out; have:=HK3.out; have:=HK4.out; omega
            case rel => exact ⟨(x5_4),(wrap64 (x7_3 + 1)),rs_,H',⟨by have:=HK1.out; have:=HJ2.out; have:=HK3.out; have:=HK4.out; omega⟩,⟨kr_ HO_5.out⟩,⟨bl0_ HB.out⟩⟩
        ·rw [if_neg c6] at H
         have c6b0:decide ((wrap64 (x7_3 + x6_1)) ≤ a1) = false:=decide_eq_false c6
         clear c6
         have H':=am_ H
         clear H
         go_wp2
         go_roundg k3
         case measure => have:=HK1.out; have:=HJ2.out; have:=HK3.out; omega
         case rel => exact ⟨(x5_3),(wrap64 (x6_1 + 1)),rs_,H',⟨by have:=HK1.out; have:=HJ2.out; have:=HK3.out; omega⟩,⟨kr_ HO_5.out⟩,⟨bl0_ HB.out⟩⟩
     ·replace c5:=Bool.eq_false_iff.mpr c5
      subst c5
      have H1:(some x5_1) = some r:=by rw [if_neg (show ¬ (false = true) by decide)] at H; exact H
      clear H
      have H:=H1
      clear H1
      obtain rfl:=Option.some.inj H
      go_wp2
      go_ret
      exact ⟨_,er_,by (with_reducible repeat (first | apply Kd.R_alloc | apply Kd.R_drewN | apply Kd.R_drew)); exact HO_5.out,bl0_ HB.out⟩


mutual
def spec_sqMask.l0:Nat → Int → List Int → Int → Int → Int → Int → List Int → List Int → Option (Int)
 | 0,_,_,_,_,_,_,_,_ => none
 | k + 1,x3,x9,x10,x11,x132000,x132001,x132002,x132003 => if x11 < x10 then (if 0 ≤ x11 then (if x11 < (x9.length:Int) then ((spec_sqBit.f x132000 x132001 false (rd x9 x11)).bind fun t133 => (spec_sqMask.l0 k (Go.bits .or .i64 x3 t133) x9 x10 (wrap64 (x11 + 1)) x132000 x132001 x132002 x132003)) else (none)) else (none)) else (spec_sqMask.l1 k x3 x132003 (x132003.length:Int) 0 x132000 x132001 x132002 x132003)
def spec_sqMask.l1:Nat → Int → List Int → Int → Int → Int → Int → List Int → List Int → Option (Int)
 | 0,_,_,_,_,_,_,_,_ => none
 | k + 1,x3,x25,x26,x27,x132000,x132001,x132002,x132003 => if x27 < x26 then (if 0 ≤ x27 then (if x27 < (x25.length:Int) then ((spec_sqBit.f x132000 x132001 true (rd x25 x27)).bind fun t135 => (spec_sqMask.l1 k (Go.bits .or .i64 x3 t135) x25 x26 (wrap64 (x27 + 1)) x132000 x132001 x132002 x132003)) else (none)) else (none)) else (some x3)
end
def spec_sqMask.f (k:Nat) (a0_0:Int) (a0_1:Int) (l0_2:List Int) (l0_3:List Int):Option (Int):=spec_sqMask.l0 k 0 l0_2 (l0_2.length:Int) 0 a0_0 a0_1 l0_2 l0_3
theorem spec_sqMask.mono_l:∀ k,(∀ y0 y1 y2 y3 y4 y5 y6 y7,LeO (spec_sqMask.l0 k y0 y1 y2 y3 y4 y5 y6 y7) (spec_sqMask.l0 (k + 1) y0 y1 y2 y3 y4 y5 y6 y7)) ∧ (∀ y0 y1 y2 y3 y4 y5 y6 y7,LeO (spec_sqMask.l1 k y0 y1 y2 y3 y4 y5 y6 y7) (spec_sqMask.l1 (k + 1) y0 y1 y2 y3 y4 y5 y6 y7))
 | 0 => ⟨fun _ _ _ _ _ _ _ _ r h => by simp [spec_sqMask.l0] at h,fun _ _ _ _ _ _ _ _ r h => by simp [spec_sqMask.l1] at h⟩
 | k + 1 => by
  obtain ⟨ih0,ih1⟩:=spec_sqMask.mono_l k
  refine ⟨?_,?_⟩
  ·intro y0 y1 y2 y3 y4 y5 y6 y7
   unfold spec_sqMask.l0
   repeat' first | (with_reducible first | exact ih0 _ _ _ _ _ _ _ _ | exact ih1 _ _ _ _ _ _ _ _ | exact LeO.refl _ | exact LeO.none _ | refine LeO.ite ?_ ?_ | refine LeO.bind ?_ (fun _ => ?_)) | exact ih0 _ _ _ _ _ _ _ _ | exact ih1 _ _ _ _ _ _ _ _
  ·intro y0 y1 y2 y3 y4 y5 y6 y7
   unfold spec_sqMask.l1
   repeat' first | (with_reducible first | exact ih0 _ _ _ _ _ _ _ _ | exact ih1 _ _ _ _ _ _ _ _ | exact LeO.refl _ | exact LeO.none _ | refine LeO.ite ?_ ?_ | refine LeO.bind ?_ (fun _ => ?_)) | exact ih0 _ _ _ _ _ _ _ _ | exact ih1 _ _ _ _ _ _ _ _
theorem spec_sqMask.mono:∀ a0 a1 a2 a3 k,LeO (spec_sqMask.f k a0 a1 a2 a3) (spec_sqMask.f (k + 1) a0 a1 a2 a3):=by
 intro a0 a1 a2 a3 k
 obtain ⟨ih0,ih1⟩:=spec_sqMask.mono_l k
 unfold spec_sqMask.f
 repeat' first | (with_reducible first | exact ih0 _ _ _ _ _ _ _ _ | exact ih1 _ _ _ _ _ _ _ _ | exact LeO.refl _ | exact LeO.none _ | refine LeO.ite ?_ ?_ | refine LeO.bind ?_ (fun _ => ?_)) | exact ih0 _ _ _ _ _ _ _ _ | exact ih1 _ _ _ _ _ _ _ _
set_option maxHeartbeats 8000000 in
set_option maxRecDepth 100000 in
theorem spec_sqMask.calls (k:Nat) (a0_0:Int) (a0_1:Int) (A0_2:Option Addr) (c0_2:Nat) (l0_2:List Int) (A0_3:Option Addr) (c0_3:Nat) (l0_3:List Int) (r:Int) (w:World) (hr0_2:Kd.C (Kd.int .i64) w A0_2 l0_2.length l0_2) (hc0_2:l0_2.length ≤ c0_2) (hr0_3:Kd.C (Kd.int .i64) w A0_3 l0_3.length l0_3) (hc0_3:l0_3.length ≤ c0_3) (h:spec_sqMask.f k a0_0 a0_1 l0_2 l0_3 = some r) :
  Calls Tryz.prog 65 #[.agg #[.int .i64 a0_0,.int .i64 a0_1,.slice A0_2 l0_2.length c0_2,.slice A0_3 l0_3.length c0_3]] w fun e w' => e = .returned (.int .i64 r) ∧ Below w.heap.size w w':=by
 have hu26:=Tryz.underlying26
 have HR0_2:=am_ hr0_2
 have HC0_2:=am_ hc0_2
 clear hr0_2 hc0_2
 have HR0_3:=am_ hr0_3
 have HC0_3:=am_ hc0_3
 clear hr0_3 hc0_3
 have HB:=am_ (Below.refl w.heap.size w)
 have H:(spec_sqMask.l0 k 0 l0_2 (l0_2.length:Int) 0 a0_0 a0_1 l0_2 l0_3) = some r:=h
 clear h
 have H':=am_ H
 clear H
 go_enter Tryz.func65,Tryz.ntmps65
 go_wp2_with (first | ((with_reducible refine gate_dst (N:=1) rfl ?_); refine boxE_ (N:=1) (cs:=#[.int .i64 a0_0,.int .i64 a0_1,.slice A0_2 l0_2.length c0_2,.slice A0_3 l0_3.length c0_3]) (t:=26) ?_; intro gb131 hg w2 hbox hb; have n0_:=am_ (below_step (bl0_ HB.out) hb); have n1_:=am_ (hbox); have n2_:=am_ ((bs0_ hg HB.out:w.heap.size ≤ gb131)); have n3_:=am_ ((bs0_ hg HB.out:w.heap.size ≤ gb131)); clear HB; have HB:=n0_; have BK131:=n1_; have GW131:=n2_; have GE131:=n3_; clear n0_ n1_ n2_ n3_; clear hb hbox hg; have hcz3_0:w2.cell? ⟨gb131,0,none⟩ = some (.int .i64 a0_0):=(bc_ BK131.out 0).trans rfl; have hcz3_1:w2.cell? ⟨gb131,1,none⟩ = some (.int .i64 a0_1):=(bc_ BK131.out 1).trans rfl; have hcz3_2:w2.cell? ⟨gb131,2,none⟩ = some (.slice A0_2 l0_2.length c0_2):=(bc_ BK131.out 2).trans rfl; have hcz3_3:w2.cell? ⟨gb131,3,none⟩ = some (.slice A0_3 l0_3.length c0_3):=(bc_ BK131.out 3).trans rfl; have hfz3_0:=bz_ BK131.out 0; have hfz3_1:=bz_ BK131.out 1; have hfz3_2:=bz_ BK131.out 2; have hfz3_3:=bz_ BK131.out 3))
 go_loopg [3,11] k (fun kq v3 v11 w' => ∃ (x3_1:Int) (x11_1:Int),v3 = .int .i64 x3_1 ∧ v11 = .int .i64 x11_1 ∧ Aside0 (spec_sqMask.l0 kq x3_1 l0_2 (l0_2.length:Int) x11_1 a0_0 a0_1 l0_2 l0_3 = some r) ∧ Aside0 (kq ≤ k) ∧ Aside0 (w'.heap[gb131]? = some (.cells #[.int .i64 a0_0,.int .i64 a0_1,(.slice A0_2 l0_2.length c0_2),(.slice A0_3 l0_3.length c0_3)] 26 (0,0))) ∧ Aside0 (Below w.heap.size w w'))
 case atStart => exact ⟨(0),(0),rs_,rs_,H',⟨Nat.le_refl _⟩,⟨bk_ BK131.out⟩,⟨bl1_ HB.out GE131.out⟩⟩
 case round =>
  clear H'
  try clear p2
  try clear hcz3_0
  try clear hcz3_1
  try clear hcz3_2
  try clear hcz3_3
  try clear hfz3_0
  try clear hfz3_1
  try clear hfz3_2
  try clear hfz3_3
  obtain ⟨x3_1,x11_1,rfl,rfl,HA,HK1,BK131,HB⟩:=hrel
  cases gk with
  | zero => exact absurd HA.out (by simp [spec_sqMask.l0])
  | succ k1 =>
   have H:=HA.out
   clear HA
   simp only [spec_sqMask.l0] at H
   by_cases c4:x11_1 < (l0_2.length:Int)
   ·rw [if_pos c4] at H
    have c4b0:decide (x11_1 < (l0_2.length:Int)) = true:=decide_eq_true c4
    clear c4
    by_cases c5:0 ≤ x11_1
    ·rw [if_pos c5] at H
     have c5b0:decide (0 ≤ x11_1) = true:=decide_eq_true c5
     clear c5
     by_cases c6:x11_1 < (l0_2.length:Int)
     ·rw [if_pos c6] at H
      have c6b0:decide (x11_1 < (l0_2.length:Int)) = true:=decide_eq_true c6
      clear c6
      replace H:=bi_ H
      obtain ⟨t133,A70,H⟩:=H
      replace H:(spec_sqMask.l0 k1 (Go.bits .or .i64 x3_1 t133) l0_2 (l0_2.length:Int) (wrap64 (x11_1 + 1)) a0_0 a0_1 l0_2 l0_3) = some r:=H
      have A7:=am_ A70
      clear A70
      have H':=am_ H
      clear H
      have p132:0 ≤ (x11_1:Int):=of_decide_eq_true as_
      have q132:x11_1 < (l0_2.length:Int):=of_decide_eq_true as_
      obtain ⟨ad132,e132,hx132_0⟩:=Kd.at_int HR0_2.out x11_1 p132 q132
      cases e132
      replace hx132_0:=(HB.out.cell (wl_ w _ hx132_0)).trans hx132_0
      replace p132:=eq_true p132
      replace q132:=eq_true q132
      have hcz8_0:wr.cell? ⟨gb131,0,none⟩ = some (.int .i64 a0_0):=(bc_ BK131.out 0).trans rfl
      have hcz8_1:wr.cell? ⟨gb131,1,none⟩ = some (.int .i64 a0_1):=(bc_ BK131.out 1).trans rfl
      have hcz8_2:wr.cell? ⟨gb131,2,none⟩ = some (.slice (some ad132) l0_2.length c0_2):=(bc_ BK131.out 2).trans rfl
      have hcz8_3:wr.cell? ⟨gb131,3,none⟩ = some (.slice A0_3 l0_3.length c0_3):=(bc_ BK131.out 3).trans rfl
      have hfz8_0:=bz_ BK131.out 0
      have hfz8_1:=bz_ BK131.out 1
      have hfz8_2:=bz_ BK131.out 2
      have hfz8_3:=bz_ BK131.out 3
      go_wp2_with (first | ((with_reducible refine gate_callee (f:=51) rfl ?_); refine goesL_ (some 21) rfl rfl Tryz.func51 (by kernel_rfl) rfl #[.int .i64 a0_0,.int .i64 a0_1,.bool false,.int .i64 (rd l0_2 x11_1)] rfl ob_ ?_; (with_reducible refine (spec_sqBit.calls a0_0 a0_1 false (rd l0_2 x11_1) t133 _ A7.out).mono ?_); rintro e w' ⟨rfl,⟨nd,rfl⟩⟩; refine ⟨_,rfl,?_⟩))
      go_roundg k1
      case measure => have:=HK1.out; omega
      case rel => exact ⟨(Go.bits .or .i64 x3_1 t133),(wrap64 (x11_1 + 1)),rs_,rs_,H',⟨by have:=HK1.out; omega⟩,⟨bk_ BK131.out⟩,⟨bl1_ HB.out GE131.out⟩⟩
     ·rw [if_neg c6] at H
      exact absurd H (by simp)
    ·rw [if_neg c5] at H
     exact absurd H (by simp)
   ·rw [if_neg c4] at H
    have c4b0:decide (x11_1 < (l0_2.length:Int)) = false:=decide_eq_false c4
    clear c4
    have H':=am_ H
    clear H
    have hcz9_0:wr.cell? ⟨gb131,0,none⟩ = some (.int .i64 a0_0):=(bc_ BK131.out 0).trans rfl
    have hcz9_1:wr.cell? ⟨gb131,1,none⟩ = some (.int .i64 a0_1):=(bc_ BK131.out 1).trans rfl
    have hcz9_2:wr.cell? ⟨gb131,2,none⟩ = some (.slice A0_2 l0_2.length c0_2):=(bc_ BK131.out 2).trans rfl
    have hcz9_3:wr.cell? ⟨gb131,3,none⟩ = some (.slice A0_3 l0_3.length c0_3):=(bc_ BK131.out 3).trans rfl
    have hfz9_0:=bz_ BK131.out 0
    have hfz9_1:=bz_ BK131.out 1
    have hfz9_2:=bz_ BK131.out 2
    have hfz9_3:=bz_ BK131.out 3
    go_wp2
    go_loopg [3,27] k1 (fun kq v3 v27 w' => ∃ (x3_2:Int) (x27_2:Int),v3 = .int .i64 x3_2 ∧ v27 = .int .i64 x27_2 ∧ Aside0 (spec_sqMask.l1 kq x3_2 l0_3 (l0_3.length:Int) x27_2 a0_0 a0_1 l0_2 l0_3 = some r) ∧ Aside0 (kq ≤ k1) ∧ Aside0 (w'.heap[gb131]? = some (.cells #[.int .i64 a0_0,.int .i64 a0_1,(.slice A0_2 l0_2.length c0_2),(.slice A0_3 l0_3.length c0_3)] 26 (0,0))) ∧ Aside0 (Below w.heap.size w w'))
    case atStart => exact ⟨(x3_1),(0),rs_,rs_,H',⟨Nat.le_refl _⟩,⟨bk_ BK131.out⟩,⟨bl1_ HB.out GE131.out⟩⟩
    case round =>
     clear H'
     try clear p1
     try clear q1
     try clear hx1
     try clear p2
     try clear c4
     try clear c4b0
     try clear c5
     try clear c5b0
     try clear c6
     try clear c6b0
     try clear p6
     try clear hcz3_0
     try clear hcz3_1
     try clear hcz3_2
     try clear hcz3_3
     try clear hcz8_0
     try clear hcz8_1
     try clear hcz8_2
     try clear hcz8_3
     try clear hcz9_0
     try clear hcz9_1
     try clear hcz9_2
     try clear hcz9_3
     try clear hfz3_0
     try clear hfz3_1
     try clear hfz3_2
     try clear hfz3_3
     try clear hfz8_0
     try clear hfz8_1
     try clear hfz8_2
     try clear hfz8_3
     try clear hfz9_0
     try clear hfz9_1
     try clear hfz9_2
     try clear hfz9_3
     try clear hx132_0
     try clear p132
     try clear p2
     try clear q132
     obtain ⟨x3_2,x27_2,rfl,rfl,HA,HK2,BK131,HB⟩:=hrel
     cases gk with
     | zero => exact absurd HA.out (by simp [spec_sqMask.l1])
     | succ k2 =>
      have H:=HA.out
      clear HA
      simp only [spec_sqMask.l1] at H
      by_cases c10:x27_2 < (l0_3.length:Int)
      ·rw [if_pos c10] at H
       have c10b0:decide (x27_2 < (l0_3.length:Int)) = true:=decide_eq_true c10
       clear c10
       by_cases c11:0 ≤ x27_2
       ·rw [if_pos c11] at H
        have c11b0:decide (0 ≤ x27_2) = true:=decide_eq_true c11
        clear c11
        by_cases c12:x27_2 < (l0_3.length:Int)
        ·rw [if_pos c12] at H
         have c12b0:decide (x27_2 < (l0_3.length:Int)) = true:=decide_eq_true c12
         clear c12
         replace H:=bi_ H
         obtain ⟨t135,A130,H⟩:=H
         replace H:(spec_sqMask.l1 k2 (Go.bits .or .i64 x3_2 t135) l0_3 (l0_3.length:Int) (wrap64 (x27_2 + 1)) a0_0 a0_1 l0_2 l0_3) = some r:=H
         have A13:=am_ A130
         clear A130
         have H':=am_ H
         clear H
         have p134:0 ≤ (x27_2:Int):=of_decide_eq_true as_
         have q134:x27_2 < (l0_3.length:Int):=of_decide_eq_true as_
         obtain ⟨ad134,e134,hx134_0⟩:=Kd.at_int HR0_3.out x27_2 p134 q134
         cases e134
         replace hx134_0:=(HB.out.cell (wl_ w _ hx134_0)).trans hx134_0
         replace p134:=eq_true p134
         replace q134:=eq_true q134
         have hcz14_0:wr.cell? ⟨gb131,0,none⟩ = some (.int .i64 a0_0):=(bc_ BK131.out 0).trans rfl
         have hcz14_1:wr.cell? ⟨gb131,1,none⟩ = some (.int .i64 a0_1):=(bc_ BK131.out 1).trans rfl
         have hcz14_2:wr.cell? ⟨gb131,2,none⟩ = some (.slice A0_2 l0_2.length c0_2):=(bc_ BK131.out 2).trans rfl
         have hcz14_3:wr.cell? ⟨gb131,3,none⟩ = some (.slice (some ad134) l0_3.length c0_3):=(bc_ BK131.out 3).trans rfl
         have hfz14_0:=bz_ BK131.out 0
         have hfz14_1:=bz_ BK131.out 1
         have hfz14_2:=bz_ BK131.out 2
         have hfz14_3:=bz_ BK131.out 3
         go_wp2_with (first | ((with_reducible refine gate_callee (f:=51) rfl ?_); refine goesL_ (some 37) rfl rfl Tryz.func51 (by kernel_rfl) rfl #[.int .i64 a0_0,.int .i64 a0_1,.bool true,.int .i64 (rd l0_3 x27_2)] rfl ob_ ?_; (with_reducible refine (spec_sqBit.calls a0_0 a0_1 true (rd l0_3 x27_2) t135 _ A13.out).mono ?_); rintro e w' ⟨rfl,⟨nd,rfl⟩⟩; refine ⟨_,rfl,?_⟩))
         go_roundg k2
         case measure => have:=HK1.out; have:=HK2.out; omega
         case rel => exact ⟨(Go.bits .or .i64 x3_2 t135),(wrap64 (x27_2 + 1)),rs_,rs_,H',⟨by have:=HK1.out; have:=HK2.out; omega⟩,⟨bk_ BK131.out⟩,⟨bl1_ HB.out GE131.out⟩⟩
        ·rw [if_neg c12] at H
         exact absurd H (by simp)
       ·rw [if_neg c11] at H
        exact absurd H (by simp)
      ·rw [if_neg c10] at H
       have c10b0:decide (x27_2 < (l0_3.length:Int)) = false:=decide_eq_false c10
       clear c10
       obtain rfl:=Option.some.inj H
       go_wp2
       go_ret
       exact ⟨er_,bl1_ HB.out GE131.out⟩


def impl_grid_level.f (a0_0:Int) (a0_1:Int) (a1:Int) (a2:Int):Option (Int):=if 0 ≤ (wrap64 ((wrap64 (a2 * a0_0)) + a1)) then (some (shl .u64 1 (wrap64 ((wrap64 (a2 * a0_0)) + a1)))) else (none)
set_option maxHeartbeats 8000000 in
set_option maxRecDepth 100000 in
theorem impl_grid_level.calls (a0_0:Int) (a0_1:Int) (a1:Int) (a2:Int) (r:Int) (w:World) (h:impl_grid_level.f a0_0 a0_1 a1 a2 = some r) :
    Calls Tryz.prog 103 #[.agg #[.int .i64 a0_0,.int .i64 a0_1],.int .i64 a1,.int .i64 a2] w fun e w' => e = .returned (.int .u64 r) ∧ Below w.heap.size w w':=by
  have hu56:=Tryz.underlying56
  have HB:=am_ (Below.refl w.heap.size w)
  have H:(if 0 ≤ (wrap64 ((wrap64 (a2 * a0_0)) + a1)) then (some (shl .u64 1 (wrap64 ((wrap64 (a2 * a0_0)) + a1)))) else (none)) = some r:=h
  clear h
  obtain ⟨ji4,hji4⟩:∃ j_:Int,(wrap64 ((wrap64 (a2 * a0_0)) + a1)) = j_:=⟨_,rfl⟩
  replace H:(if 0 ≤ (ji4) then (some (shl .u64 1 (ji4))) else (none)) = some r:=by first | (rw [hji4] at H; exact H) | (simp only [hji4] at H ⊢; exact H)
  have hji4w:(IntKind.i64.wrap ((wrap64 (a2 * a0_0)) + a1)) = ji4:=(i64_w _).trans hji4
  by_cases c5:0 ≤ (ji4)
  · rw [if_pos c5] at H
    have c5b0:=eq_true c5
    have c5b1:decide (0 ≤ (ji4)) = true:=decide_eq_true c5
    clear c5
    obtain ⟨ji6,hji6⟩:∃ j_:Int,(shl .u64 1 (ji4)) = j_:=⟨_,rfl⟩
    replace H:(some ji6) = some r:=by first | (rw [hji6] at H; exact H) | (simp only [hji6] at H ⊢; exact H)
    have hji6_:(IntKind.u64.wrap (1 * 2 ^ min (ji4).toNat 64)) = ji6:=hji6
    have hji6z:(ji4) ≤ 64 → (IntKind.u64.wrap (1 * 2 ^ (ji4).toNat)) = ji6:=shl_small hji6
    have hji6u:(IntKind.u64.wrap (2 ^ min (ji4).toNat 64)) = ji6:=by have h_:=hji6_; rw [Int.one_mul] at h_; exact h_
    have hji6v:(ji4) ≤ 64 → (IntKind.u64.wrap (2 ^ (ji4).toNat)) = ji6:=fun hle_ => by have h_:=hji6z hle_; rw [Int.one_mul] at h_; exact h_
    obtain rfl:=Option.some.inj H
    go_enter Tryz.func103,Tryz.ntmps103
    go_wp2_with (first | ((with_reducible refine gate_dst (N:=3) rfl ?_); refine boxE_ (N:=3) (cs:=#[.int .i64 a0_0,.int .i64 a0_1]) (t:=56) ?_; intro gb234 hg w7 hbox hb; have n0_:=am_ (below_step (bl0_ HB.out) hb); have n1_:=am_ (hbox); have n2_:=am_ ((bs0_ hg HB.out:w.heap.size ≤ gb234)); have n3_:=am_ ((bs0_ hg HB.out:w.heap.size ≤ gb234)); clear HB; have HB:=n0_; have BK234:=n1_; have GW234:=n2_; have GE234:=n3_; clear n0_ n1_ n2_ n3_; clear hb hbox hg; have hcz8_0:w7.cell? ⟨gb234,0,none⟩ = some (.int .i64 a0_0):=(bc_ BK234.out 0).trans rfl; have hcz8_1:w7.cell? ⟨gb234,1,none⟩ = some (.int .i64 a0_1):=(bc_ BK234.out 1).trans rfl; have hfz8_0:=bz_ BK234.out 0; have hfz8_1:=bz_ BK234.out 1))
    go_ret
    exact ⟨by first | rfl | (simp [errW_none,errW_some] <;> rfl) | (simp only [← hji4,← hji6]; first | rfl | (simp [errW_none,errW_some] <;> rfl)) | (simp [*,errW_none,errW_some] <;> rfl),bl1_ HB.out GE234.out⟩
  · rw [if_neg c5] at H
    exact absurd H (by simp)


def impl_grid_upright.f (a0_0:Int) (a0_1:Int) (a1:Int) (a2:Int):Option (Int):=(impl_grid_levels.f a0_0 a0_1).bind fun t237 => (if 0 ≤ (wrap64 ((wrap64 (t237 + (wrap64 (a2 * (wrap64 (a0_0 + 1)))))) + a1)) then (some (shl .u64 1 (wrap64 ((wrap64 (t237 + (wrap64 (a2 * (wrap64 (a0_0 + 1)))))) + a1)))) else (none))
def impl_grid_upright.T1:Bool × List (List Nat × List Nat):=(true,[([],[]),([0],[0]),([],[]),([],[]),([3],[3]),([4],[4]),([2,5],[2,5]),([1,6],[1,6]),([],[]),([7,8],[7,8]),([9],[9]),([10,1,0,1,2,3,4,5,6,7,8,9,10],[10])])
def impl_grid_upright.B1:List Nat:=[0,1,0,0,8,24,60,127,0,511,1023,2047]
theorem impl_grid_upright.tab1:rtab .any (opsOf Tryz.f105 1) = impl_grid_upright.T1:=by kernel_rfl
theorem impl_grid_upright.bits1:waitsOk impl_grid_upright.T1.2 impl_grid_upright.B1 = true:=by kernel_rfl
set_option maxHeartbeats 8000000 in
set_option maxRecDepth 100000 in
theorem impl_grid_upright.calls (a0_0:Int) (a0_1:Int) (a1:Int) (a2:Int) (r:Int) (w:World) (h:impl_grid_upright.f a0_0 a0_1 a1 a2 = some r) :
  Calls Tryz.prog 105 #[.agg #[.int .i64 a0_0,.int .i64 a0_1],.int .i64 a1,.int .i64 a2] w fun e w' => e = .returned (.int .u64 r) ∧ Below w.heap.size w w':=by
 have hu56:=Tryz.underlying56
 have HB:=am_ (Below.refl w.heap.size w)
 have H:((impl_grid_levels.f a0_0 a0_1).bind fun t237 => (if 0 ≤ (wrap64 ((wrap64 (t237 + (wrap64 (a2 * (wrap64 (a0_0 + 1)))))) + a1)) then (some (shl .u64 1 (wrap64 ((wrap64 (t237 + (wrap64 (a2 * (wrap64 (a0_0 + 1)))))) + a1)))) else (none))) = some r:=h
 clear h
 replace H:=bi_ H
 obtain ⟨t237,A40,H⟩:=H
 replace H:(if 0 ≤ (wrap64 ((wrap64 (t237 + (wrap64 (a2 * (wrap64 (a0_0 + 1)))))) + a1)) then (some (shl .u64 1 (wrap64 ((wrap64 (t237 + (wrap64 (a2 * (wrap64 (a0_0 + 1)))))) + a1)))) else (none)) = some r:=H
 have A4:=am_ A40
 clear A40
 obtain ⟨ji5,hji5⟩:∃ j_:Int,(wrap64 ((wrap64 (t237 + (wrap64 (a2 * (wrap64 (a0_0 + 1)))))) + a1)) = j_:=⟨_,rfl⟩
 replace H:(if 0 ≤ (ji5) then (some (shl .u64 1 (ji5))) else (none)) = some r:=by first | (rw [hji5] at H; exact H) | (simp only [hji5] at H ⊢; exact H)
 (try rw [hji5] at A4)
 have hji5w:(IntKind.i64.wrap ((wrap64 (t237 + (wrap64 (a2 * (wrap64 (a0_0 + 1)))))) + a1)) = ji5:=(i64_w _).trans hji5
 by_cases c6:0 ≤ (ji5)
 ·rw [if_pos c6] at H
  have c6b0:=eq_true c6
  have c6b1:decide (0 ≤ (ji5)) = true:=decide_eq_true c6
  clear c6
  obtain ⟨ji7,hji7⟩:∃ j_:Int,(shl .u64 1 (ji5)) = j_:=⟨_,rfl⟩
  replace H:(some ji7) = some r:=by first | (rw [hji7] at H; exact H) | (simp only [hji7] at H ⊢; exact H)
  (try rw [hji7] at A4)
  have hji7_:(IntKind.u64.wrap (1 * 2 ^ min (ji5).toNat 64)) = ji7:=hji7
  have hji7z:(ji5) ≤ 64 → (IntKind.u64.wrap (1 * 2 ^ (ji5).toNat)) = ji7:=shl_small hji7
  have hji7u:(IntKind.u64.wrap (2 ^ min (ji5).toNat 64)) = ji7:=by have h_:=hji7_; rw [Int.one_mul] at h_; exact h_
  have hji7v:(ji5) ≤ 64 → (IntKind.u64.wrap (2 ^ (ji5).toNat)) = ji7:=fun hle_ => by have h_:=hji7z hle_; rw [Int.one_mul] at h_; exact h_
  obtain rfl:=Option.some.inj H
  go_enter Tryz.func105,Tryz.ntmps105
  try go_wp2_with (first | ((with_reducible refine gate_dst (N:=3) rfl ?_); refine boxE_ (N:=3) (cs:=#[.int .i64 a0_0,.int .i64 a0_1]) (t:=56) ?_; intro gb236 hg w8 hbox hb; have n0_:=am_ (below_step (bl0_ HB.out) hb); have n1_:=am_ (hbox); have n2_:=am_ ((bs0_ hg HB.out:w.heap.size ≤ gb236)); have n3_:=am_ ((bs0_ hg HB.out:w.heap.size ≤ gb236)); clear HB; have HB:=n0_; have BK236:=n1_; have GW236:=n2_; have GE236:=n3_; clear n0_ n1_ n2_ n3_; clear hb hbox hg))
  have n0_:=am_ (blk_drew BK236.out)
  have n1_:=am_ (below_drew1 HB.out)
  clear BK236
  clear HB
  have BK236:=n0_
  have HB:=n1_
  clear n0_ n1_
  refine start_ (n:=12) (S:=fun w' => w'.cell? ⟨gb236,0,none⟩ = some (.int .i64 a0_0) ∧ w'.cell? ⟨gb236,1,none⟩ = some (.int .i64 a0_1)) (ds:=[]) #[false,false,false,false,false,false,false,false,false,false,false,false] (by kernel_rfl) rfl rfl ⟨(bc_ BK236.out 0).trans rfl,(bc_ BK236.out 1).trans rfl⟩ (fun hHeld => ?_); refine with_tabW impl_grid_upright.tab1 impl_grid_upright.bits1 (fun HT_ HW_ => ?_)
  generalize w8.drew = w9 at BK236 HB hHeld ⊢
  refine pure_ (i:=2) (N:=some 9) (v:=?_) (a':=?_) #[false,false,true,false,false,false,false,false,false,false,false,false] rfl rfl (any_of HT_.out (by kernel_rfl)) (fun _ _ _ h => h) (Or.inl ⟨by rfl,?_⟩) ?_ ?_
  rotate_left
  ·intro w'
   go_simp
   with_reducible rfl
  rotate_left
  ·simp only [Act.put,List.setIfInBounds_toArray,List.set_cons_zero,List.set_cons_succ,i64_w,i32_w]
   rfl
  refine pure_ (i:=3) (N:=some 10) (v:=?_) (a':=?_) #[false,false,true,true,false,false,false,false,false,false,false,false] rfl rfl (any_of HT_.out (by kernel_rfl)) (fun _ _ _ h => h) (Or.inl ⟨by rfl,?_⟩) ?_ ?_
  rotate_left
  ·intro w'
   go_simp
   with_reducible rfl
  rotate_left
  ·simp only [Act.put,List.setIfInBounds_toArray,List.set_cons_zero,List.set_cons_succ,i64_w,i32_w]
   rfl
  refine pure_ (i:=8) (N:=some 15) (v:=?_) (a':=?_) #[false,false,true,true,false,false,false,false,true,false,false,false] rfl rfl (any_of HT_.out (by kernel_rfl)) (fun _ _ _ h => h) (Or.inl ⟨by rfl,?_⟩) ?_ ?_
  rotate_left
  ·intro w'
   go_simp
   with_reducible rfl
  rotate_left
  ·simp only [Act.put,List.setIfInBounds_toArray,List.set_cons_zero,List.set_cons_succ,i64_w,i32_w]
   rfl
  refine take_ (i:=0) (N:=some 7) (v:=?_) (a':=?_) #[true,false,true,true,false,false,false,false,true,false,false,false] rfl rfl (take_ofW HT_.out HW_.out (by kernel_rfl)) (fun _ _ _ h => h) (Or.inl ⟨by rfl,?_⟩) hHeld ?_ ?_
  rotate_left
  ·rintro w' ⟨s0,s1⟩
   go_simp
   with_reducible rfl
  rotate_left
  ·simp only [Act.put,List.setIfInBounds_toArray,List.set_cons_zero,List.set_cons_succ,i64_w,i32_w]
   rfl
  refine take_ (i:=4) (N:=some 11) (v:=?_) (a':=?_) #[true,false,true,true,true,false,false,false,true,false,false,false] rfl rfl (take_ofW HT_.out HW_.out (by kernel_rfl)) (fun _ _ _ h => h) (Or.inl ⟨by rfl,?_⟩) hHeld ?_ ?_
  rotate_left
  ·rintro w' ⟨s0,s1⟩
   go_simp
   with_reducible rfl
  rotate_left
  ·simp only [Act.put,List.setIfInBounds_toArray,List.set_cons_zero,List.set_cons_succ,i64_w,i32_w]
   rfl
  refine pure_ (i:=5) (N:=some 12) (v:=?_) (a':=?_) #[true,false,true,true,true,true,false,false,true,false,false,false] rfl rfl (any_of HT_.out (by kernel_rfl)) (fun _ _ _ h => h) (Or.inl ⟨by rfl,?_⟩) ?_ ?_
  rotate_left
  ·intro w'
   go_simp
   with_reducible rfl
  rotate_left
  ·simp only [Act.put,List.setIfInBounds_toArray,List.set_cons_zero,List.set_cons_succ,i64_w,i32_w]
   rfl
  refine pure_ (i:=6) (N:=some 13) (v:=?_) (a':=?_) #[true,false,true,true,true,true,true,false,true,false,false,false] rfl rfl (any_of HT_.out (by kernel_rfl)) (fun _ _ _ h => h) (Or.inl ⟨by rfl,?_⟩) ?_ ?_
  rotate_left
  ·intro w'
   go_simp
   with_reducible rfl
  rotate_left
  ·simp only [Act.put,List.setIfInBounds_toArray,List.set_cons_zero,List.set_cons_succ,i64_w,i32_w]
   rfl
  refine one_ (i:=1) (N:=some 8) #[true,true,true,true,true,true,true,false,true,false,false,false] rfl rfl (one_of HT_.out (by kernel_rfl)) (by decide) (fun K hK => ?_)
  refine goes_ Tryz.func72 (by kernel_rfl) rfl #[.agg #[.int .i64 a0_0,.int .i64 a0_1]] (by rfl) rfl rfl ob_ ?_
  with_reducible refine (impl_grid_levels.calls a0_0 a0_1 t237 _ A4.out).mono ?_
  rintro e w10 ⟨rfl,hb⟩
  refine ⟨_,rfl,?_⟩
  have n0_:=am_ (bb_ BK236.out hb)
  have n1_:=am_ (below_step (bl1_ HB.out GE236.out) hb)
  clear BK236
  clear HB
  have BK236:=n0_
  have HB:=n1_
  clear n0_ n1_
  (try clear hb)
  (try clear hb2)
  (try clear hk)
  (try clear hi)
  refine hK.out _ _ ⟨(bc_ BK236.out 0).trans rfl,(bc_ BK236.out 1).trans rfl⟩ (fun hHeld => ?_)
  clear hK K
  refine norm_ (a':=?_) ?_ ?_
  rotate_left
  ·show Act.put _ (some 8) _ = _
   simp only [Act.put,List.setIfInBounds_toArray,List.set_cons_zero,List.set_cons_succ,i64_w,i32_w]
   rfl
  refine pure_ (i:=7) (N:=some 14) (v:=?_) (a':=?_) #[true,true,true,true,true,true,true,true,true,false,false,false] rfl rfl (any_of HT_.out (by kernel_rfl)) (fun _ _ _ h => h) (Or.inl ⟨by rfl,?_⟩) ?_ ?_
  rotate_left
  ·intro w'
   go_simp
   with_reducible rfl
  rotate_left
  ·simp only [Act.put,List.setIfInBounds_toArray,List.set_cons_zero,List.set_cons_succ,i64_w,i32_w]
   rfl
  refine pure_ (i:=9) (N:=some 16) (v:=?_) (a':=?_) #[true,true,true,true,true,true,true,true,true,true,false,false] rfl rfl (any_of HT_.out (by kernel_rfl)) (fun _ _ _ h => h) (Or.inl ⟨by rfl,?_⟩) ?_ ?_
  rotate_left
  ·intro w'
   go_simp
   with_reducible rfl
  rotate_left
  ·simp only [Act.put,List.setIfInBounds_toArray,List.set_cons_zero,List.set_cons_succ,i64_w,i32_w]
   rfl
  refine pure_ (i:=10) (N:=some 17) (v:=?_) (a':=?_) #[true,true,true,true,true,true,true,true,true,true,true,false] rfl rfl (any_of HT_.out (by kernel_rfl)) (fun _ _ _ h => h) (Or.inl ⟨by rfl,?_⟩) ?_ ?_
  rotate_left
  ·intro w'
   go_simp
   with_reducible rfl
  rotate_left
  ·simp only [Act.put,List.setIfInBounds_toArray,List.set_cons_zero,List.set_cons_succ,i64_w,i32_w]
   rfl
  refine pure_ (i:=11) (N:=some 6) (v:=?_) (a':=?_) #[true,true,true,true,true,true,true,true,true,true,true,true] rfl rfl (any_of HT_.out (by kernel_rfl)) (fun _ _ _ h => h) (Or.inl ⟨by rfl,?_⟩) ?_ ?_
  rotate_left
  ·intro w'
   go_simp
   with_reducible rfl
  rotate_left
  ·simp only [Act.put,List.setIfInBounds_toArray,List.set_cons_zero,List.set_cons_succ,i64_w,i32_w]
   rfl
  refine done_ (done_of HT_.out (by kernel_rfl)) ?_
  try go_wp2
  go_ret
  exact ⟨by first | rfl | (simp [errW_none,errW_some] <;> rfl) | (simp only [← hji5,← hji7]; first | rfl | (simp [errW_none,errW_some] <;> rfl)) | (simp [*,errW_none,errW_some] <;> rfl),bl1_ HB.out GE236.out⟩
 ·rw [if_neg c6] at H
  exact absurd H (by simp)


mutual
def impl_grid_around.l0:Nat → Int → Int → Int → Int → Int → Int → Int → Int → Int → Option (Int)
 | 0,_,_,_,_,_,_,_,_,_ => none
 | k + 1,x1,x2,x3,x4,x11,x14,x15,x239000,x239001 => if x15 < x14 then ((impl_grid_level.f x239000 x239001 (wrap64 (x1 + x15)) x2).bind fun t239 => ((impl_grid_level.f x239000 x239001 (wrap64 (x1 + x15)) (wrap64 (x2 + x4))).bind fun t240 => (impl_grid_around.l0 k x1 x2 x3 x4 (Go.bits .or .u64 x11 (Go.bits .or .u64 t239 t240)) x14 (wrap64 (x15 + 1)) x239000 x239001))) else (impl_grid_around.l1 k x1 x2 x3 x11 x4 0 x239000 x239001)
def impl_grid_around.l1:Nat → Int → Int → Int → Int → Int → Int → Int → Int → Option (Int)
 | 0,_,_,_,_,_,_,_,_ => none
 | k + 1,x1,x2,x3,x11,x36,x37,x239000,x239001 => if x37 < x36 then ((impl_grid_upright.f x239000 x239001 x1 (wrap64 (x2 + x37))).bind fun t241 => ((impl_grid_upright.f x239000 x239001 (wrap64 (x1 + x3)) (wrap64 (x2 + x37))).bind fun t242 => (impl_grid_around.l1 k x1 x2 x3 (Go.bits .or .u64 x11 (Go.bits .or .u64 t241 t242)) x36 (wrap64 (x37 + 1)) x239000 x239001))) else (some x11)
end
def impl_grid_around.f (k:Nat) (a0_0:Int) (a0_1:Int) (a1:Int) (a2:Int) (a3:Int) (a4:Int):Option (Int):=impl_grid_around.l0 k a1 a2 a3 a4 0 a3 0 a0_0 a0_1
theorem impl_grid_around.mono_l:∀ k,(∀ y0 y1 y2 y3 y4 y5 y6 y7 y8,LeO (impl_grid_around.l0 k y0 y1 y2 y3 y4 y5 y6 y7 y8) (impl_grid_around.l0 (k + 1) y0 y1 y2 y3 y4 y5 y6 y7 y8)) ∧ (∀ y0 y1 y2 y3 y4 y5 y6 y7,LeO (impl_grid_around.l1 k y0 y1 y2 y3 y4 y5 y6 y7) (impl_grid_around.l1 (k + 1) y0 y1 y2 y3 y4 y5 y6 y7))
 | 0 => ⟨fun _ _ _ _ _ _ _ _ _ r h => by simp [impl_grid_around.l0] at h,fun _ _ _ _ _ _ _ _ r h => by simp [impl_grid_around.l1] at h⟩
 | k + 1 => by
  obtain ⟨ih0,ih1⟩:=impl_grid_around.mono_l k
  refine ⟨?_,?_⟩
  ·intro y0 y1 y2 y3 y4 y5 y6 y7 y8
   unfold impl_grid_around.l0
   repeat' first | (with_reducible first | exact ih0 _ _ _ _ _ _ _ _ _ | exact ih1 _ _ _ _ _ _ _ _ | exact LeO.refl _ | exact LeO.none _ | refine LeO.ite ?_ ?_ | refine LeO.bind ?_ (fun _ => ?_)) | exact ih0 _ _ _ _ _ _ _ _ _ | exact ih1 _ _ _ _ _ _ _ _
  ·intro y0 y1 y2 y3 y4 y5 y6 y7
   unfold impl_grid_around.l1
   repeat' first | (with_reducible first | exact ih0 _ _ _ _ _ _ _ _ _ | exact ih1 _ _ _ _ _ _ _ _ | exact LeO.refl _ | exact LeO.none _ | refine LeO.ite ?_ ?_ | refine LeO.bind ?_ (fun _ => ?_)) | exact ih0 _ _ _ _ _ _ _ _ _ | exact ih1 _ _ _ _ _ _ _ _
theorem impl_grid_around.mono:∀ a0 a1 a2 a3 a4 a5 k,LeO (impl_grid_around.f k a0 a1 a2 a3 a4 a5) (impl_grid_around.f (k + 1) a0 a1 a2 a3 a4 a5):=by
 intro a0 a1 a2 a3 a4 a5 k
 obtain ⟨ih0,ih1⟩:=impl_grid_around.mono_l k
 unfold impl_grid_around.f
 repeat' first | (with_reducible first | exact ih0 _ _ _ _ _ _ _ _ _ | exact ih1 _ _ _ _ _ _ _ _ | exact LeO.refl _ | exact LeO.none _ | refine LeO.ite ?_ ?_ | refine LeO.bind ?_ (fun _ => ?_)) | exact ih0 _ _ _ _ _ _ _ _ _ | exact ih1 _ _ _ _ _ _ _ _
def impl_grid_around.T5:Bool × List (List Nat × List Nat):=(true,[([],[]),([],[]),([],[]),([],[]),([2,3],[2,3]),([],[]),([1,4,5],[1,4,5]),([],[]),([],[]),([],[]),([8,9],[8,9]),([],[]),([],[]),([11,12],[11,12]),([7,10,13,6],[7,10,13]),([6,14],[6,14]),([0,15],[0,15]),([16,14,0,1,2,3,4,5,6,7,8,9,10,11,12,13,14,15,16],[0,16])])
def impl_grid_around.B5:List Nat:=[0,0,0,0,12,0,62,0,0,0,768,0,0,6144,16382,32766,65535,131071]
theorem impl_grid_around.tab5:rtab .any (opsOf Tryz.f78 5) = impl_grid_around.T5:=by kernel_rfl
theorem impl_grid_around.bits5:waitsOk impl_grid_around.T5.2 impl_grid_around.B5 = true:=by kernel_rfl
def impl_grid_around.T10:Bool × List (List Nat × List Nat):=(true,[([],[]),([],[]),([],[]),([],[]),([],[]),([3,4],[3,4]),([1,2,5],[1,2,5]),([],[]),([],[]),([],[]),([8,9],[8,9]),([],[]),([],[]),([11,12],[11,12]),([7,10,13,6],[7,10,13]),([6,14],[6,14]),([0,15],[0,15]),([16,14,0,1,2,3,4,5,6,7,8,9,10,11,12,13,14,15,16],[0,16])])
def impl_grid_around.B10:List Nat:=[0,0,0,0,0,24,62,0,0,0,768,0,0,6144,16382,32766,65535,131071]
theorem impl_grid_around.tab10:rtab .any (opsOf Tryz.f78 10) = impl_grid_around.T10:=by kernel_rfl
theorem impl_grid_around.bits10:waitsOk impl_grid_around.T10.2 impl_grid_around.B10 = true:=by kernel_rfl
set_option maxHeartbeats 8000000 in
set_option maxRecDepth 100000 in
theorem impl_grid_around.calls (k:Nat) (a0_0:Int) (a0_1:Int) (a1:Int) (a2:Int) (a3:Int) (a4:Int) (r:Int) (w:World) (h:impl_grid_around.f k a0_0 a0_1 a1 a2 a3 a4 = some r) :
  Calls Tryz.prog 78 #[.agg #[.int .i64 a0_0,.int .i64 a0_1],.int .i64 a1,.int .i64 a2,.int .i64 a3,.int .i64 a4] w fun e w' => e = .returned (.int .u64 r) ∧ Below w.heap.size w w':=by
 have hu56:=Tryz.underlying56
 have HB:=am_ (Below.refl w.heap.size w)
 have H:(impl_grid_around.l0 k a1 a2 a3 a4 0 a3 0 a0_0 a0_1) = some r:=h
 clear h
 have H':=am_ H
 clear H
 go_enter Tryz.func78,Tryz.ntmps78
 go_wp2_with (first | ((with_reducible refine gate_dst (N:=5) rfl ?_); refine boxE_ (N:=5) (cs:=#[.int .i64 a0_0,.int .i64 a0_1]) (t:=56) ?_; intro gb238 hg w6 hbox hb; have n0_:=am_ (below_step (bl0_ HB.out) hb); have n1_:=am_ (hbox); have n2_:=am_ ((bs0_ hg HB.out:w.heap.size ≤ gb238)); have n3_:=am_ ((bs0_ hg HB.out:w.heap.size ≤ gb238)); clear HB; have HB:=n0_; have BK238:=n1_; have GW238:=n2_; have GE238:=n3_; clear n0_ n1_ n2_ n3_; clear hb hbox hg))
 go_loopg [11,15] k (fun kq v11 v15 w' => ∃ (x11_1:Int) (x15_1:Int),v11 = .int .u64 x11_1 ∧ v15 = .int .i64 x15_1 ∧ Aside0 (impl_grid_around.l0 kq a1 a2 a3 a4 x11_1 a3 x15_1 a0_0 a0_1 = some r) ∧ Aside0 (kq ≤ k) ∧ Aside0 (w'.heap[gb238]? = some (.cells #[.int .i64 a0_0,.int .i64 a0_1] 56 (0,0))) ∧ Aside0 (Below w.heap.size w w'))
 case atStart => exact ⟨(0),(0),rs_,rs_,H',⟨Nat.le_refl _⟩,⟨bk_ BK238.out⟩,⟨bl1_ HB.out GE238.out⟩⟩
 case round =>
  clear H'
  try clear p2
  obtain ⟨x11_1,x15_1,rfl,rfl,HA,HK1,BK238,HB⟩:=hrel
  cases gk with
  | zero => exact absurd HA.out (by simp [impl_grid_around.l0])
  | succ k1 =>
   have H:=HA.out
   clear HA
   simp only [impl_grid_around.l0] at H
   by_cases c7:x15_1 < a3
   ·rw [if_pos c7] at H
    have c7b0:decide (x15_1 < a3) = true:=decide_eq_true c7
    clear c7
    replace H:=bi_ H
    obtain ⟨t239,A80,H⟩:=H
    replace H:((impl_grid_level.f a0_0 a0_1 (wrap64 (a1 + x15_1)) (wrap64 (a2 + a4))).bind fun t240 => (impl_grid_around.l0 k1 a1 a2 a3 a4 (Go.bits .or .u64 x11_1 (Go.bits .or .u64 t239 t240)) a3 (wrap64 (x15_1 + 1)) a0_0 a0_1)) = some r:=H
    have A8:=am_ A80
    clear A80
    replace H:=bi_ H
    obtain ⟨t240,A90,H⟩:=H
    replace H:(impl_grid_around.l0 k1 a1 a2 a3 a4 (Go.bits .or .u64 x11_1 (Go.bits .or .u64 t239 t240)) a3 (wrap64 (x15_1 + 1)) a0_0 a0_1) = some r:=H
    have A9:=am_ A90
    clear A90
    have H':=am_ H
    clear H
    try go_wp2
    have n0_:=am_ (blk_drew BK238.out)
    have n1_:=am_ (below_drew1 HB.out)
    clear BK238
    clear HB
    have BK238:=n0_
    have HB:=n1_
    clear n0_ n1_
    refine start_ (n:=18) (S:=fun w' => w'.cell? ⟨gb238,0,none⟩ = some (.int .i64 a0_0) ∧ w'.cell? ⟨gb238,1,none⟩ = some (.int .i64 a0_1)) (ds:=[]) #[false,false,false,false,false,false,false,false,false,false,false,false,false,false,false,false,false,false] (by kernel_rfl) rfl rfl ⟨(bc_ BK238.out 0).trans rfl,(bc_ BK238.out 1).trans rfl⟩ (fun hHeld => ?_); refine with_tabW impl_grid_around.tab5 impl_grid_around.bits5 (fun HT_ HW_ => ?_)
    generalize wr.drew = w10 at BK238 HB hHeld ⊢
    refine pure_ (i:=0) (N:=some 18) (v:=?_) (a':=?_) #[true,false,false,false,false,false,false,false,false,false,false,false,false,false,false,false,false,false] rfl rfl (any_of HT_.out (by kernel_rfl)) (fun _ _ _ h => h) (Or.inl ⟨by rfl,?_⟩) ?_ ?_
    rotate_left
    ·intro w'
     go_simp
     with_reducible rfl
    rotate_left
    ·simp only [Act.put,List.setIfInBounds_toArray,List.set_cons_zero,List.set_cons_succ,i64_w,i32_w]
     rfl
    refine pure_ (i:=2) (N:=some 20) (v:=?_) (a':=?_) #[true,false,true,false,false,false,false,false,false,false,false,false,false,false,false,false,false,false] rfl rfl (any_of HT_.out (by kernel_rfl)) (fun _ _ _ h => h) (Or.inl ⟨by rfl,?_⟩) ?_ ?_
    rotate_left
    ·intro w'
     go_simp
     with_reducible rfl
    rotate_left
    ·simp only [Act.put,List.setIfInBounds_toArray,List.set_cons_zero,List.set_cons_succ,i64_w,i32_w]
     rfl
    refine pure_ (i:=3) (N:=some 21) (v:=?_) (a':=?_) #[true,false,true,true,false,false,false,false,false,false,false,false,false,false,false,false,false,false] rfl rfl (any_of HT_.out (by kernel_rfl)) (fun _ _ _ h => h) (Or.inl ⟨by rfl,?_⟩) ?_ ?_
    rotate_left
    ·intro w'
     go_simp
     with_reducible rfl
    rotate_left
    ·simp only [Act.put,List.setIfInBounds_toArray,List.set_cons_zero,List.set_cons_succ,i64_w,i32_w]
     rfl
    refine pure_ (i:=4) (N:=some 22) (v:=?_) (a':=?_) #[true,false,true,true,true,false,false,false,false,false,false,false,false,false,false,false,false,false] rfl rfl (any_of HT_.out (by kernel_rfl)) (fun _ _ _ h => h) (Or.inl ⟨by rfl,?_⟩) ?_ ?_
    rotate_left
    ·intro w'
     go_simp
     with_reducible rfl
    rotate_left
    ·simp only [Act.put,List.setIfInBounds_toArray,List.set_cons_zero,List.set_cons_succ,i64_w,i32_w]
     rfl
    refine pure_ (i:=5) (N:=some 23) (v:=?_) (a':=?_) #[true,false,true,true,true,true,false,false,false,false,false,false,false,false,false,false,false,false] rfl rfl (any_of HT_.out (by kernel_rfl)) (fun _ _ _ h => h) (Or.inl ⟨by rfl,?_⟩) ?_ ?_
    rotate_left
    ·intro w'
     go_simp
     with_reducible rfl
    rotate_left
    ·simp only [Act.put,List.setIfInBounds_toArray,List.set_cons_zero,List.set_cons_succ,i64_w,i32_w]
     rfl
    refine pure_ (i:=8) (N:=some 26) (v:=?_) (a':=?_) #[true,false,true,true,true,true,false,false,true,false,false,false,false,false,false,false,false,false] rfl rfl (any_of HT_.out (by kernel_rfl)) (fun _ _ _ h => h) (Or.inl ⟨by rfl,?_⟩) ?_ ?_
    rotate_left
    ·intro w'
     go_simp
     with_reducible rfl
    rotate_left
    ·simp only [Act.put,List.setIfInBounds_toArray,List.set_cons_zero,List.set_cons_succ,i64_w,i32_w]
     rfl
    refine pure_ (i:=9) (N:=some 27) (v:=?_) (a':=?_) #[true,false,true,true,true,true,false,false,true,true,false,false,false,false,false,false,false,false] rfl rfl (any_of HT_.out (by kernel_rfl)) (fun _ _ _ h => h) (Or.inl ⟨by rfl,?_⟩) ?_ ?_
    rotate_left
    ·intro w'
     go_simp
     with_reducible rfl
    rotate_left
    ·simp only [Act.put,List.setIfInBounds_toArray,List.set_cons_zero,List.set_cons_succ,i64_w,i32_w]
     rfl
    refine pure_ (i:=10) (N:=some 28) (v:=?_) (a':=?_) #[true,false,true,true,true,true,false,false,true,true,true,false,false,false,false,false,false,false] rfl rfl (any_of HT_.out (by kernel_rfl)) (fun _ _ _ h => h) (Or.inl ⟨by rfl,?_⟩) ?_ ?_
    rotate_left
    ·intro w'
     go_simp
     with_reducible rfl
    rotate_left
    ·simp only [Act.put,List.setIfInBounds_toArray,List.set_cons_zero,List.set_cons_succ,i64_w,i32_w]
     rfl
    refine pure_ (i:=11) (N:=some 29) (v:=?_) (a':=?_) #[true,false,true,true,true,true,false,false,true,true,true,true,false,false,false,false,false,false] rfl rfl (any_of HT_.out (by kernel_rfl)) (fun _ _ _ h => h) (Or.inl ⟨by rfl,?_⟩) ?_ ?_
    rotate_left
    ·intro w'
     go_simp
     with_reducible rfl
    rotate_left
    ·simp only [Act.put,List.setIfInBounds_toArray,List.set_cons_zero,List.set_cons_succ,i64_w,i32_w]
     rfl
    refine pure_ (i:=12) (N:=some 30) (v:=?_) (a':=?_) #[true,false,true,true,true,true,false,false,true,true,true,true,true,false,false,false,false,false] rfl rfl (any_of HT_.out (by kernel_rfl)) (fun _ _ _ h => h) (Or.inl ⟨by rfl,?_⟩) ?_ ?_
    rotate_left
    ·intro w'
     go_simp
     with_reducible rfl
    rotate_left
    ·simp only [Act.put,List.setIfInBounds_toArray,List.set_cons_zero,List.set_cons_succ,i64_w,i32_w]
     rfl
    refine pure_ (i:=13) (N:=some 31) (v:=?_) (a':=?_) #[true,false,true,true,true,true,false,false,true,true,true,true,true,true,false,false,false,false] rfl rfl (any_of HT_.out (by kernel_rfl)) (fun _ _ _ h => h) (Or.inl ⟨by rfl,?_⟩) ?_ ?_
    rotate_left
    ·intro w'
     go_simp
     with_reducible rfl
    rotate_left
    ·simp only [Act.put,List.setIfInBounds_toArray,List.set_cons_zero,List.set_cons_succ,i64_w,i32_w]
     rfl
    refine take_ (i:=1) (N:=some 19) (v:=?_) (a':=?_) #[true,true,true,true,true,true,false,false,true,true,true,true,true,true,false,false,false,false] rfl rfl (take_ofW HT_.out HW_.out (by kernel_rfl)) (fun _ _ _ h => h) (Or.inl ⟨by rfl,?_⟩) hHeld ?_ ?_
    rotate_left
    ·rintro w' ⟨s0,s1⟩
     go_simp
     with_reducible rfl
    rotate_left
    ·simp only [Act.put,List.setIfInBounds_toArray,List.set_cons_zero,List.set_cons_succ,i64_w,i32_w]
     rfl
    refine take_ (i:=7) (N:=some 25) (v:=?_) (a':=?_) #[true,true,true,true,true,true,false,true,true,true,true,true,true,true,false,false,false,false] rfl rfl (take_ofW HT_.out HW_.out (by kernel_rfl)) (fun _ _ _ h => h) (Or.inl ⟨by rfl,?_⟩) hHeld ?_ ?_
    rotate_left
    ·rintro w' ⟨s0,s1⟩
     go_simp
     with_reducible rfl
    rotate_left
    ·simp only [Act.put,List.setIfInBounds_toArray,List.set_cons_zero,List.set_cons_succ,i64_w,i32_w]
     rfl
    refine one_ (i:=6) (N:=some 24) #[true,true,true,true,true,true,true,true,true,true,true,true,true,true,false,false,false,false] rfl rfl (one_of HT_.out (by kernel_rfl)) (by decide) (fun K hK => ?_)
    refine goes_ Tryz.func103 (by kernel_rfl) rfl #[.agg #[.int .i64 a0_0,.int .i64 a0_1],.int .i64 (wrap64 (a1 + x15_1)),.int .i64 a2] (by rfl) rfl rfl ob_ ?_
    with_reducible refine (impl_grid_level.calls a0_0 a0_1 (wrap64 (a1 + x15_1)) a2 t239 _ A8.out).mono ?_
    rintro e w11 ⟨rfl,hb⟩
    refine ⟨_,rfl,?_⟩
    have n0_:=am_ (bb_ BK238.out hb)
    have n1_:=am_ (below_step (bl1_ HB.out GE238.out) hb)
    clear BK238
    clear HB
    have BK238:=n0_
    have HB:=n1_
    clear n0_ n1_
    (try clear hb)
    (try clear hb2)
    (try clear hk)
    (try clear hi)
    refine hK.out _ _ ⟨(bc_ BK238.out 0).trans rfl,(bc_ BK238.out 1).trans rfl⟩ (fun hHeld => ?_)
    clear hK K
    refine norm_ (a':=?_) ?_ ?_
    rotate_left
    ·show Act.put _ (some 24) _ = _
     simp only [Act.put,List.setIfInBounds_toArray,List.set_cons_zero,List.set_cons_succ,i64_w,i32_w]
     rfl
    refine one_ (i:=14) (N:=some 32) #[true,true,true,true,true,true,true,true,true,true,true,true,true,true,true,false,false,false] rfl rfl (one_of HT_.out (by kernel_rfl)) (by decide) (fun K hK => ?_)
    refine goes_ Tryz.func103 (by kernel_rfl) rfl #[.agg #[.int .i64 a0_0,.int .i64 a0_1],.int .i64 (wrap64 (a1 + x15_1)),.int .i64 (wrap64 (a2 + a4))] (by rfl) rfl rfl ob_ ?_
    with_reducible refine (impl_grid_level.calls a0_0 a0_1 (wrap64 (a1 + x15_1)) (wrap64 (a2 + a4)) t240 _ A9.out).mono ?_
    rintro e w12 ⟨rfl,hb⟩
    refine ⟨_,rfl,?_⟩
    have n0_:=am_ (bb_ BK238.out hb)
    have n1_:=am_ (below_step (bl1_ HB.out GE238.out) hb)
    clear BK238
    clear HB
    have BK238:=n0_
    have HB:=n1_
    clear n0_ n1_
    (try clear hb)
    (try clear hb2)
    (try clear hk)
    (try clear hi)
    refine hK.out _ _ ⟨(bc_ BK238.out 0).trans rfl,(bc_ BK238.out 1).trans rfl⟩ (fun hHeld => ?_)
    clear hK K
    refine norm_ (a':=?_) ?_ ?_
    rotate_left
    ·show Act.put _ (some 32) _ = _
     simp only [Act.put,List.setIfInBounds_toArray,List.set_cons_zero,List.set_cons_succ,i64_w,i32_w]
     rfl
    refine pure_ (i:=15) (N:=some 33) (v:=?_) (a':=?_) #[true,true,true,true,true,true,true,true,true,true,true,true,true,true,true,true,false,false] rfl rfl (any_of HT_.out (by kernel_rfl)) (fun _ _ _ h => h) (Or.inl ⟨by rfl,?_⟩) ?_ ?_
    rotate_left
    ·intro w'
     go_simp
     with_reducible rfl
    rotate_left
    ·simp only [Act.put,List.setIfInBounds_toArray,List.set_cons_zero,List.set_cons_succ,i64_w,i32_w]
     rfl
    refine pure_ (i:=16) (N:=some 34) (v:=?_) (a':=?_) #[true,true,true,true,true,true,true,true,true,true,true,true,true,true,true,true,true,false] rfl rfl (any_of HT_.out (by kernel_rfl)) (fun _ _ _ h => h) (Or.inl ⟨by rfl,?_⟩) ?_ ?_
    rotate_left
    ·intro w'
     go_simp
     with_reducible rfl
    rotate_left
    ·simp only [Act.put,List.setIfInBounds_toArray,List.set_cons_zero,List.set_cons_succ,i64_w,i32_w]
     rfl
    refine pure_ (i:=17) (N:=some 11) (v:=?_) (a':=?_) #[true,true,true,true,true,true,true,true,true,true,true,true,true,true,true,true,true,true] rfl rfl (any_of HT_.out (by kernel_rfl)) (fun _ _ _ h => h) (Or.inl ⟨by rfl,?_⟩) ?_ ?_
    rotate_left
    ·intro w'
     go_simp
     with_reducible rfl
    rotate_left
    ·simp only [Act.put,List.setIfInBounds_toArray,List.set_cons_zero,List.set_cons_succ,i64_w,i32_w]
     rfl
    refine done_ (done_of HT_.out (by kernel_rfl)) ?_
    try go_wp2
    go_roundg k1
    case measure => have:=HK1.out; omega
    case rel => exact ⟨(Go.bits .or .u64 x11_1 (Go.bits .or .u64 t239 t240)),(wrap64 (x15_1 + 1)),rs_,rs_,H',⟨by have:=HK1.out; omega⟩,⟨bk_ BK238.out⟩,⟨bl1_ HB.out GE238.out⟩⟩
   ·rw [if_neg c7] at H
    have c7b0:decide (x15_1 < a3) = false:=decide_eq_false c7
    clear c7
    have H':=am_ H
    clear H
    go_wp2
    go_loopg [11,37] k1 (fun kq v11 v37 w' => ∃ (x11_2:Int) (x37_2:Int),v11 = .int .u64 x11_2 ∧ v37 = .int .i64 x37_2 ∧ Aside0 (impl_grid_around.l1 kq a1 a2 a3 x11_2 a4 x37_2 a0_0 a0_1 = some r) ∧ Aside0 (kq ≤ k1) ∧ Aside0 (w'.heap[gb238]? = some (.cells #[.int .i64 a0_0,.int .i64 a0_1] 56 (0,0))) ∧ Aside0 (Below w.heap.size w w'))
    case atStart => exact ⟨(x11_1),(0),rs_,rs_,H',⟨Nat.le_refl _⟩,⟨bk_ BK238.out⟩,⟨bl1_ HB.out GE238.out⟩⟩
    case round =>
     clear H'
     try clear c1
     try clear p2
     try clear p6
     try clear c7
     try clear c7b0
     try clear c10
     try clear p2
     obtain ⟨x11_2,x37_2,rfl,rfl,HA,HK2,BK238,HB⟩:=hrel
     cases gk with
     | zero => exact absurd HA.out (by simp [impl_grid_around.l1])
     | succ k2 =>
      have H:=HA.out
      clear HA
      simp only [impl_grid_around.l1] at H
      by_cases c13:x37_2 < a4
      ·rw [if_pos c13] at H
       have c13b0:decide (x37_2 < a4) = true:=decide_eq_true c13
       clear c13
       replace H:=bi_ H
       obtain ⟨t241,A140,H⟩:=H
       replace H:((impl_grid_upright.f a0_0 a0_1 (wrap64 (a1 + a3)) (wrap64 (a2 + x37_2))).bind fun t242 => (impl_grid_around.l1 k2 a1 a2 a3 (Go.bits .or .u64 x11_2 (Go.bits .or .u64 t241 t242)) a4 (wrap64 (x37_2 + 1)) a0_0 a0_1)) = some r:=H
       have A14:=am_ A140
       clear A140
       replace H:=bi_ H
       obtain ⟨t242,A150,H⟩:=H
       replace H:(impl_grid_around.l1 k2 a1 a2 a3 (Go.bits .or .u64 x11_2 (Go.bits .or .u64 t241 t242)) a4 (wrap64 (x37_2 + 1)) a0_0 a0_1) = some r:=H
       have A15:=am_ A150
       clear A150
       have H':=am_ H
       clear H
       try go_wp2
       have n0_:=am_ (blk_drew BK238.out)
       have n1_:=am_ (below_drew1 HB.out)
       clear BK238
       clear HB
       have BK238:=n0_
       have HB:=n1_
       clear n0_ n1_
       refine start_ (n:=18) (S:=fun w' => w'.cell? ⟨gb238,0,none⟩ = some (.int .i64 a0_0) ∧ w'.cell? ⟨gb238,1,none⟩ = some (.int .i64 a0_1)) (ds:=[]) #[false,false,false,false,false,false,false,false,false,false,false,false,false,false,false,false,false,false] (by kernel_rfl) rfl rfl ⟨(bc_ BK238.out 0).trans rfl,(bc_ BK238.out 1).trans rfl⟩ (fun hHeld => ?_); refine with_tabW impl_grid_around.tab10 impl_grid_around.bits10 (fun HT_ HW_ => ?_)
       generalize wr.drew = w16 at BK238 HB hHeld ⊢
       refine pure_ (i:=0) (N:=some 40) (v:=?_) (a':=?_) #[true,false,false,false,false,false,false,false,false,false,false,false,false,false,false,false,false,false] rfl rfl (any_of HT_.out (by kernel_rfl)) (fun _ _ _ h => h) (Or.inl ⟨by rfl,?_⟩) ?_ ?_
       rotate_left
       ·intro w'
        go_simp
        with_reducible rfl
       rotate_left
       ·simp only [Act.put,List.setIfInBounds_toArray,List.set_cons_zero,List.set_cons_succ,i64_w,i32_w]
        rfl
       refine pure_ (i:=2) (N:=some 42) (v:=?_) (a':=?_) #[true,false,true,false,false,false,false,false,false,false,false,false,false,false,false,false,false,false] rfl rfl (any_of HT_.out (by kernel_rfl)) (fun _ _ _ h => h) (Or.inl ⟨by rfl,?_⟩) ?_ ?_
       rotate_left
       ·intro w'
        go_simp
        with_reducible rfl
       rotate_left
       ·simp only [Act.put,List.setIfInBounds_toArray,List.set_cons_zero,List.set_cons_succ,i64_w,i32_w]
        rfl
       refine pure_ (i:=3) (N:=some 43) (v:=?_) (a':=?_) #[true,false,true,true,false,false,false,false,false,false,false,false,false,false,false,false,false,false] rfl rfl (any_of HT_.out (by kernel_rfl)) (fun _ _ _ h => h) (Or.inl ⟨by rfl,?_⟩) ?_ ?_
       rotate_left
       ·intro w'
        go_simp
        with_reducible rfl
       rotate_left
       ·simp only [Act.put,List.setIfInBounds_toArray,List.set_cons_zero,List.set_cons_succ,i64_w,i32_w]
        rfl
       refine pure_ (i:=4) (N:=some 44) (v:=?_) (a':=?_) #[true,false,true,true,true,false,false,false,false,false,false,false,false,false,false,false,false,false] rfl rfl (any_of HT_.out (by kernel_rfl)) (fun _ _ _ h => h) (Or.inl ⟨by rfl,?_⟩) ?_ ?_
       rotate_left
       ·intro w'
        go_simp
        with_reducible rfl
       rotate_left
       ·simp only [Act.put,List.setIfInBounds_toArray,List.set_cons_zero,List.set_cons_succ,i64_w,i32_w]
        rfl
       refine pure_ (i:=5) (N:=some 45) (v:=?_) (a':=?_) #[true,false,true,true,true,true,false,false,false,false,false,false,false,false,false,false,false,false] rfl rfl (any_of HT_.out (by kernel_rfl)) (fun _ _ _ h => h) (Or.inl ⟨by rfl,?_⟩) ?_ ?_
       rotate_left
       ·intro w'
        go_simp
        with_reducible rfl
       rotate_left
       ·simp only [Act.put,List.setIfInBounds_toArray,List.set_cons_zero,List.set_cons_succ,i64_w,i32_w]
        rfl
       refine pure_ (i:=8) (N:=some 48) (v:=?_) (a':=?_) #[true,false,true,true,true,true,false,false,true,false,false,false,false,false,false,false,false,false] rfl rfl (any_of HT_.out (by kernel_rfl)) (fun _ _ _ h => h) (Or.inl ⟨by rfl,?_⟩) ?_ ?_
       rotate_left
       ·intro w'
        go_simp
        with_reducible rfl
       rotate_left
       ·simp only [Act.put,List.setIfInBounds_toArray,List.set_cons_zero,List.set_cons_succ,i64_w,i32_w]
        rfl
       refine pure_ (i:=9) (N:=some 49) (v:=?_) (a':=?_) #[true,false,true,true,true,true,false,false,true,true,false,false,false,false,false,false,false,false] rfl rfl (any_of HT_.out (by kernel_rfl)) (fun _ _ _ h => h) (Or.inl ⟨by rfl,?_⟩) ?_ ?_
       rotate_left
       ·intro w'
        go_simp
        with_reducible rfl
       rotate_left
       ·simp only [Act.put,List.setIfInBounds_toArray,List.set_cons_zero,List.set_cons_succ,i64_w,i32_w]
        rfl
       refine pure_ (i:=10) (N:=some 50) (v:=?_) (a':=?_) #[true,false,true,true,true,true,false,false,true,true,true,false,false,false,false,false,false,false] rfl rfl (any_of HT_.out (by kernel_rfl)) (fun _ _ _ h => h) (Or.inl ⟨by rfl,?_⟩) ?_ ?_
       rotate_left
       ·intro w'
        go_simp
        with_reducible rfl
       rotate_left
       ·simp only [Act.put,List.setIfInBounds_toArray,List.set_cons_zero,List.set_cons_succ,i64_w,i32_w]
        rfl
       refine pure_ (i:=11) (N:=some 51) (v:=?_) (a':=?_) #[true,false,true,true,true,true,false,false,true,true,true,true,false,false,false,false,false,false] rfl rfl (any_of HT_.out (by kernel_rfl)) (fun _ _ _ h => h) (Or.inl ⟨by rfl,?_⟩) ?_ ?_
       rotate_left
       ·intro w'
        go_simp
        with_reducible rfl
       rotate_left
       ·simp only [Act.put,List.setIfInBounds_toArray,List.set_cons_zero,List.set_cons_succ,i64_w,i32_w]
        rfl
       refine pure_ (i:=12) (N:=some 52) (v:=?_) (a':=?_) #[true,false,true,true,true,true,false,false,true,true,true,true,true,false,false,false,false,false] rfl rfl (any_of HT_.out (by kernel_rfl)) (fun _ _ _ h => h) (Or.inl ⟨by rfl,?_⟩) ?_ ?_
       rotate_left
       ·intro w'
        go_simp
        with_reducible rfl
       rotate_left
       ·simp only [Act.put,List.setIfInBounds_toArray,List.set_cons_zero,List.set_cons_succ,i64_w,i32_w]
        rfl
       refine pure_ (i:=13) (N:=some 53) (v:=?_) (a':=?_) #[true,false,true,true,true,true,false,false,true,true,true,true,true,true,false,false,false,false] rfl rfl (any_of HT_.out (by kernel_rfl)) (fun _ _ _ h => h) (Or.inl ⟨by rfl,?_⟩) ?_ ?_
       rotate_left
       ·intro w'
        go_simp
        with_reducible rfl
       rotate_left
       ·simp only [Act.put,List.setIfInBounds_toArray,List.set_cons_zero,List.set_cons_succ,i64_w,i32_w]
        rfl
       refine take_ (i:=1) (N:=some 41) (v:=?_) (a':=?_) #[true,true,true,true,true,true,false,false,true,true,true,true,true,true,false,false,false,false] rfl rfl (take_ofW HT_.out HW_.out (by kernel_rfl)) (fun _ _ _ h => h) (Or.inl ⟨by rfl,?_⟩) hHeld ?_ ?_
       rotate_left
       ·rintro w' ⟨s0,s1⟩
        go_simp
        with_reducible rfl
       rotate_left
       ·simp only [Act.put,List.setIfInBounds_toArray,List.set_cons_zero,List.set_cons_succ,i64_w,i32_w]
        rfl
       refine take_ (i:=7) (N:=some 47) (v:=?_) (a':=?_) #[true,true,true,true,true,true,false,true,true,true,true,true,true,true,false,false,false,false] rfl rfl (take_ofW HT_.out HW_.out (by kernel_rfl)) (fun _ _ _ h => h) (Or.inl ⟨by rfl,?_⟩) hHeld ?_ ?_
       rotate_left
       ·rintro w' ⟨s0,s1⟩
        go_simp
        with_reducible rfl
       rotate_left
       ·simp only [Act.put,List.setIfInBounds_toArray,List.set_cons_zero,List.set_cons_succ,i64_w,i32_w]
        rfl
       refine one_ (i:=6) (N:=some 46) #[true,true,true,true,true,true,true,true,true,true,true,true,true,true,false,false,false,false] rfl rfl (one_of HT_.out (by kernel_rfl)) (by decide) (fun K hK => ?_)
       refine goes_ Tryz.func105 (by kernel_rfl) rfl #[.agg #[.int .i64 a0_0,.int .i64 a0_1],.int .i64 a1,.int .i64 (wrap64 (a2 + x37_2))] (by rfl) rfl rfl ob_ ?_
       with_reducible refine (impl_grid_upright.calls a0_0 a0_1 a1 (wrap64 (a2 + x37_2)) t241 _ A14.out).mono ?_
       rintro e w17 ⟨rfl,hb⟩
       refine ⟨_,rfl,?_⟩
       have n0_:=am_ (bb_ BK238.out hb)
       have n1_:=am_ (below_step (bl1_ HB.out GE238.out) hb)
       clear BK238
       clear HB
       have BK238:=n0_
       have HB:=n1_
       clear n0_ n1_
       (try clear hb)
       (try clear hb2)
       (try clear hk)
       (try clear hi)
       refine hK.out _ _ ⟨(bc_ BK238.out 0).trans rfl,(bc_ BK238.out 1).trans rfl⟩ (fun hHeld => ?_)
       clear hK K
       refine norm_ (a':=?_) ?_ ?_
       rotate_left
       ·show Act.put _ (some 46) _ = _
        simp only [Act.put,List.setIfInBounds_toArray,List.set_cons_zero,List.set_cons_succ,i64_w,i32_w]
        rfl
       refine one_ (i:=14) (N:=some 54) #[true,true,true,true,true,true,true,true,true,true,true,true,true,true,true,false,false,false] rfl rfl (one_of HT_.out (by kernel_rfl)) (by decide) (fun K hK => ?_)
       refine goes_ Tryz.func105 (by kernel_rfl) rfl #[.agg #[.int .i64 a0_0,.int .i64 a0_1],.int .i64 (wrap64 (a1 + a3)),.int .i64 (wrap64 (a2 + x37_2))] (by rfl) rfl rfl ob_ ?_
       with_reducible refine (impl_grid_upright.calls a0_0 a0_1 (wrap64 (a1 + a3)) (wrap64 (a2 + x37_2)) t242 _ A15.out).mono ?_
       rintro e w18 ⟨rfl,hb⟩
       refine ⟨_,rfl,?_⟩
       have n0_:=am_ (bb_ BK238.out hb)
       have n1_:=am_ (below_step (bl1_ HB.out GE238.out) hb)
       clear BK238
       clear HB
       have BK238:=n0_
       have HB:=n1_
       clear n0_ n1_
       (try clear hb)
       (try clear hb2)
       (try clear hk)
       (try clear hi)
       refine hK.out _ _ ⟨(bc_ BK238.out 0).trans rfl,(bc_ BK238.out 1).trans rfl⟩ (fun hHeld => ?_)
       clear hK K
       refine norm_ (a':=?_) ?_ ?_
       rotate_left
       ·show Act.put _ (some 54) _ = _
        simp only [Act.put,List.setIfInBounds_toArray,List.set_cons_zero,List.set_cons_succ,i64_w,i32_w]
        rfl
       refine pure_ (i:=15) (N:=some 55) (v:=?_) (a':=?_) #[true,true,true,true,true,true,true,true,true,true,true,true,true,true,true,true,false,false] rfl rfl (any_of HT_.out (by kernel_rfl)) (fun _ _ _ h => h) (Or.inl ⟨by rfl,?_⟩) ?_ ?_
       rotate_left
       ·intro w'
        go_simp
        with_reducible rfl
       rotate_left
       ·simp only [Act.put,List.setIfInBounds_toArray,List.set_cons_zero,List.set_cons_succ,i64_w,i32_w]
        rfl
       refine pure_ (i:=16) (N:=some 56) (v:=?_) (a':=?_) #[true,true,true,true,true,true,true,true,true,true,true,true,true,true,true,true,true,false] rfl rfl (any_of HT_.out (by kernel_rfl)) (fun _ _ _ h => h) (Or.inl ⟨by rfl,?_⟩) ?_ ?_
       rotate_left
       ·intro w'
        go_simp
        with_reducible rfl
       rotate_left
       ·simp only [Act.put,List.setIfInBounds_toArray,List.set_cons_zero,List.set_cons_succ,i64_w,i32_w]
        rfl
       refine pure_ (i:=17) (N:=some 11) (v:=?_) (a':=?_) #[true,true,true,true,true,true,true,true,true,true,true,true,true,true,true,true,true,true] rfl rfl (any_of HT_.out (by kernel_rfl)) (fun _ _ _ h => h) (Or.inl ⟨by rfl,?_⟩) ?_ ?_
       rotate_left
       ·intro w'
        go_simp
        with_reducible rfl
       rotate_left
       ·simp only [Act.put,List.setIfInBounds_toArray,List.set_cons_zero,List.set_cons_succ,i64_w,i32_w]
        rfl
       refine done_ (done_of HT_.out (by kernel_rfl)) ?_
       try go_wp2
       go_roundg k2
       case measure => have:=HK1.out; have:=HK2.out; omega
       case rel => exact ⟨(Go.bits .or .u64 x11_2 (Go.bits .or .u64 t241 t242)),(wrap64 (x37_2 + 1)),rs_,rs_,H',⟨by have:=HK1.out; have:=HK2.out; omega⟩,⟨bk_ BK238.out⟩,⟨bl1_ HB.out GE238.out⟩⟩
      ·rw [if_neg c13] at H
       have c13b0:decide (x37_2 < a4) = false:=decide_eq_false c13
       clear c13
       obtain rfl:=Option.some.inj H
       go_wp2
       go_ret
       exact ⟨er_,bl1_ HB.out GE238.out⟩


mutual
def impl_grid_squares.l0:Nat → List (S100) → Int → Int → Int → Option ((List (S100)))
 | 0,_,_,_,_ => none
 | k + 1,x3,x4,x244000,x244001 => if x4 ≤ (mn x244000 x244001) then (impl_grid_squares.l1 k x3 x4 0 x244000 x244001) else (some x3)
def impl_grid_squares.l1:Nat → List (S100) → Int → Int → Int → Int → Option ((List (S100)))
 | 0,_,_,_,_,_ => none
 | k + 1,x3,x4,x5,x244000,x244001 => if (wrap64 (x5 + x4)) ≤ x244001 then (impl_grid_squares.l2 k x3 x4 x5 0 x244000 x244001) else (impl_grid_squares.l0 k x3 (wrap64 (x4 + 1)) x244000 x244001)
def impl_grid_squares.l2:Nat → List (S100) → Int → Int → Int → Int → Int → Option ((List (S100)))
 | 0,_,_,_,_,_,_ => none
 | k + 1,x3,x4,x5,x6,x244000,x244001 => if (wrap64 (x6 + x4)) ≤ x244000 then ((impl_grid_around.f k x244000 x244001 x6 x5 x4 x4).bind fun t247 => (if x3.length < 4398046511104 then (impl_grid_squares.l2 k (x3 ++ [(⟨x6,x5,x4,t247⟩:S100)]) x4 x5 (wrap64 (x6 + 1)) x244000 x244001) else (none))) else (impl_grid_squares.l1 k x3 x4 (wrap64 (x5 + 1)) x244000 x244001)
end
def impl_grid_squares.f (k:Nat) (a0_0:Int) (a0_1:Int):Option ((List (S100))):=impl_grid_squares.l0 k (([]:List (S100))) 1 a0_0 a0_1
theorem impl_grid_squares.mono_l:∀ k,(∀ y0 y1 y2 y3,LeO (impl_grid_squares.l0 k y0 y1 y2 y3) (impl_grid_squares.l0 (k + 1) y0 y1 y2 y3)) ∧ (∀ y0 y1 y2 y3 y4,LeO (impl_grid_squares.l1 k y0 y1 y2 y3 y4) (impl_grid_squares.l1 (k + 1) y0 y1 y2 y3 y4)) ∧ (∀ y0 y1 y2 y3 y4 y5,LeO (impl_grid_squares.l2 k y0 y1 y2 y3 y4 y5) (impl_grid_squares.l2 (k + 1) y0 y1 y2 y3 y4 y5))
 | 0 => ⟨fun _ _ _ _ r h => by simp [impl_grid_squares.l0] at h,fun _ _ _ _ _ r h => by simp [impl_grid_squares.l1] at h,fun _ _ _ _ _ _ r h => by simp [impl_grid_squares.l2] at h⟩
 | k + 1 => by
  obtain ⟨ih0,ih1,ih2⟩:=impl_grid_squares.mono_l k
  refine ⟨?_,?_,?_⟩
  ·intro y0 y1 y2 y3
   unfold impl_grid_squares.l0
   repeat' first | (with_reducible first | exact ih0 _ _ _ _ | exact ih1 _ _ _ _ _ | exact ih2 _ _ _ _ _ _ | exact impl_grid_around.mono _ _ _ _ _ _ _ | exact LeO.refl _ | exact LeO.none _ | refine LeO.ite ?_ ?_ | refine LeO.bind ?_ (fun _ => ?_)) | exact ih0 _ _ _ _ | exact ih1 _ _ _ _ _ | exact ih2 _ _ _ _ _ _ | exact impl_grid_around.mono _ _ _ _ _ _ _
  ·intro y0 y1 y2 y3 y4
   unfold impl_grid_squares.l1
   repeat' first | (with_reducible first | exact ih0 _ _ _ _ | exact ih1 _ _ _ _ _ | exact ih2 _ _ _ _ _ _ | exact impl_grid_around.mono _ _ _ _ _ _ _ | exact LeO.refl _ | exact LeO.none _ | refine LeO.ite ?_ ?_ | refine LeO.bind ?_ (fun _ => ?_)) | exact ih0 _ _ _ _ | exact ih1 _ _ _ _ _ | exact ih2 _ _ _ _ _ _ | exact impl_grid_around.mono _ _ _ _ _ _ _
  ·intro y0 y1 y2 y3 y4 y5
   unfold impl_grid_squares.l2
   repeat' first | (with_reducible first | exact ih0 _ _ _ _ | exact ih1 _ _ _ _ _ | exact ih2 _ _ _ _ _ _ | exact impl_grid_around.mono _ _ _ _ _ _ _ | exact LeO.refl _ | exact LeO.none _ | refine LeO.ite ?_ ?_ | refine LeO.bind ?_ (fun _ => ?_)) | exact ih0 _ _ _ _ | exact ih1 _ _ _ _ _ | exact ih2 _ _ _ _ _ _ | exact impl_grid_around.mono _ _ _ _ _ _ _
theorem impl_grid_squares.mono:∀ a0 a1 k,LeO (impl_grid_squares.f k a0 a1) (impl_grid_squares.f (k + 1) a0 a1):=by
 intro a0 a1 k
 obtain ⟨ih0,ih1,ih2⟩:=impl_grid_squares.mono_l k
 unfold impl_grid_squares.f
 repeat' first | (with_reducible first | exact ih0 _ _ _ _ | exact ih1 _ _ _ _ _ | exact ih2 _ _ _ _ _ _ | exact impl_grid_around.mono _ _ _ _ _ _ _ | exact LeO.refl _ | exact LeO.none _ | refine LeO.ite ?_ ?_ | refine LeO.bind ?_ (fun _ => ?_)) | exact ih0 _ _ _ _ | exact ih1 _ _ _ _ _ | exact ih2 _ _ _ _ _ _ | exact impl_grid_around.mono _ _ _ _ _ _ _
set_option maxHeartbeats 8000000 in
set_option maxRecDepth 100000 in
theorem impl_grid_squares.calls (k:Nat) (a0_0:Int) (a0_1:Int) (r:List (S100)) (w:World) (h:impl_grid_squares.f k a0_0 a0_1 = some r) :
  Calls Tryz.prog 58 #[.agg #[.int .i64 a0_0,.int .i64 a0_1]] w fun e w' => ∃ v0_:Value,e = .returned (v0_) ∧ Kd.R k100 100 w' w.heap.size (fun _ => True) v0_ r ∧ Below w.heap.size w w':=by
 have hu56:=Tryz.underlying56
 have hu100:=Tryz.underlying100
 have HB:=am_ (Below.refl w.heap.size w)
 have H:(impl_grid_squares.l0 k (([]:List (S100))) 1 a0_0 a0_1) = some r:=h
 clear h
 obtain ⟨y244,hy244⟩:∃ y_:List (S100),y_ = (([]:List (S100))):=⟨_,rfl⟩
 replace H:(impl_grid_squares.l0 k y244 1 a0_0 a0_1) = some r:=by first | (rw [hy244]; with_reducible exact H) | (have H2_:=(Option.bind_some _ _).symm.trans H; rw [hy244]; with_reducible exact H2_) | (have H2_:=(Option.bind_some _ _).symm.trans H; with_reducible exact H2_) | with_reducible exact H | (rw [hy244]; exact H) | exact H
 have Ny244:=am_ hy244
 clear hy244
 have H':=am_ H
 clear H
 go_enter Tryz.func58,Tryz.ntmps58
 go_wp2_with (first | ((with_reducible refine gate_dst (N:=1) rfl ?_); refine boxE_ (N:=1) (cs:=#[.int .i64 a0_0,.int .i64 a0_1]) (t:=56) ?_; intro gb243 hg w2 hbox hb; have n0_:=am_ (below_step (bl0_ HB.out) hb); have n1_:=am_ (hbox); have n2_:=am_ ((bs0_ hg HB.out:w.heap.size ≤ gb243)); have n3_:=am_ ((bs0_ hg HB.out:w.heap.size ≤ gb243)); clear HB; have HB:=n0_; have BK243:=n1_; have GW243:=n2_; have GE243:=n3_; clear n0_ n1_ n2_ n3_; clear hb hbox hg) | ((with_reducible refine gate_dst (N:=7) rfl ?_); refine Kd.R_lit k100 _ 100 ?hg (N:=7) ?hd (xs:=([]:List (S100))) (inner:=[]) (ok:=fun _ => True) (okp:=fun _ => True) ?hr ?hp (fun _ hk => hk) trivial (Below.refl _ _) (Nat.le_refl _) (by simp) ?_; (case hd => rfl); (case hg => rfl); (case hr => first | (go_simp; done) | (go_simp; rfl)); (case hp => exact (Reps.none _ _)); intro v245 w3 ho4 hb hg_ hnew_; clear hg_ hnew_; (first | rw [← Ny244.out] at ho4 | (simp only [Int.reduceToNat] at ho4; rw [← Ny244.out] at ho4)); have n0_:=am_ (Kd.R_lower ho4 (below_size (bl1_ HB.out GE243.out))); have n1_:=am_ (bb_ BK243.out hb); have n2_:=am_ (below_step (bl1_ HB.out GE243.out) hb); clear BK243; clear HB; have HO246:=n0_; have BK243:=n1_; have HB:=n2_; clear n0_ n1_ n2_; clear hb ho4))
 go_loopg [3,4] k (fun kq v3 v4 w' => ∃ (x3_1:List (S100)) (x4_1:Int),v4 = .int .i64 x4_1 ∧ Aside0 (impl_grid_squares.l0 kq x3_1 x4_1 a0_0 a0_1 = some r) ∧ Aside0 (kq ≤ k) ∧ Aside0 (Kd.R k100 100 w' w.heap.size (fun _ => True) v3 x3_1) ∧ Aside0 (w'.heap[gb243]? = some (.cells #[.int .i64 a0_0,.int .i64 a0_1] 56 (0,0))) ∧ Aside0 (Below w.heap.size w w'))
 case atStart => exact ⟨(y244),(1),rs_,H',⟨Nat.le_refl _⟩,⟨kr_ HO246.out⟩,⟨bk_ BK243.out⟩,⟨bl1_ HB.out GE243.out⟩⟩
 case round =>
  clear H'
  try clear p2
  obtain ⟨x3_1,x4_1,rfl,HA,HK1,HO_3,BK243,HB⟩:=hrel
  cases gk with
  | zero => exact absurd HA.out (by simp [impl_grid_squares.l0])
  | succ k1 =>
   have H:=HA.out
   clear HA
   simp only [impl_grid_squares.l0] at H
   obtain ⟨ji5,hji5⟩:∃ j_:Int,(mn a0_0 a0_1) = j_:=⟨_,rfl⟩
   replace H:(if x4_1 ≤ (ji5) then (impl_grid_squares.l1 k1 x3_1 x4_1 0 a0_0 a0_1) else (some x3_1)) = some r:=by first | (rw [hji5] at H; exact H) | (simp only [hji5] at H ⊢; exact H)
   have hji5_:(if a0_1 < a0_0 then a0_1 else a0_0) = ji5:=hji5
   by_cases c6:x4_1 ≤ (ji5)
   ·rw [if_pos c6] at H
    have c6b0:decide (x4_1 ≤ (ji5)) = true:=decide_eq_true c6
    clear c6
    have H':=am_ H
    clear H
    have hcz7_0:wr.cell? ⟨gb243,0,none⟩ = some (.int .i64 a0_0):=(bc_ BK243.out 0).trans rfl
    have hcz7_1:wr.cell? ⟨gb243,1,none⟩ = some (.int .i64 a0_1):=(bc_ BK243.out 1).trans rfl
    have hfz7_0:=bz_ BK243.out 0
    have hfz7_1:=bz_ BK243.out 1
    go_wp2
    go_loopg [3,5] k1 (fun kq v3 v5 w' => ∃ (x3_2:List (S100)) (x5_2:Int),v5 = .int .i64 x5_2 ∧ Aside0 (impl_grid_squares.l1 kq x3_2 x4_1 x5_2 a0_0 a0_1 = some r) ∧ Aside0 (kq ≤ k1) ∧ Aside0 (Kd.R k100 100 w' w.heap.size (fun _ => True) v3 x3_2) ∧ Aside0 (w'.heap[gb243]? = some (.cells #[.int .i64 a0_0,.int .i64 a0_1] 56 (0,0))) ∧ Aside0 (Below w.heap.size w w'))
    case atStart => exact ⟨(x3_1),(0),rs_,H',⟨Nat.le_refl _⟩,⟨kr_ HO_3.out⟩,⟨bk_ BK243.out⟩,⟨bl1_ HB.out GE243.out⟩⟩
    case round =>
     clear H'
     try clear p2
     try clear c5
     try clear c6
     try clear c6b0
     try clear hcz7_0
     try clear hcz7_1
     try clear hfz7_0
     try clear hfz7_1
     try clear p2
     obtain ⟨x3_2,x5_2,rfl,HA,HK2,HO_3,BK243,HB⟩:=hrel
     cases gk with
     | zero => exact absurd HA.out (by simp [impl_grid_squares.l1])
     | succ k2 =>
      have H:=HA.out
      clear HA
      simp only [impl_grid_squares.l1] at H
      by_cases c8:(wrap64 (x5_2 + x4_1)) ≤ a0_1
      ·rw [if_pos c8] at H
       have c8b0:decide ((wrap64 (x5_2 + x4_1)) ≤ a0_1) = true:=decide_eq_true c8
       clear c8
       have H':=am_ H
       clear H
       have hcz9_0:wr.cell? ⟨gb243,0,none⟩ = some (.int .i64 a0_0):=(bc_ BK243.out 0).trans rfl
       have hcz9_1:wr.cell? ⟨gb243,1,none⟩ = some (.int .i64 a0_1):=(bc_ BK243.out 1).trans rfl
       have hfz9_0:=bz_ BK243.out 0
       have hfz9_1:=bz_ BK243.out 1
       go_wp2
       go_loopg [3,6] k2 (fun kq v3 v6 w' => ∃ (x3_3:List (S100)) (x6_3:Int),v6 = .int .i64 x6_3 ∧ Aside0 (impl_grid_squares.l2 kq x3_3 x4_1 x5_2 x6_3 a0_0 a0_1 = some r) ∧ Aside0 (kq ≤ k2) ∧ Aside0 (Kd.R k100 100 w' w.heap.size (fun _ => True) v3 x3_3) ∧ Aside0 (w'.heap[gb243]? = some (.cells #[.int .i64 a0_0,.int .i64 a0_1] 56 (0,0))) ∧ Aside0 (Below w.heap.size w w'))
       case atStart => exact ⟨(x3_2),(0),rs_,H',⟨Nat.le_refl _⟩,⟨kr_ HO_3.out⟩,⟨bk_ BK243.out⟩,⟨bl1_ HB.out GE243.out⟩⟩
       case round =>
        clear H'
        try clear p2
        try clear c5
        try clear c6
        try clear c6b0
        try clear p6
        try clear c8
        try clear c8b0
        try clear hcz7_0
        try clear hcz7_1
        try clear hcz9_0
        try clear hcz9_1
        try clear hfz7_0
        try clear hfz7_1
        try clear hfz9_0
        try clear hfz9_1
        try clear p2
        obtain ⟨x3_3,x6_3,rfl,HA,HK3,HO_3,BK243,HB⟩:=hrel
        cases gk with
        | zero => exact absurd HA.out (by simp [impl_grid_squares.l2])
        | succ k3 =>
         have H:=HA.out
         clear HA
         simp only [impl_grid_squares.l2] at H
         by_cases c10:(wrap64 (x6_3 + x4_1)) ≤ a0_0
         ·rw [if_pos c10] at H
          have c10b0:decide ((wrap64 (x6_3 + x4_1)) ≤ a0_0) = true:=decide_eq_true c10
          clear c10
          replace H:=bi_ H
          obtain ⟨t247,A110,H⟩:=H
          replace H:(if x3_3.length < 4398046511104 then (impl_grid_squares.l2 k3 (x3_3 ++ [(⟨x6_3,x5_2,x4_1,t247⟩:S100)]) x4_1 x5_2 (wrap64 (x6_3 + 1)) a0_0 a0_1) else (none)) = some r:=H
          have A11:=am_ A110
          clear A110
          by_cases c12:x3_3.length < 4398046511104
          ·rw [if_pos c12] at H
           have LMc12:=am_ c12
           clear c12
           obtain ⟨y248,hy248⟩:∃ y_:List (S100),y_ = (x3_3 ++ [(⟨x6_3,x5_2,x4_1,t247⟩:S100)]):=⟨_,rfl⟩
           replace H:(impl_grid_squares.l2 k3 y248 x4_1 x5_2 (wrap64 (x6_3 + 1)) a0_0 a0_1) = some r:=by first | (rw [hy248]; with_reducible exact H) | (have H2_:=(Option.bind_some _ _).symm.trans H; rw [hy248]; with_reducible exact H2_) | (have H2_:=(Option.bind_some _ _).symm.trans H; with_reducible exact H2_) | with_reducible exact H | (rw [hy248]; exact H) | exact H
           have Ny248:=am_ hy248
           clear hy248
           have H':=am_ H
           clear H
           have hcz13_0:wr.cell? ⟨gb243,0,none⟩ = some (.int .i64 a0_0):=(bc_ BK243.out 0).trans rfl
           have hcz13_1:wr.cell? ⟨gb243,1,none⟩ = some (.int .i64 a0_1):=(bc_ BK243.out 1).trans rfl
           have hfz13_0:=bz_ BK243.out 0
           have hfz13_1:=bz_ BK243.out 1
           go_wp2_with (first | ((with_reducible refine gate_callee (f:=78) rfl ?_); refine goesL_ (some 42) rfl rfl Tryz.func78 (by kernel_rfl) rfl #[.agg #[.int .i64 a0_0,.int .i64 a0_1],.int .i64 x6_3,.int .i64 x5_2,.int .i64 x4_1,.int .i64 x4_1] rfl ob_ ?_; (with_reducible refine (impl_grid_around.calls k3 a0_0 a0_1 x6_3 x5_2 x4_1 x4_1 t247 _ A11.out).mono ?_); rintro e w14 ⟨rfl,hb⟩; refine ⟨_,rfl,?_⟩; have n0_:=am_ (Kd.R_below (kr_ HO_3.out) hb); have n1_:=am_ (bb_ BK243.out hb); have n2_:=am_ (below_step (bl1_ HB.out GE243.out) hb); clear HO_3; clear BK243; clear HB; have HO_3:=n0_; have BK243:=n1_; have HB:=n2_; clear n0_ n1_ n2_; (try clear hb); (try clear hb2); (try clear hk); (try clear hi)) | ((with_reducible refine gate_builtin (b:=.append) (xs:=#[.tmp 33,.tmp 44]) rfl ?_); at_builtin; refine Kd.R_append k100 (w0:=w) w.heap.size rfl (.tmp 33) (.tmp 44) 76 100 (.agg #[(.int .i64 0),(.int .i64 0),(.int .i64 0),(.int .u64 0)]) 32 rfl Tryz.underlying76 info100 rfl (by decide) (by omega) u3 x3_3 (⟨x6_3,x5_2,x4_1,t247⟩:S100) [.int .i64 x6_3,.int .i64 x5_2,.int .i64 x4_1,.int .u64 t247] (fun _ => True) (fun _ => False) rfl rfl ?aP (fun _ hk => hk.elim) ?aF ?aO ?aB ?aS ?aL ?_; (case aP => exact k100_mkM _ _ _ (⟨x6_3,x5_2,x4_1,t247⟩:S100)); (case aB => exact (bl1_ HB.out GE243.out)); (case aF => exact (fun _ _ => trivial)); (case aO => exact (kr_ HO_3.out)); (case aS => exact (below_size (bl1_ HB.out GE243.out))); (case aL => have:=LMc12.out; omega); intro v249 w15 ho hb hg hat; rw [← Ny248.out] at ho; have n0_:=am_ (blk_grown (g:=gb243) (o:=.cells #[.int .i64 a0_0,.int .i64 a0_1] 56 (0,0)) (bk_ BK243.out) hg (Kd.R_ne HO_3.out BK243.out (by decide))); have n1_:=am_ (hb); have n2_:=am_ (ho); clear BK243; clear HB; clear HO_3; have BK243:=n0_; have HB:=n1_; have HO250:=n2_; clear n0_ n1_ n2_; clear ho hb hg hat))
           go_roundg k3
           case measure => have:=HK1.out; have:=HK2.out; have:=HK3.out; omega
           case rel => exact ⟨(y248),(wrap64 (x6_3 + 1)),rs_,H',⟨by have:=HK1.out; have:=HK2.out; have:=HK3.out; omega⟩,⟨kr_ HO250.out⟩,⟨bk_ BK243.out⟩,⟨bl1_ HB.out GE243.out⟩⟩
          ·rw [if_neg c12] at H
           exact absurd H (by simp)
         ·rw [if_neg c10] at H
          have c10b0:decide ((wrap64 (x6_3 + x4_1)) ≤ a0_0) = false:=decide_eq_false c10
          clear c10
          have H':=am_ H
          clear H
          have hcz16_0:wr.cell? ⟨gb243,0,none⟩ = some (.int .i64 a0_0):=(bc_ BK243.out 0).trans rfl
          have hcz16_1:wr.cell? ⟨gb243,1,none⟩ = some (.int .i64 a0_1):=(bc_ BK243.out 1).trans rfl
          have hfz16_0:=bz_ BK243.out 0
          have hfz16_1:=bz_ BK243.out 1
          go_wp2
          go_roundg k3
          case measure => have:=HK1.out; have:=HK2.out; have:=HK3.out; omega
          case rel => exact ⟨(x3_3),(wrap64 (x5_2 + 1)),rs_,H',⟨by have:=HK1.out; have:=HK2.out; have:=HK3.out; omega⟩,⟨kr_ HO_3.out⟩,⟨bk_ BK243.out⟩,⟨bl1_ HB.out GE243.out⟩⟩
      ·rw [if_neg c8] at H
       have c8b0:decide ((wrap64 (x5_2 + x4_1)) ≤ a0_1) = false:=decide_eq_false c8
       clear c8
       have H':=am_ H
       clear H
       have hcz17_0:wr.cell? ⟨gb243,0,none⟩ = some (.int .i64 a0_0):=(bc_ BK243.out 0).trans rfl
       have hcz17_1:wr.cell? ⟨gb243,1,none⟩ = some (.int .i64 a0_1):=(bc_ BK243.out 1).trans rfl
       have hfz17_0:=bz_ BK243.out 0
       have hfz17_1:=bz_ BK243.out 1
       go_wp2
       go_roundg k2
       case measure => have:=HK1.out; have:=HK2.out; omega
       case rel => exact ⟨(x3_2),(wrap64 (x4_1 + 1)),rs_,H',⟨by have:=HK1.out; have:=HK2.out; omega⟩,⟨kr_ HO_3.out⟩,⟨bk_ BK243.out⟩,⟨bl1_ HB.out GE243.out⟩⟩
   ·rw [if_neg c6] at H
    have c6b0:decide (x4_1 ≤ (ji5)) = false:=decide_eq_false c6
    clear c6
    obtain rfl:=Option.some.inj H
    have hcz18_0:wr.cell? ⟨gb243,0,none⟩ = some (.int .i64 a0_0):=(bc_ BK243.out 0).trans rfl
    have hcz18_1:wr.cell? ⟨gb243,1,none⟩ = some (.int .i64 a0_1):=(bc_ BK243.out 1).trans rfl
    have hfz18_0:=bz_ BK243.out 0
    have hfz18_1:=bz_ BK243.out 1
    go_wp2
    go_ret
    exact ⟨_,by first | rfl | (simp [errW_none,errW_some] <;> rfl) | (simp only [← hji5]; first | rfl | (simp [errW_none,errW_some] <;> rfl)) | (simp [*,errW_none,errW_some] <;> rfl),by (with_reducible repeat (first | apply Kd.R_alloc | apply Kd.R_drewN | apply Kd.R_drew)); exact HO_3.out,bl1_ HB.out GE243.out⟩


def PredS100 (g:Nat) (lb:Array Value) (p:S100 → Bool) (w:World):Prop:=∀ (W:World) (x:S100),Below w.heap.size w W → Calls Tryz.prog g (#[.agg #[.int .i64 x.f0,.int .i64 x.f1,.int .i64 x.f2,.int .u64 x.f3]] ++ lb) W fun e w' => e = .returned (.bool (p x)) ∧ Below W.heap.size W w'
theorem rdS100_nat (l:List S100) (k:Nat) (h:k < l.length):rd_T100 l (k:Int) = l[k]:=by
  unfold rd_T100; rw [Int.toNat_natCast,List.getD_eq_getElem?_getD,List.getElem?_eq_getElem h]; rfl
set_option maxHeartbeats 2000000 in
theorem indexS100_any (g:Nat) (lb:Array Value) (p:S100 → Bool) (eg:∀ args w,(callFunc g args).run Tryz.prog w = .ok (.enter g args) w) (A0:Option Addr) (c0:Nat) (l0:List S100) (w:World) (hr0:Kd.C k100 w A0 l0.length l0) (hp:PredS100 g lb p w) :
    Calls Tryz.prog 125 #[.slice A0 l0.length c0,.func (.func g) #[] lb] w fun e w' => e = .returned (.int .i64 (idxFrom p l0 0)) ∧ Below w.heap.size w w':=by
  have HR0:=am_ hr0
  have HP:=am_ hp
  have hbig:l0.length ≤ 9223372036854775807:=hr0.2.1
  clear hr0 hp
  generalize hn:l0.length = n at hbig
  have HN:=am_ hn
  clear hn
  have HR:Aside0 (Kd.C k100 w A0 n l0):=⟨by have h:=HR0.out; rw [HN.out] at h; exact h⟩
  clear HR0
  go_enter Tryz.func125,Tryz.ntmps125
  go_wp2
  go_loopg [5,8] n (fun gg _ s8 wr => ∃ kk:Nat,kk ≤ n ∧ n - kk ≤ gg ∧ s8 = .int .i64 kk ∧ Aside0 (Below w.heap.size w wr) ∧ Aside0 (idxFrom p l0 0 = idxFrom p (l0.drop kk) kk))
  case atStart => exact ⟨0,Nat.zero_le _,by omega,rfl,⟨Below.refl _ w⟩,⟨rfl⟩⟩
  case round =>
    obtain ⟨kk,hkk,hg,rfl,BW,A⟩:=hrel
    by_cases hlt:kk < n
    · have hltz:(kk:Int) < (n:Int):=by omega
      have hll:kk < l0.length:=by rw [HN.out]; exact hlt
      obtain ⟨ad,eA,hx,hx2,hx3,hx4⟩:=at_T100 (Kd.C_below HR.out BW.out) (kk:Int) (by omega) (by omega)
      cases eA
      rw [rdS100_nat l0 kk hll,Int.toNat_natCast] at hx hx2 hx3 hx4
      have hcall:=HP.out wr l0[kk] BW.out
      have hs:=idxFrom_drop p l0 kk hll
      have A2:Aside0 (idxFrom p l0 0 = if p l0[kk] then (kk:Int) else idxFrom p (l0.drop (kk + 1)) (kk + 1)):=⟨by rw [A.out,hs]⟩
      clear A hs
      generalize hy:l0[kk] = y at hx hx2 hx3 hx4 hcall A2
      clear hy hll
      cases hq:p y with
      | true =>
        rw [hq] at hcall
        have A3:Aside0 (idxFrom p l0 0 = (kk:Int)):=⟨by rw [A2.out,if_pos hq]⟩
        clear A2 hq
        go_wp2_with (go_at_fn g; refine hcall.mono ?_; rintro e w' ⟨rfl,hb'⟩)
        go_ret
        exact ⟨by rw [A3.out]; rfl,BW.out.trans (hb'.mono BW.out.size)⟩
      | false =>
        rw [hq] at hcall
        have A3:Aside0 (idxFrom p l0 0 = idxFrom p (l0.drop (kk + 1)) (kk + 1)):=⟨by rw [A2.out,if_neg (by rw [hq]; simp)]⟩
        clear A2 hq
        go_wp2_with (go_at_fn g; refine hcall.mono ?_; rintro e w' ⟨rfl,hb'⟩)
        go_roundg (n - (kk + 1))
        case measure => omega
        case rel => exact ⟨kk + 1,by omega,by omega,by go_num,⟨BW.out.trans (hb'.mono BW.out.size)⟩,A3⟩
    · have hltz:¬ (kk:Int) < (n:Int):=by omega
      have:kk = n:=by omega
      subst this
      go_wp2
      go_ret
      exact ⟨by rw [A.out,List.drop_of_length_le (by rw [HN.out]; exact Nat.le_refl _)]; rfl,BW.out⟩


theorem del_skip {α:Type} {p:α → Bool} {l L:List α} {n ii jj:Nat} {x:α} (h:L.length = n ∧ L.take ii = (l.take jj).filter (fun x => !p x) ∧ L.drop jj = l.drop jj) (hx:∃ h:jj < L.length,x = L[jj]) (hq:p x = true) :
    L.length = n ∧ L.take ii = (l.take (jj + 1)).filter (fun x => !p x) ∧ L.drop (jj + 1) = l.drop (jj + 1):=by
  obtain ⟨h1,h2,h3⟩:=h
  obtain ⟨hj,rfl⟩:=hx
  have h4:L.drop (jj + 1) = l.drop (jj + 1):=by rw [← List.drop_drop,h3,List.drop_drop]
  have hj2:jj < l.length:=by
    have:=congrArg List.length h3
    simp at this
    omega
  have h5:l[jj] = L[jj]:=by
    rw [List.drop_eq_getElem_cons hj,List.drop_eq_getElem_cons hj2] at h3
    injection h3 with h3 _
    exact h3.symm
  refine ⟨h1,?_,h4⟩
  rw [List.take_succ_eq_append_getElem hj2,List.filter_append,← h2,h5]
  simp [hq]
theorem del_keep {α:Type} {p:α → Bool} {l L:List α} {n ii jj:Nat} {x:α} (h:L.length = n ∧ L.take ii = (l.take jj).filter (fun x => !p x) ∧ L.drop jj = l.drop jj) (hij:ii < jj) (hx:∃ h:jj < L.length,x = L[jj]) (hq:p x = false) :
    (L.set ii x).length = n ∧ (L.set ii x).take (ii + 1) = (l.take (jj + 1)).filter (fun x => !p x) ∧ (L.set ii x).drop (jj + 1) = l.drop (jj + 1):=by
  obtain ⟨h1,h2,h3⟩:=h
  obtain ⟨hj,rfl⟩:=hx
  have h4:L.drop (jj + 1) = l.drop (jj + 1):=by rw [← List.drop_drop,h3,List.drop_drop]
  have hj2:jj < l.length:=by
    have:=congrArg List.length h3
    simp at this
    omega
  have h5:l[jj] = L[jj]:=by
    rw [List.drop_eq_getElem_cons hj,List.drop_eq_getElem_cons hj2] at h3
    injection h3 with h3 _
    exact h3.symm
  refine ⟨by simp [h1],?_,by rw [List.drop_set_of_lt (by omega),h4]⟩
  rw [List.take_succ_eq_append_getElem hj2,List.filter_append,← h2,h5,List.take_succ_eq_append_getElem (by simp; omega)]
  have e:(L.set ii L[jj]).take ii = L.take ii:=by
    apply List.ext_getElem?
    intro k
    rw [List.getElem?_take,List.getElem?_take]
    by_cases hk:k < ii
    · rw [if_pos hk,if_pos hk,List.getElem?_set_ne (by omega)]
    · rw [if_neg hk,if_neg hk]
  rw [e]
  simp [hq]
theorem del_end {α:Type} {p:α → Bool} {l L:List α} {n ii:Nat} (h:L.length = n ∧ L.take ii = (l.take n).filter (fun x => !p x) ∧ L.drop n = l.drop n) (hl:l.length = n):L.take ii = l.filter (fun x => !p x):=by
  rw [h.2.1,List.take_of_length_le (by omega)]


/- new variables in memory,read behind later ones -/
/- clear(s[i:]) on a row of the call's own -/
theorem zeroCells_len (c:Array Value) (n:Nat):(Builtin.zeroCells c n).toList.length = n * c.size:=by
  simp [Builtin.zeroCells]
theorem R_clear {P:Program} {α:Type} (d:Kd α) {W:World} {e base g n cap:Nat} {ok:Nat → Prop} {xs:List α} (h:d.R e W base ok (.slice (some ⟨g,0,none⟩) n cap) xs) (m:Nat) (hm:m ≤ n) (t ty:Nat) (z:Value) (ht:P.underlying t = some (.slice e))
    (hv:∀ w,(zeroValue e).run P w = .ok z w) (hz:z.cells.size = d.sz) (h1:∀ q ∈ (Builtin.zeroCells z.cells (n - m)).toList,q.oneCell' = true) :
    ∃ W1,(Builtin.clear_ #[t] ty #[.slice (some ⟨g,m * d.sz,none⟩) (n - m) (cap - m)]).run P W = .ok (.tuple #[]) W1 ∧ d.R e W1 base ok (.slice (some ⟨g,0,none⟩) m cap) (xs.take m) ∧ W.grownBy W1 (some g):=by
  have hn:n = xs.length:=(Kd.R_reads' h).1
  by_cases h0:n - m = 0
  · refine ⟨W,?_,Kd.R_take h (by omega),⟨rfl,rfl,rfl,Nat.le_refl _,fun _ _ _ => rfl⟩⟩
    rw [h0]
    simp [Builtin.clear_,run_underlying ht]
  · obtain ⟨hok,inner,ho,hr⟩:=Kd.R_take h (m:=m) (by omega)
    obtain ⟨hl,hrow⟩:=ho
    have hml:(xs.take m).length = m:=by rw [List.length_take]; omega
    rw [hml] at hl hrow
    obtain ⟨_,inner0,ho0,_⟩:=h
    rcases ho0.2 with ⟨hx,_⟩ | ⟨g0,cap0,cur,hx,hbg,hg,hnc,hcm,hsz,htk⟩
    · cases hx
    injection hx with ha hb hc
    injection ha with ha
    injection ha with ha
    subst ha hc
    rcases hrow with ⟨hx,_⟩ | ⟨g1,cap1,cur1,hx,hbg1,hg1,hnc1,hcm1,hsz1,htk1⟩
    · cases hx
    injection hx with ha hb' hc
    injection ha with ha
    injection ha with ha
    subst ha hc
    rw [hg] at hg1
    injection hg1 with hg1
    injection hg1 with hg1
    subst hg1
    have hzl:=zeroCells_len z.cells (n - m)
    rw [hz] at hzl
    have hfit:m * d.sz + 0 + (Builtin.zeroCells z.cells (n - m)).toList.length ≤ cur.size:=by
      rw [hzl,hsz,Nat.add_zero,← Nat.add_mul]
      exact Nat.mul_le_mul_right _ (by omega)
    have hst:=run_storeCells_at (P:=P) g (m * d.sz) e (Builtin.zeroCells z.cells (n - m)).toList 0 cur W hg hfit h1
    obtain ⟨cur',hc'⟩:∃ c,c = (cur.toList.take (m * d.sz + 0) ++ (Builtin.zeroCells z.cells (n - m)).toList ++ cur.toList.drop (m * d.sz + 0 + (Builtin.zeroCells z.cells (n - m)).toList.length)).toArray:=⟨_,rfl⟩
    rw [← hc'] at hst
    have hgw:W.grownBy (W.setRow g cur') (some g):=by
      refine ⟨rfl,rfl,rfl,by simp [World.setRow],fun k _ hk => ?_⟩
      simp only [World.setRow,Array.getElem?_modify]
      rw [if_neg (fun e => hk (by rw [e]))]
    refine ⟨W.setRow g cur',?_,⟨hok,inner,⟨by rw [hml]; exact hl,.inr ⟨g,cap,cur',by rw [hml],hbg,?_,by rw [hml]; omega,hcm,?_,?_⟩⟩,hr.imp_ (fun p c hp => d.M_move (fun k hk => ?_) hp)⟩,hgw⟩
    · obtain ⟨q,hq⟩:∃ q,n - m = q + 1:=⟨n - m - 1,by omega⟩
      rw [hq] at hst ⊢
      simp [Builtin.clear_,run_underlying ht,hv]
      rw [hst]
      rfl
    · simp only [World.setRow,Array.getElem?_modify,if_pos rfl,hg]
      rfl
    · rw [hc',List.size_toArray,List.length_append,List.length_append,List.length_take,List.length_drop,Array.length_toList]
      rw [hsz] at hfit ⊢
      omega
    · rw [hml,hc']
      simp only [Nat.add_zero]
      rw [← htk1,List.append_assoc,List.take_left' (by rw [List.length_take,Array.length_toList,hsz]; exact Nat.min_eq_left (Nat.mul_le_mul_right _ (by omega)))]
    · by_cases hkg:k = g
      · exact absurd hk.2 (by subst hkg; simp [Value.ownBlock])
      · rcases Nat.lt_or_ge k W.heap.size with hk2 | hk2
        · exact hgw.block k hk2 (by simpa using hkg)
        · rw [Array.getElem?_eq_none (by simpa [World.setRow] using hk2),Array.getElem?_eq_none hk2]
theorem zeroCells_one (c:Array Value) (n:Nat) (h:∀ q ∈ c,q.oneCell' = true):∀ q ∈ (Builtin.zeroCells c n).toList,q.oneCell' = true:=by
  intro q hq
  simp only [Builtin.zeroCells,Array.toList_map,List.mem_map,Array.mem_toList_iff,Array.mem_range] at hq
  obtain ⟨i,hi,rfl⟩:=hq
  have hlt : i % c.size < c.size := Nat.mod_lt _ (by rcases Nat.eq_zero_or_pos c.size with h0 | h0; · rw [h0] at hi; simp at hi
                                                     · exact h0)
  rw [getElem!_pos c _ hlt]
  exact h _ (Array.getElem_mem hlt)


theorem del_cells100 {w:World} {base g n cap ii:Nat} {ok:Nat → Prop} {L:List S100} (h:Kd.R k100 100 w base ok (.slice (some ⟨g,0,none⟩) n cap) L) (h1:(ii:Int) < L.length) :
    ∀ j u,[Value.int .i64 (rd_T100 L ii).f0,Value.int .i64 (rd_T100 L ii).f1,Value.int .i64 (rd_T100 L ii).f2,Value.int .u64 (rd_T100 L ii).f3][j]? = some u → w.cell? ⟨g,(ii:Int).toNat * k100.sz + j,none⟩ = some u:=by
  obtain ⟨ad,eA,hy,hy2,hy3,hy4⟩:=at_T100 (Kd.R_reads' h).2.2 (ii:Int) (by omega) h1
  cases eA
  simp only [add_plain] at hy hy2 hy3 hy4
  intro j u hj
  match j,hj with
  | 0,hj => simp at hj; subst hj; exact hy
  | 1,hj => simp at hj; subst hj; exact hy2
  | 2,hj => simp at hj; subst hj; exact hy3
  | 3,hj => simp at hj; subst hj; exact hy4
set_option maxRecDepth 100000 in
set_option maxHeartbeats 2000000 in
theorem deleteS100_any (g:Nat) (lb:Array Value) (p:S100 → Bool) (eg:∀ args w,(callFunc g args).run Tryz.prog w = .ok (.enter g args) w) (w1 w:World) (v:Value) (l:List S100) (hB:Below w1.heap.size w1 w) (ho:Kd.R k100 100 w w1.heap.size (fun _ => True) v l) (hp:PredS100 g lb p w1) :
    Calls Tryz.prog 109 #[v,.func (.func g) #[] lb] w fun e w' => ∃ v',e = .returned v' ∧ Kd.R k100 100 w' w1.heap.size (fun _ => True) v' (l.filter fun x => !p x) ∧ Below w1.heap.size w1 w':=by
  obtain ⟨A,c,rfl⟩:=Kd.R_slice ho
  have hidx:=indexS100_any g lb p eg A c l w (Kd.R_reads' ho).2.2 (fun W x hb => hp W x (hB.trans (hb.mono hB.size)))
  have hbig:l.length ≤ 9223372036854775807:=(Kd.R_reads' ho).2.2.2.1
  have hcap:l.length ≤ c:=(Kd.R_reads' ho).2.1
  rcases idxFrom_cases p l with ⟨hn,hi⟩ | ⟨i0,hi0,hi,hf⟩
  · rw [hi] at hidx
    have HB:=am_ hB
    have HO:=am_ ho
    have HF:Aside0 (l.filter (fun x => !p x) = l):=⟨hn⟩
    clear hB ho hp hn hi eg
    go_enter Tryz.func109,Tryz.ntmps109
    go_wp2_with (go_at_call 125; refine hidx.mono ?_; rintro e w2 ⟨rfl,hb2⟩)
    go_ret
    exact ⟨_,rfl,by rw [HF.out]; exact Kd.R_below HO.out hb2,HB.out.trans (hb2.mono HB.out.size)⟩
  · rw [hi] at hidx
    obtain ⟨ad,eA,-⟩:=at_T100 (Kd.R_reads' ho).2.2 0 (by omega) (by omega)
    cases eA
    obtain ⟨gb,rfl⟩:=Kd.R_head ho
    have HB:=am_ hB
    have HO:=am_ ho
    have HP:=am_ hp
    have HF:=am_ hf
    clear hB ho hp hf hi
    generalize hn:l.length = n at hbig hcap hi0 hidx HO ⊢
    have HN:=am_ hn
    clear hn
    have hne:((i0:Int) == -1) = false:=by rw [beq_eq_false_iff_ne]; omega
    go_enter Tryz.func109,Tryz.ntmps109
    go_wp2_with (go_at_call 125; refine hidx.mono ?_; rintro e w2 ⟨rfl,hb2⟩; have HO2:=am_ (Kd.R_below HO.out hb2); have HB2:=am_ (HB.out.trans (hb2.mono HB.out.size)); clear hb2 HO HB hidx)
    have hst:Aside0 (l.length = n ∧ l.take i0 = (l.take (i0 + 1)).filter (fun x => !p x) ∧ l.drop (i0 + 1) = l.drop (i0 + 1)):=⟨HN.out,HF.out.symm,rfl⟩
    clear HF
    go_loopg [5,6] n (fun gg u5 u6 wr => ∃ (ii jj:Nat) (L:List S100),u5 = .int .i64 ii ∧ u6 = .int .i64 jj ∧ ii < jj ∧ jj ≤ n ∧ n - jj ≤ gg ∧ Aside0 (L.length = n ∧ L.take ii = (l.take jj).filter (fun x => !p x) ∧ L.drop jj = l.drop jj) ∧ Aside0 (Kd.R k100 100 wr w1.heap.size (fun _ => True) (.slice (some ⟨gb,0,none⟩) n c) L) ∧ Aside0 (Below w1.heap.size w1 wr))
    case atStart => exact ⟨i0,i0 + 1,l,rfl,by go_num,by omega,by omega,by omega,hst,HO2,HB2⟩
    case round =>
      clear hst HO2 HB2
      obtain ⟨ii,jj,L,rfl,rfl,h1,h2,h3,HS,HO,HB⟩:=hrel
      by_cases hlt:jj < n
      · have hltz:(jj:Int) < (n:Int):=by omega
        obtain ⟨ad,eA,hx,hx2,hx3,hx4⟩:=at_T100 (Kd.R_reads' HO.out).2.2 (jj:Int) (by omega) (by have:=HS.out.1; omega)
        cases eA
        have hLj:jj < L.length:=by have:=HS.out.1; omega
        rw [rdS100_nat L jj hLj,Int.toNat_natCast] at hx hx2 hx3 hx4
        obtain ⟨x,hxe⟩:∃ x,x = L[jj]:=⟨_,rfl⟩
        rw [← hxe] at hx hx2 hx3 hx4
        simp only [add_plain] at hx hx2 hx3 hx4
        have HX:Aside0 (∃ h:jj < L.length,x = L[jj]):=⟨⟨hLj,hxe⟩⟩
        clear hxe hLj
        have hii:(ii:Int) < (n:Int):=by omega
        obtain ⟨ad',eA',hy,hy2,hy3,hy4⟩:=at_T100 (Kd.R_reads' HO.out).2.2 (ii:Int) (by omega) (by have:=HS.out.1; omega)
        cases eA'
        rw [Int.toNat_natCast] at hy hy2 hy3 hy4
        simp only [add_plain] at hy hy2 hy3 hy4
        have hcall:=HP.out (wr.alloc (.cells #[.int .i64 x.f0,.int .i64 x.f1,.int .i64 x.f2,.int .u64 x.f3] 100)) x (HB.out.alloc HB.out.size _)
        have HO1:=am_ (Kd.R_alloc HO.out (.cells #[.int .i64 x.f0,.int .i64 x.f1,.int .i64 x.f2,.int .u64 x.f3] 100))
        have HB1:=am_ (HB.out.alloc HB.out.size (.cells #[.int .i64 x.f0,.int .i64 x.f1,.int .i64 x.f2,.int .u64 x.f3] 100))
        clear hy hy2 hy3 hy4
        cases hq:p x with
        | true =>
          rw [hq] at hcall
          have HQ:=am_ hq
          clear hq
          go_wp2_with (go_at_fn g; refine hcall.mono ?_; rintro e w3 ⟨rfl,hb3⟩)
          go_roundg (n - (jj + 1))
          case measure => omega
          case rel => exact ⟨ii,jj + 1,L,rfl,by go_num,by omega,by omega,by omega,⟨del_skip HS.out HX.out HQ.out⟩,⟨Kd.R_below HO1.out hb3⟩,⟨HB1.out.trans (hb3.mono HB1.out.size)⟩⟩
        | false =>
          rw [hq] at hcall
          have HQ:=am_ hq
          clear hq
          go_wp2_with (first
            | (go_at_fn g; refine hcall.mono ?_; rintro e w3 ⟨rfl,hb3⟩; have k0:w3.cell? ⟨wr.heap.size,0,none⟩ = some (.int .i64 x.f0):=(hb3.cell (p:=⟨wr.heap.size,0,none⟩) (by simp)).trans (World.cell?_alloc_at _ _ _ _ rfl); have k1:w3.cell? ⟨wr.heap.size,1,none⟩ = some (.int .i64 x.f1):=(hb3.cell (p:=⟨wr.heap.size,1,none⟩) (by simp)).trans (World.cell?_alloc_at _ _ _ _ rfl); have k2:w3.cell? ⟨wr.heap.size,2,none⟩ = some (.int .i64 x.f2):=(hb3.cell (p:=⟨wr.heap.size,2,none⟩) (by simp)).trans (World.cell?_alloc_at _ _ _ _ rfl); have k3:w3.cell? ⟨wr.heap.size,3,none⟩ = some (.int .u64 x.f3):=(hb3.cell (p:=⟨wr.heap.size,3,none⟩) (by simp)).trans (World.cell?_alloc_at _ _ _ _ rfl);
               have HO3:=am_ (Kd.R_below HO1.out hb3); have HB3:=am_ (HB1.out.trans (hb3.mono HB1.out.size)); clear hb3 HO1 HB1)
            | ((with_reducible refine gate_store (t:=100) (p:=33) rfl ?_); refine Kd.R_store k100 w1.heap.size rfl rfl 100 (.tmp 33) (.tmp 32) rfl 100 (w0:=w1) (ii:Int) 0 L x (.agg #[.int .i64 x.f0,.int .i64 x.f1,.int .i64 x.f2,.int .u64 x.f3]) [.int .i64 x.f0,.int .i64 x.f1,.int .i64 x.f2,.int .u64 x.f3] [.int .i64 (rd_T100 L ii).f0,.int .i64 (rd_T100 L ii).f1,.int .i64 (rd_T100 L ii).f2,.int .u64 (rd_T100 L ii).f3] (fun _ => True) (fun _ => False) rfl ?s1 rfl rfl ?s2 ?s3 HO3.out ?s4 hii rfl ?s5 ?s6 ?s7 ?s8 HB3.out ?_;
               (case s1 => first | rfl | simp); (case s2 => kernel_rfl); (case s3 => simp [Value.oneCell']); (case s4 => omega); (case s5 => exact del_cells100 HO3.out (by have:=HS.out.1; omega)); (case s6 => exact Nat.le_refl 4); (case s7 => exact k100_mkM _ _ _ x); (case s8 => exact fun _ hk => hk.elim); intro w4 ho4 hb4 hg4; have HO4:=am_ ho4; have HB4:=am_ hb4; clear ho4 hb4 hg4 HO3 HB3))
          go_roundg (n - (jj + 1))
          case measure => omega
          case rel => exact ⟨ii + 1,jj + 1,L.set ii x,by go_num,by go_num,by omega,by omega,by omega,⟨del_keep HS.out h1 HX.out HQ.out⟩,by have h:=HO4.out; rw [Int.toNat_natCast] at h; exact ⟨h⟩,HB4⟩
      · have e:jj = n:=by omega
        have HE:Aside0 (L.take ii = l.filter (fun x => !p x)):=⟨by have:=HS.out; subst e; exact del_end this HN.out⟩
        have hj0:(0:Int) ≤ (ii:Int):=by omega
        have hj1:(ii:Int) ≤ (jj:Int):=by omega
        have hj2:ii < c:=by omega
        obtain ⟨W5,hrun0,ho5,hg5⟩:=R_clear (P:=Tryz.prog) k100 HO.out ii (by omega) 76 0 (.agg #[.int .i64 0,.int .i64 0,.int .i64 0,.int .u64 0]) Tryz.underlying76 (fun _ => by kernel_rfl) rfl (zeroCells_one _ _ (by simp [Value.cells,Value.oneCell']))
        have hrun:(Builtin.clear_ #[76] 0 #[.slice (some ⟨gb,ii * 4,none⟩) (n - ii) (c - ii)]).run Tryz.prog wr = .ok (.tuple #[]) W5:=hrun0
        have HO5:=am_ ho5
        have HB5:=am_ (HB.out.grown hg5 HB.out.size (fun k hk => by cases hk; exact Kd.R_base HO.out gb (by simp [Value.ownBlock])))
        clear hlt h1 h2 h3 hi0 hne hrun0 ho5 hg5 HO HB
        subst e
        go_wp2_with fail
        go_ret
        exact ⟨_,rfl,by rw [← HE.out]; exact HO5.out,HB5.out⟩


theorem R_lit0 {α:Type} (d:Kd α) (e:Nat) (W:World) (base:Nat) (hb:base ≤ W.heap.size):d.R e (W.alloc (.cells #[] e)) base (fun k => k = W.heap.size) (.slice (some ⟨W.heap.size,0,none⟩) 0 0) ([]:List α):=by
  refine ⟨fun k hk => by simpa [Value.ownBlock] using hk.symm,[],?_,Reps.none _ _⟩
  have h:=World.ownsRow_lit (base:=base) (e:=e) (size:=d.sz) W #[] 0 hb (by simp [maxLen]) (by simp)
  simpa using h
theorem lit1_C {α:Type} (enc:α → Value) (h1:∀ x,(enc x).oneCell' = true) (e:Nat) (W:World) (x:α):(Kd.scalar enc h1).C (W.alloc (.cells #[enc x] e)) (some ⟨W.heap.size,0,none⟩) 1 [x]:=by
  refine Kd.C_of_reads (enc:=enc) (d:=x) (h1:=h1) ⟨rfl,by omega,fun _ => ⟨_,rfl,fun j hj => ?_⟩⟩
  obtain rfl:j = 0:=by omega
  exact World.cell?_alloc_at _ _ _ _ rfl
theorem equalIn_some_nil {P:Program} {t e:TypeId} (h:P.underlying t = some (.slice e)) (w:World) (d:Nat) (a:Addr) (n c n' c':Nat) :
    (Op.equalIn (d + 1) t (.slice (some a) n c) (.slice none n' c')).run P w = .ok false w:=by
  simp [Op.equalIn,run_underlying h]
theorem eql_some_nil {P:Program} {t e:TypeId} (h:P.underlying t = some (.slice e)) (w:World) (a:Addr) (n c:Nat) :
    (binOp .eql t (.slice (some a) n c) (.slice none 0 0)).run P w = .ok (.bool false) w:=by
  simp only [binOp]
  simp [Op.equal,Op.maxDepth,equalIn_some_nil h w 9999 a n c 0 0]
theorem equalIn_none_nil {P:Program} {t e:TypeId} (h:P.underlying t = some (.slice e)) (w:World) (d:Nat) (n c n' c':Nat) :
    (Op.equalIn (d + 1) t (.slice none n c) (.slice none n' c')).run P w = .ok true w:=by
  simp [Op.equalIn,run_underlying h]
theorem eql_none_nil {P:Program} {t e:TypeId} (h:P.underlying t = some (.slice e)) (w:World) (n c:Nat) :
    (binOp .eql t (.slice none n c) (.slice none 0 0)).run P w = .ok (.bool true) w:=by
  simp only [binOp]
  simp [Op.equal,Op.maxDepth,equalIn_none_nil h w 9999 n c 0 0]


set_option maxHeartbeats 2000000 in
theorem cloneSq_any (A0:Option Addr) (c0:Nat) (l0:List S100) (w:World) (hr0:Kd.C k100 w A0 l0.length l0) (hl:l0.length ≤ 1000000) :
    Calls Tryz.prog 110 #[.slice A0 l0.length c0] w fun e w' => ∃ v,e = .returned v ∧ Kd.R k100 100 w' w.heap.size (fun _ => True) v l0 ∧ Below w.heap.size w w':=by
  have hi5:(Tryz.prog.info? 100).map (fun i => (i.zero,i.size,i.bytes)) = some (some (.agg #[.int .i64 0,.int .i64 0,.int .i64 0,.int .u64 0]),4,32):=by kernel_rfl
  have HR:=am_ hr0
  have HL:=am_ hl
  rcases A0 with _ | a0
  · have h0:l0 = []:=by
      rcases Nat.eq_zero_or_pos l0.length with h | h
      · exact List.eq_nil_of_length_eq_zero h
      · obtain ⟨ad,h,_⟩:=hr0.2.2 h
        cases h
    subst h0
    clear hr0 hl HR HL
    have heq:=fun w n c => eql_none_nil (P:=Tryz.prog) Tryz.underlying76 w n c
    go_enter Tryz.func110,Tryz.ntmps110
    go_wp2_with fail
    go_ret
    exact ⟨_,rfl,Kd.R_nil _ _ _ _ _,Below.refl _ _⟩
  · clear hr0 hl
    have heq:=fun w n c => eql_some_nil (P:=Tryz.prog) Tryz.underlying76 w a0 n c
    go_enter Tryz.func110,Tryz.ntmps110
    go_wp2_with ((at_builtin; refine Kd.R_append_rows k100 (Rr:=k100.K w) (w0:=w) w.heap.size rfl _ _ _ _ _ 32 rfl Tryz.underlying76 hi5 rfl (by decide) (by decide) (.slice (some ⟨w.heap.size,0,none⟩) 0 0) [] l0 _ _ _ (fun _ => True) (fun _ => False) rfl rfl ?xA ?xB ?xK (fun _ h => h.elim) (fun _ _ => trivial) ?xC ?xD ?xE ?_; (case xA => exact Kd.R_mono (R_lit0 k100 100 w w.heap.size (Nat.le_refl _)) (fun _ _ => trivial)); (case xB => exact ReadsRow.imp_ HR.out (below_alloc (Below.refl _ _) _) (fun _ _ h => h)); (case xK => intro x cs h; obtain rfl:=k100_open h; exact k100_mkM _ _ _ x); (case xC => exact below_alloc (Below.refl _ _) _); (case xD => simp); (case xE => have h_:=HL.out; simp; omega); intro v1 w1 ho hb hg hat; have HO:=am_ ho; have HB:=am_ hb; clear ho hb hg hat))
    go_ret
    exact ⟨_,rfl,HO.out,HB.out⟩


def ofP (s:Int) (q:S100):Bool:=Go.bits .andNot .u64 q.f3 s == 0
def impl_of.f (l0:List S100) (a1:Int):Option (List S100):=if l0.length ≤ 1000000 then some (l0.filter (ofP a1)) else none
theorem of_lit (a1:Int) (B:Nat) (W:World) (x:S100) (h1:W.cell? ⟨B,0,none⟩ = some (.int .u64 a1)) :
    Calls Tryz.prog 111 (#[.agg #[.int .i64 x.f0,.int .i64 x.f1,.int .i64 x.f2,.int .u64 x.f3]] ++ #[.pointer (some ⟨B,0,none⟩)]) W fun e w' => e = .returned (.bool (!(ofP a1 x))) ∧ Below W.heap.size W w':=by
  have hb:=wl_ W _ h1
  show Calls Tryz.prog 111 #[.agg #[.int .i64 x.f0,.int .i64 x.f1,.int .i64 x.f2,.int .u64 x.f3],.pointer (some ⟨B,0,none⟩)] W _
  go_enter Tryz.func111,Tryz.ntmps111
  go_wp2
  go_ret
  exact ⟨by unfold ofP; rfl,below_alloc (Below.refl _ _) _⟩
theorem impl_of.calls (A0:Option Addr) (c0:Nat) (l0:List S100) (a1:Int) (r:List S100) (w:World) (hr0:Kd.C k100 w A0 l0.length l0) (hc0:l0.length ≤ c0) (h:impl_of.f l0 a1 = some r) :
    Calls Tryz.prog 85 #[.slice A0 l0.length c0,.int .u64 a1] w fun e w' => ∃ v0_:Value,e = .returned v0_ ∧ Kd.R k100 100 w' w.heap.size (fun _ => True) v0_ r ∧ Below w.heap.size w w':=by
  have hmf:∀ (fn:Fn) (first cap:Array Value) (w:World),(Instr.makeFunc fn first cap).run Tryz.prog w = .ok (.func fn first cap) w:=fun _ _ _ _ => rfl
  have eg:∀ args w,(callFunc 111 args).run Tryz.prog w = .ok (.enter 111 args) w:=Go.Proofs.enters_of Tryz.func111 (by kernel_rfl) rfl
  unfold impl_of.f at h
  by_cases hl:l0.length ≤ 1000000
  · rw [if_pos hl] at h
    obtain rfl:=Option.some.inj h
    have HC:=am_ (cloneSq_any A0 c0 l0 (w.alloc (.cells #[.int .u64 a1] 72)) (Kd.C_alloc hr0 _) hl)
    have HD:Aside0 (∀ W v,Below (w.alloc (.cells #[.int .u64 a1] 72)).heap.size (w.alloc (.cells #[.int .u64 a1] 72)) W → Kd.R k100 100 W (w.alloc (.cells #[.int .u64 a1] 72)).heap.size (fun _ => True) v l0 →
        Calls Tryz.prog 109 #[v,.func (.func 111) #[] #[.pointer (some ⟨w.heap.size,0,none⟩)]] W fun e w' => ∃ v',e = .returned v' ∧ Kd.R k100 100 w' w.heap.size (fun _ => True) v' (l0.filter (ofP a1)) ∧ Below w.heap.size w w'):=⟨fun W v hB hr => by
      have hp:PredS100 111 #[.pointer (some ⟨w.heap.size,0,none⟩)] (fun x => !(ofP a1 x)) (w.alloc (.cells #[.int .u64 a1] 72)):=fun W2 x hb =>
        of_lit a1 w.heap.size W2 x (pw_cell_below hb (World.cell?_alloc_at _ _ _ _ rfl))
      refine (deleteS100_any _ _ _ eg _ W v l0 hB hr hp).mono ?_
      rintro e w' ⟨v',rfl,h1,h2⟩
      refine ⟨v',rfl,?_,below_step (below_alloc (Below.refl _ _) _) h2⟩
      rw [show l0.filter (ofP a1) = l0.filter fun x => !(!(ofP a1 x)) from by simp only [Bool.not_not]]
      exact Kd.R_lower h1 (by simp)⟩
    clear hr0 hc0 hl h eg
    generalize l0.filter (ofP a1) = R at HD ⊢
    go_enter Tryz.func85,Tryz.ntmps85
    go_wp2_with (first
      | (go_at_call 110; refine HC.out.mono ?_; rintro e w1 ⟨v,rfl,hr,hb⟩; have HR:=am_ hr; have HB:=am_ hb; clear hr hb)
      | (go_at_call 109; refine (HD.out _ _ HB.out HR.out).mono ?_; rintro e w2 ⟨v2,rfl,hr2,hb2⟩; have HR2:=am_ hr2; have HB2:=am_ hb2; clear hr2 hb2))
    go_ret
    exact ⟨_,rfl,HR2.out,HB2.out⟩
  · rw [if_neg hl] at h
    cases h


theorem sqBit_f (w h:Int) (up:Bool) (n:Nat) (hw:wrap64 (w * wrap64 (h + 1)) = w * (h + 1)) (h0:0 ≤ w * (h + 1)) (h1:w * (h + 1) ≤ 20) (hn:n ≤ 20):spec_sqBit.f w h up (n:Int) = some ((2 ^ ((if up then (w * (h + 1)).toNat else 0) + n):Nat):Int):=by
 unfold spec_sqBit.f
 cases up with
 | false =>
  rw [if_neg (by simp),if_pos (by omega),shl_i64 n (by omega)]
  simp
 | true =>
  have e3:wrap64 (w * (h + 1) + (n:Int)) = (((w * (h + 1)).toNat + n:Nat):Int):=by unfold wrap64; omega
  rw [if_pos rfl,hw,e3,if_pos (by omega),shl_i64 _ (by omega)]
  rfl
theorem sqMask_l1 (w h:Int) (a u:List Int) (hL:u.length ≤ 4000000) (hw:wrap64 (w * wrap64 (h + 1)) = w * (h + 1)) (h0:0 ≤ w * (h + 1)) (h1:w * (h + 1) ≤ 20) (hu:∀ k ∈ u,0 ≤ k ∧ k ≤ 20):∀ (d k i:Nat) (m:Nat),u.length - i = d → i ≤ u.length → d < k → m < 2 ^ 60 →
  spec_sqMask.l1 k (m:Int) u (u.length:Int) (i:Int) w h a u = some ((bitsFrom (w * (h + 1)).toNat (u.drop i) m:Nat):Int):=by
 intro d
 induction d with
 | zero =>
  intro k i m h2 h3 h4 h5
  obtain ⟨k,rfl⟩:∃ q,k = q + 1:=⟨k - 1,by omega⟩
  simp only [spec_sqMask.l1]
  rw [if_neg (by omega),List.drop_of_length_le (by omega)]
  rfl
 | succ d ih =>
  intro k i m h2 h3 h4 h5
  obtain ⟨k,rfl⟩:∃ q,k = q + 1:=⟨k - 1,by omega⟩
  have hi:i < u.length:=by omega
  have hk:=hu u[i] (List.getElem_mem hi)
  have e2:wrap64 ((i:Int) + 1) = ((i + 1:Nat):Int):=by unfold wrap64; omega
  have hr:=rd_nat u i hi
  have hd:=List.drop_eq_getElem_cons hi
  have c1:(i:Int) < (u.length:Int):=Int.ofNat_lt.2 hi
  have c2:(0:Int) ≤ (i:Int):=Int.natCast_nonneg _
  have n1:u.length - (i + 1) = d:=by clear hk hr hd c1 c2 ih h5 hw h0 h1 hu; omega
  have n3:d < k:=by clear hk hr hd c1 c2 ih h5 hw h0 h1 hu; omega
  have hih:=fun m hm => ih k (i + 1) m n1 hi n3 hm
  generalize u[i] = x at hk hr hd
  obtain ⟨y,rfl⟩:∃ y:Nat,x = (y:Int):=⟨x.toNat,(Int.toNat_of_nonneg hk.1).symm⟩
  have hy20:y ≤ 20:=by have:=hk.2; clear hr hd c1 c2 ih h5 hw h0 h1 hu hih; omega
  have hlt:(w * (h + 1)).toNat + y < 60:=by clear hr hd c1 c2 ih h5 hw hu hih hk; omega
  simp only [spec_sqMask.l1]
  rw [if_pos c1,if_pos c2,if_pos c1,hr,sqBit_f w h true y hw h0 h1 hy20,Option.bind_some,if_pos rfl,or_i64 _ _ h5 (pow_lt60 hlt),e2,hih _ (Nat.or_lt_two_pow h5 (pow_lt60 hlt)),hd]
  unfold bitsFrom
  rw [List.foldl_cons,Int.toNat_natCast]
theorem sqMask_l0 (w h:Int) (a u:List Int) (hL:a.length ≤ 4000000) (hLu:u.length ≤ 4000000) (hw:wrap64 (w * wrap64 (h + 1)) = w * (h + 1)) (h0:0 ≤ w * (h + 1)) (h1:w * (h + 1) ≤ 20) (ha:∀ k ∈ a,0 ≤ k ∧ k ≤ 20) (hu:∀ k ∈ u,0 ≤ k ∧ k ≤ 20):∀ (d k i:Nat) (m:Nat),a.length - i = d → i ≤ a.length → d + u.length + 2 < k → m < 2 ^ 60 →
  spec_sqMask.l0 k (m:Int) a (a.length:Int) (i:Int) w h a u = some ((bitsFrom (w * (h + 1)).toNat u (bitsFrom 0 (a.drop i) m):Nat):Int):=by
 intro d
 induction d with
 | zero =>
  intro k i m h2 h3 h4 h5
  obtain ⟨k,rfl⟩:∃ q,k = q + 1:=⟨k - 1,by omega⟩
  simp only [spec_sqMask.l0]
  rw [if_neg (by omega),List.drop_of_length_le (by omega)]
  exact sqMask_l1 w h a u hLu hw h0 h1 hu u.length k 0 m (by omega) (by omega) (by omega) h5
 | succ d ih =>
  intro k i m h2 h3 h4 h5
  obtain ⟨k,rfl⟩:∃ q,k = q + 1:=⟨k - 1,by omega⟩
  have hi:i < a.length:=by omega
  have hk:=ha a[i] (List.getElem_mem hi)
  have e2:wrap64 ((i:Int) + 1) = ((i + 1:Nat):Int):=by unfold wrap64; omega
  have hr:=rd_nat a i hi
  have hd:=List.drop_eq_getElem_cons hi
  have c1:(i:Int) < (a.length:Int):=Int.ofNat_lt.2 hi
  have c2:(0:Int) ≤ (i:Int):=Int.natCast_nonneg _
  have n1:a.length - (i + 1) = d:=by clear hk hr hd c1 c2 ih h5 hw h0 h1 hu ha; omega
  have n3:d + u.length + 2 < k:=by clear hk hr hd c1 c2 ih h5 hw h0 h1 hu ha; omega
  have hih:=fun m hm => ih k (i + 1) m n1 hi n3 hm
  generalize a[i] = x at hk hr hd
  obtain ⟨y,rfl⟩:∃ y:Nat,x = (y:Int):=⟨x.toNat,(Int.toNat_of_nonneg hk.1).symm⟩
  have hlt:0 + y < 60:=by have:=hk.2; clear hr hd c1 c2 ih h5 hw h0 h1 hu ha hih; omega
  have hy20:y ≤ 20:=by have:=hk.2; clear hr hd c1 c2 ih h5 hw h0 h1 hu ha hih; omega
  simp only [spec_sqMask.l0]
  rw [if_pos c1,if_pos c2,if_pos c1,hr,sqBit_f w h false y hw h0 h1 hy20,Option.bind_some,if_neg (by simp),or_i64 _ _ h5 (pow_lt60 hlt),e2,hih _ (Nat.or_lt_two_pow h5 (pow_lt60 hlt)),hd]
  unfold bitsFrom
  rw [List.foldl_cons,Int.toNat_natCast]
theorem sqMask_f {w h:Int} {a u:List Int} (hf:figB w h a u = true) (ha:a.length ≤ 1000000) (hu:u.length ≤ 1000000) (k:Nat) (hk:2000010 < k):spec_sqMask.f k w h a u = some ((figMask w h a u:Nat):Int):=by
 unfold figB at hf
 simp only [Bool.and_eq_true] at hf
 obtain ⟨hg,-,-,hi1,hi2⟩:=hf
 obtain ⟨b1,b2,b3,b4⟩:=grid_bounds (by simp only [Bool.and_eq_true]; exact hg)
 obtain ⟨c1,c2,c3,c4⟩:=area_bounds b1 b2 b3 b4
 have e1:wrap64 (h + 1) = h + 1:=by unfold wrap64; omega
 have e3:wrap64 (w * (h + 1)) = w * (h + 1):=by unfold wrap64; omega
 unfold spec_sqMask.f figMask
 have q:=sqMask_l0 w h a u (by omega) (by omega) (by rw [e1,e3]) (by omega) (by omega) (fun k hk => by have:=inB_mem hi1 k hk; omega) (fun k hk => by have:=inB_mem hi2 k hk; omega) a.length k 0 0 (by omega) (by omega) (by clear hi1 hi2; omega) (by decide)
 rw [List.drop_zero] at q
 exact q
def sqsSame (w h:Nat):Bool :=
 match impl_grid_squares.f 200 (w:Int) (h:Int),spec_sqAll.f 200 (w:Int) (h:Int) with
 | some L,some PL => (L.map (fun q => q.f3) == PL.map (fun q => q.f3)) && L.all (fun q => decide (0 ≤ q.f3) && decide (q.f3 < 2 ^ 60)) && decide (L.length ≤ 30)
 | _,_ => false
theorem sqs_11:sqsSame 1 1 = true:=by decide +kernel
theorem sqs_12:sqsSame 1 2 = true:=by decide +kernel
theorem sqs_13:sqsSame 1 3 = true:=by decide +kernel
theorem sqs_14:sqsSame 1 4 = true:=by decide +kernel
theorem sqs_21:sqsSame 2 1 = true:=by decide +kernel
theorem sqs_22:sqsSame 2 2 = true:=by decide +kernel
theorem sqs_23:sqsSame 2 3 = true:=by decide +kernel
theorem sqs_24:sqsSame 2 4 = true:=by decide +kernel
theorem sqs_31:sqsSame 3 1 = true:=by decide +kernel
theorem sqs_32:sqsSame 3 2 = true:=by decide +kernel
theorem sqs_33:sqsSame 3 3 = true:=by decide +kernel
theorem sqs_34:sqsSame 3 4 = true:=by decide +kernel
theorem sqs_41:sqsSame 4 1 = true:=by decide +kernel
theorem sqs_42:sqsSame 4 2 = true:=by decide +kernel
theorem sqs_43:sqsSame 4 3 = true:=by decide +kernel
theorem sqs_44:sqsSame 4 4 = true:=by decide +kernel
theorem sqs_all (w h:Nat) (h1:1 ≤ w) (h2:w ≤ 4) (h3:1 ≤ h) (h4:h ≤ 4):sqsSame w h = true:=by
 have hw:w = 1 ∨ w = 2 ∨ w = 3 ∨ w = 4:=by omega
 have hh:h = 1 ∨ h = 2 ∨ h = 3 ∨ h = 4:=by omega
 rcases hw with rfl | rfl | rfl | rfl <;> rcases hh with rfl | rfl | rfl | rfl
 ·exact sqs_11
 ·exact sqs_12
 ·exact sqs_13
 ·exact sqs_14
 ·exact sqs_21
 ·exact sqs_22
 ·exact sqs_23
 ·exact sqs_24
 ·exact sqs_31
 ·exact sqs_32
 ·exact sqs_33
 ·exact sqs_34
 ·exact sqs_41
 ·exact sqs_42
 ·exact sqs_43
 ·exact sqs_44
theorem nat_of_list {α:Type} (f:α → Int):∀ l:List α,(∀ q ∈ l,0 ≤ f q ∧ f q < 2 ^ 60) → ∃ E:List Nat,l.map f = E.map (fun n:Nat => (n:Int)) ∧ ∀ e ∈ E,e < 2 ^ 60
 | [],_ => ⟨[],rfl,fun _ h => by cases h⟩
 | x :: l,h => by
  obtain ⟨E,h1,h2⟩:=nat_of_list f l (fun q hq => h q (List.mem_cons_of_mem _ hq))
  obtain ⟨h3,h4⟩:=h x List.mem_cons_self
  refine ⟨(f x).toNat :: E,?_,fun e he => ?_⟩
  ·rw [List.map_cons,List.map_cons,h1,Int.toNat_of_nonneg h3]
  ·rcases List.mem_cons.1 he with rfl | he
   ·omega
   ·exact h2 e he
theorem squares_f {w h:Int} (h1:1 ≤ w) (h2:w ≤ 4) (h3:1 ≤ h) (h4:h ≤ 4) (k:Nat) (hk:200 ≤ k):∃ (L:List S100) (PL:List S85) (E:List Nat),impl_grid_squares.f k w h = some L ∧ spec_sqAll.f k w h = some PL ∧ L.map (fun q => q.f3) = E.map (fun n:Nat => (n:Int)) ∧ PL.map (fun q => q.f3) = E.map (fun n:Nat => (n:Int)) ∧ (∀ e ∈ E,e < 2 ^ 60) ∧ L.length ≤ 30:=by
 obtain ⟨w,rfl⟩:=Int.eq_ofNat_of_zero_le (show 0 ≤ w by omega)
 obtain ⟨h,rfl⟩:=Int.eq_ofNat_of_zero_le (show 0 ≤ h by omega)
 have hs:sqsSame w h = true:=sqs_all w h (by omega) (by omega) (by omega) (by omega)
 unfold sqsSame at hs
 cases hL:impl_grid_squares.f 200 (w:Int) (h:Int) with
 | none => rw [hL] at hs; cases hs
 | some L =>
  cases hP:spec_sqAll.f 200 (w:Int) (h:Int) with
  | none => rw [hL,hP] at hs; cases hs
  | some PL =>
   rw [hL,hP] at hs
   simp only [Bool.and_eq_true,beq_iff_eq,decide_eq_true_eq] at hs
   obtain ⟨⟨e1,e2⟩,e3⟩:=hs
   obtain ⟨E,e4,e5⟩:=nat_of_list (fun q:S100 => q.f3) L (fun q hq => by
    have:=List.all_eq_true.1 e2 q hq
    simpa using this)
   exact ⟨L,PL,E,up_rounds (fun k => impl_grid_squares.mono _ _ k) hk hL,up_rounds (fun k => spec_sqAll.mono _ _ k) hk hP,e4,by rw [← e1,e4],e5,e3⟩
def subE (e x:Nat):Bool:=diffN e x == 0
theorem subE_test {e x:Nat}:subE e x = true ↔ ∀ i,e.testBit i = true → x.testBit i = true:=by
 unfold subE
 rw [beq_iff_eq]
 constructor
 ·intro h i hi
  have h2:=diffN_test e x i
  rw [h,hi] at h2
  simpa using h2.symm
 ·intro h
  apply Nat.eq_of_testBit_eq
  intro i
  rw [diffN_test,Nat.zero_testBit]
  cases hi:e.testBit i with
  | false => rfl
  | true => rw [h i hi]; rfl
theorem subE_and (e x:Nat):subE e x = true ↔ x &&& e = e:=by
 rw [subE_test]
 constructor
 ·intro h
  apply Nat.eq_of_testBit_eq
  intro i
  rw [Nat.testBit_and]
  cases hi:e.testBit i with
  | false => simp
  | true => rw [h i hi]; rfl
 ·intro h i hi
  have h2:=congrArg (fun n => n.testBit i) h
  simp only [Nat.testBit_and,hi,Bool.and_true] at h2
  exact h2
theorem map_at {α:Type} {f:α → Int} {L:List α} {E:List Nat} (h:L.map f = E.map (fun n:Nat => (n:Int))) (d:α) (i:Nat) (hi:i < E.length):i < L.length ∧ f (L.getD i d) = ((E[i]:Nat):Int):=by
 have hl:L.length = E.length:=by have:=congrArg List.length h; simpa using this
 refine ⟨by omega,?_⟩
 have h2:=congrArg (fun l => l[i]?) h
 simp only [List.getElem?_map] at h2
 rw [List.getElem?_eq_getElem (show i < L.length by omega),List.getElem?_eq_getElem hi] at h2
 rw [List.getD_eq_getElem?_getD,List.getElem?_eq_getElem (show i < L.length by omega)]
 simpa using h2
theorem wrap_i1 (i:Nat) (h:i ≤ 1000000):wrap64 ((i:Int) + 1) = ((i + 1:Nat):Int):=by unfold wrap64; omega
theorem wrap_q (m q:Nat) (h:m ≤ 1000000) (hq:q ≤ 1):wrap64 ((m:Int) + (q:Int)) = ((m + q:Nat):Int):=by unfold wrap64; omega
theorem filter_map {α:Type} (f:α → Int) (p:Int → Bool) (q:Nat → Bool):∀ (L:List α) (E:List Nat),L.map f = E.map (fun n:Nat => (n:Int)) → (∀ e ∈ E,p ((e:Nat):Int) = q e) → (L.filter fun x => p (f x)).map f = (E.filter q).map (fun n:Nat => (n:Int))
 | [],[],_,_ => rfl
 | [],e :: E,h,_ => by cases h
 | x :: L,[],h,_ => by cases h
 | x :: L,e :: E,h,hp => by
  rw [List.map_cons,List.map_cons] at h
  injection h with h1 h2
  have ih:=filter_map f p q L E h2 (fun e he => hp e (List.mem_cons_of_mem _ he))
  have h3:p (f x) = q e:=by rw [h1]; exact hp e List.mem_cons_self
  by_cases hq:q e = true
  ·rw [List.filter_cons_of_pos (p:=fun x => p (f x)) (h3.trans hq),List.filter_cons_of_pos hq,List.map_cons,List.map_cons,ih,h1]
  ·rw [List.filter_cons_of_neg (p:=fun x => p (f x)) (by rw [h3]; exact hq),List.filter_cons_of_neg hq,ih]
theorem of_f {L:List S100} {E:List Nat} (h:L.map (fun q => q.f3) = E.map (fun n:Nat => (n:Int))) (hE:∀ e ∈ E,e < 2 ^ 60) (hl:L.length ≤ 30) (x:Nat) (hx:x < 2 ^ 60):∃ L',impl_of.f L (x:Int) = some L' ∧ L'.map (fun q => q.f3) = (E.filter fun e => subE e x).map (fun n:Nat => (n:Int)) ∧ L' = L.filter (ofP (x:Int)):=by
 refine ⟨L.filter (ofP (x:Int)),?_,?_,rfl⟩
 ·unfold impl_of.f
  rw [if_pos (Nat.le_trans hl (by decide))]
 ·have:=filter_map (fun q:S100 => q.f3) (fun y => Go.bits .andNot .u64 y (x:Int) == 0) (fun e => subE e x) L E h (fun e he => by
   rw [andNot_u64 _ _ (hE e he) hx]
   unfold subE
   rw [Bool.eq_iff_iff,beq_iff_eq,beq_iff_eq]
   exact ⟨fun h => by exact_mod_cast h,fun h => by rw [h]; rfl⟩)
  exact this


def spec_sqCount.l0:Nat → Int → Int → List (S85) → Int → Int → Option (Int)
 | 0,_,_,_,_,_ => none
 | k + 1,x1,x5,x8,x9,x10 => if x10 < x9 then (if 0 ≤ x10 then (if x10 < (x8.length:Int) then (if (Go.bits .and .i64 x1 ((rd_T85 x8 x10).f3)) = ((rd_T85 x8 x10).f3) then (spec_sqCount.l0 k x1 (wrap64 (x5 + 1)) x8 x9 (wrap64 (x10 + 1))) else (spec_sqCount.l0 k x1 x5 x8 x9 (wrap64 (x10 + 1)))) else (none)) else (none)) else (some x5)
def spec_sqCount.f (k:Nat) (l0:List (S85)) (a1:Int):Option (Int):=spec_sqCount.l0 k a1 0 l0 (l0.length:Int) 0
theorem spec_sqCount.mono_l:∀ k,(∀ y0 y1 y2 y3 y4,LeO (spec_sqCount.l0 k y0 y1 y2 y3 y4) (spec_sqCount.l0 (k + 1) y0 y1 y2 y3 y4))
 | 0 => fun _ _ _ _ _ r h => by simp [spec_sqCount.l0] at h
 | k + 1 => by
  have ih0:=spec_sqCount.mono_l k
  ·intro y0 y1 y2 y3 y4
   unfold spec_sqCount.l0
   repeat' first | (with_reducible first | exact ih0 _ _ _ _ _ | exact LeO.refl _ | exact LeO.none _ | refine LeO.ite ?_ ?_ | refine LeO.bind ?_ (fun _ => ?_)) | exact ih0 _ _ _ _ _
theorem spec_sqCount.mono:∀ a0 a1 k,LeO (spec_sqCount.f k a0 a1) (spec_sqCount.f (k + 1) a0 a1):=by
 intro a0 a1 k
 have ih0:=spec_sqCount.mono_l k
 unfold spec_sqCount.f
 repeat' first | (with_reducible first | exact ih0 _ _ _ _ _ | exact LeO.refl _ | exact LeO.none _ | refine LeO.ite ?_ ?_ | refine LeO.bind ?_ (fun _ => ?_)) | exact ih0 _ _ _ _ _
set_option maxHeartbeats 8000000 in
set_option maxRecDepth 100000 in
theorem spec_sqCount.calls (k:Nat) (A0:Option Addr) (c0:Nat) (l0:List (S85)) (a1:Int) (r:Int) (w:World) (hr0:Kd.C k85 w A0 l0.length l0) (hc0:l0.length ≤ c0) (h:spec_sqCount.f k l0 a1 = some r) :
  Calls Tryz.prog 49 #[.slice A0 l0.length c0,.int .i64 a1] w fun e w' => e = .returned (.int .i64 r) ∧ Below w.heap.size w w':=by
 have hu85:=Tryz.underlying85
 have HR0:=am_ hr0
 have HC0:=am_ hc0
 clear hr0 hc0
 have HB:=am_ (Below.refl w.heap.size w)
 have H:(spec_sqCount.l0 k a1 0 l0 (l0.length:Int) 0) = some r:=h
 clear h
 have H':=am_ H
 clear H
 go_enter Tryz.func49,Tryz.ntmps49
 go_wp2
 go_loopg [5,10] k (fun kq v5 v10 w' => ∃ (x5_1:Int) (x10_1:Int),v5 = .int .i64 x5_1 ∧ v10 = .int .i64 x10_1 ∧ Aside0 (spec_sqCount.l0 kq a1 x5_1 l0 (l0.length:Int) x10_1 = some r) ∧ Aside0 (kq ≤ k) ∧ Aside0 (Below w.heap.size w w'))
 case atStart => exact ⟨(0),(0),rs_,rs_,H',⟨Nat.le_refl _⟩,⟨bl0_ HB.out⟩⟩
 case round =>
  clear H'
  try clear p2
  obtain ⟨x5_1,x10_1,rfl,rfl,HA,HK1,HB⟩:=hrel
  cases gk with
  | zero => exact absurd HA.out (by simp [spec_sqCount.l0])
  | succ k1 =>
   have H:=HA.out
   clear HA
   simp only [spec_sqCount.l0] at H
   by_cases c3:x10_1 < (l0.length:Int)
   ·rw [if_pos c3] at H
    have c3b0:decide (x10_1 < (l0.length:Int)) = true:=decide_eq_true c3
    clear c3
    by_cases c4:0 ≤ x10_1
    ·rw [if_pos c4] at H
     have c4b0:decide (0 ≤ x10_1) = true:=decide_eq_true c4
     clear c4
     by_cases c5:x10_1 < (l0.length:Int)
     ·rw [if_pos c5] at H
      have c5b0:decide (x10_1 < (l0.length:Int)) = true:=decide_eq_true c5
      clear c5
      by_cases c6:(Go.bits .and .i64 a1 ((rd_T85 l0 x10_1).f3)) = ((rd_T85 l0 x10_1).f3)
      ·rw [if_pos c6] at H
       have c6b0:((Go.bits .and .i64 a1 ((rd_T85 l0 x10_1).f3)) == ((rd_T85 l0 x10_1).f3)) = true:=beq_iff_eq.mpr c6
       have c6b1:((Go.bits .and .i64 a1 ((rd_T85 l0 x10_1).f3)) != ((rd_T85 l0 x10_1).f3)) = false:=bne_eq_false_iff_eq.mpr c6
       clear c6
       have H':=am_ H
       clear H
       have p139:0 ≤ (x10_1:Int):=of_decide_eq_true as_
       have q139:x10_1 < (l0.length:Int):=of_decide_eq_true as_
       obtain ⟨ad139,e139,hx139_0,hx139_1,hx139_2,hx139_3⟩:=at_T85 HR0.out x10_1 p139 q139
       cases e139
       replace hx139_0:=(HB.out.cell (wl_ w _ hx139_0)).trans hx139_0
       replace hx139_1:=(HB.out.cell (wl_ w _ hx139_1)).trans hx139_1
       replace hx139_2:=(HB.out.cell (wl_ w _ hx139_2)).trans hx139_2
       replace hx139_3:=(HB.out.cell (wl_ w _ hx139_3)).trans hx139_3
       replace p139:=eq_true p139
       replace q139:=eq_true q139
       go_wp2_with (first | ((with_reducible refine gate_dst (N:=7) rfl ?_); refine boxE_ (N:=7) (cs:=#[.int .i64 0,.int .i64 0,.int .i64 0,.int .i64 0]) (t:=85) ?_; intro gb140 hg w7 hbox hb; have n0_:=am_ (below_step (bl0_ HB.out) hb); have n1_:=am_ (hbox); have n2_:=am_ ((bs0_ hg HB.out:w.heap.size ≤ gb140)); have n3_:=am_ ((bs0_ hg HB.out:w.heap.size ≤ gb140)); clear HB; have HB:=n0_; have BK140:=n1_; have GW140:=n2_; have GE140:=n3_; clear n0_ n1_ n2_ n3_; clear hb hbox hg; have hcz8_0:w7.cell? ⟨gb140,0,none⟩ = some (.int .i64 0):=(bc_ BK140.out 0).trans rfl; have hcz8_1:w7.cell? ⟨gb140,1,none⟩ = some (.int .i64 0):=(bc_ BK140.out 1).trans rfl; have hcz8_2:w7.cell? ⟨gb140,2,none⟩ = some (.int .i64 0):=(bc_ BK140.out 2).trans rfl; have hcz8_3:w7.cell? ⟨gb140,3,none⟩ = some (.int .i64 0):=(bc_ BK140.out 3).trans rfl; have hfz8_0:=bz_ BK140.out 0; have hfz8_1:=bz_ BK140.out 1; have hfz8_2:=bz_ BK140.out 2; have hfz8_3:=bz_ BK140.out 3))
       go_roundg k1
       case measure => have:=HK1.out; omega
       case rel => exact ⟨(wrap64 (x5_1 + 1)),(wrap64 (x10_1 + 1)),rs_,rs_,H',⟨by have:=HK1.out; omega⟩,⟨bl1_ HB.out GE140.out⟩⟩
      ·rw [if_neg c6] at H
       have c6b0:((Go.bits .and .i64 a1 ((rd_T85 l0 x10_1).f3)) == ((rd_T85 l0 x10_1).f3)) = false:=beq_eq_false_iff_ne.mpr c6
       have c6b1:((Go.bits .and .i64 a1 ((rd_T85 l0 x10_1).f3)) != ((rd_T85 l0 x10_1).f3)) = true:=bne_iff_ne.mpr c6
       have H':=am_ H
       clear H
       have p139:0 ≤ (x10_1:Int):=of_decide_eq_true as_
       have q139:x10_1 < (l0.length:Int):=of_decide_eq_true as_
       obtain ⟨ad139,e139,hx139_0,hx139_1,hx139_2,hx139_3⟩:=at_T85 HR0.out x10_1 p139 q139
       cases e139
       replace hx139_0:=(HB.out.cell (wl_ w _ hx139_0)).trans hx139_0
       replace hx139_1:=(HB.out.cell (wl_ w _ hx139_1)).trans hx139_1
       replace hx139_2:=(HB.out.cell (wl_ w _ hx139_2)).trans hx139_2
       replace hx139_3:=(HB.out.cell (wl_ w _ hx139_3)).trans hx139_3
       replace p139:=eq_true p139
       replace q139:=eq_true q139
       go_wp2_with (first | ((with_reducible refine gate_dst (N:=7) rfl ?_); refine boxE_ (N:=7) (cs:=#[.int .i64 0,.int .i64 0,.int .i64 0,.int .i64 0]) (t:=85) ?_; intro gb140 hg w9 hbox hb; have n0_:=am_ (below_step (bl0_ HB.out) hb); have n1_:=am_ (hbox); have n2_:=am_ ((bs0_ hg HB.out:w.heap.size ≤ gb140)); have n3_:=am_ ((bs0_ hg HB.out:w.heap.size ≤ gb140)); clear HB; have HB:=n0_; have BK140:=n1_; have GW140:=n2_; have GE140:=n3_; clear n0_ n1_ n2_ n3_; clear hb hbox hg; have hcz10_0:w9.cell? ⟨gb140,0,none⟩ = some (.int .i64 0):=(bc_ BK140.out 0).trans rfl; have hcz10_1:w9.cell? ⟨gb140,1,none⟩ = some (.int .i64 0):=(bc_ BK140.out 1).trans rfl; have hcz10_2:w9.cell? ⟨gb140,2,none⟩ = some (.int .i64 0):=(bc_ BK140.out 2).trans rfl; have hcz10_3:w9.cell? ⟨gb140,3,none⟩ = some (.int .i64 0):=(bc_ BK140.out 3).trans rfl; have hfz10_0:=bz_ BK140.out 0; have hfz10_1:=bz_ BK140.out 1; have hfz10_2:=bz_ BK140.out 2; have hfz10_3:=bz_ BK140.out 3))
       go_roundg k1
       case measure => have:=HK1.out; omega
       case rel => exact ⟨(x5_1),(wrap64 (x10_1 + 1)),rs_,rs_,H',⟨by have:=HK1.out; omega⟩,⟨bl1_ HB.out GE140.out⟩⟩
     ·rw [if_neg c5] at H
      exact absurd H (by simp)
    ·rw [if_neg c4] at H
     exact absurd H (by simp)
   ·rw [if_neg c3] at H
    have c3b0:decide (x10_1 < (l0.length:Int)) = false:=decide_eq_false c3
    clear c3
    obtain rfl:=Option.some.inj H
    go_wp2
    go_ret
    exact ⟨er_,bl0_ HB.out⟩


def spec_sqNeeded.l0:Nat → Int → Int → List (S85) → Int → Int → Option (Int)
 | 0,_,_,_,_,_ => none
 | k + 1,x1,x5,x8,x9,x10 => if x10 < x9 then (if 0 ≤ x10 then (if x10 < (x8.length:Int) then (if (Go.bits .and .i64 x1 ((rd_T85 x8 x10).f3)) = ((rd_T85 x8 x10).f3) then (spec_sqNeeded.l0 k x1 (Go.bits .or .i64 x5 ((rd_T85 x8 x10).f3)) x8 x9 (wrap64 (x10 + 1))) else (spec_sqNeeded.l0 k x1 x5 x8 x9 (wrap64 (x10 + 1)))) else (none)) else (none)) else (some x5)
def spec_sqNeeded.f (k:Nat) (l0:List (S85)) (a1:Int):Option (Int):=spec_sqNeeded.l0 k a1 0 l0 (l0.length:Int) 0
theorem spec_sqNeeded.mono_l:∀ k,(∀ y0 y1 y2 y3 y4,LeO (spec_sqNeeded.l0 k y0 y1 y2 y3 y4) (spec_sqNeeded.l0 (k + 1) y0 y1 y2 y3 y4))
 | 0 => fun _ _ _ _ _ r h => by simp [spec_sqNeeded.l0] at h
 | k + 1 => by
  have ih0:=spec_sqNeeded.mono_l k
  ·intro y0 y1 y2 y3 y4
   unfold spec_sqNeeded.l0
   repeat' first | (with_reducible first | exact ih0 _ _ _ _ _ | exact LeO.refl _ | exact LeO.none _ | refine LeO.ite ?_ ?_ | refine LeO.bind ?_ (fun _ => ?_)) | exact ih0 _ _ _ _ _
theorem spec_sqNeeded.mono:∀ a0 a1 k,LeO (spec_sqNeeded.f k a0 a1) (spec_sqNeeded.f (k + 1) a0 a1):=by
 intro a0 a1 k
 have ih0:=spec_sqNeeded.mono_l k
 unfold spec_sqNeeded.f
 repeat' first | (with_reducible first | exact ih0 _ _ _ _ _ | exact LeO.refl _ | exact LeO.none _ | refine LeO.ite ?_ ?_ | refine LeO.bind ?_ (fun _ => ?_)) | exact ih0 _ _ _ _ _
set_option maxHeartbeats 8000000 in
set_option maxRecDepth 100000 in
theorem spec_sqNeeded.calls (k:Nat) (A0:Option Addr) (c0:Nat) (l0:List (S85)) (a1:Int) (r:Int) (w:World) (hr0:Kd.C k85 w A0 l0.length l0) (hc0:l0.length ≤ c0) (h:spec_sqNeeded.f k l0 a1 = some r) :
  Calls Tryz.prog 50 #[.slice A0 l0.length c0,.int .i64 a1] w fun e w' => e = .returned (.int .i64 r) ∧ Below w.heap.size w w':=by
 have hu85:=Tryz.underlying85
 have HR0:=am_ hr0
 have HC0:=am_ hc0
 clear hr0 hc0
 have HB:=am_ (Below.refl w.heap.size w)
 have H:(spec_sqNeeded.l0 k a1 0 l0 (l0.length:Int) 0) = some r:=h
 clear h
 have H':=am_ H
 clear H
 go_enter Tryz.func50,Tryz.ntmps50
 go_wp2
 go_loopg [5,10] k (fun kq v5 v10 w' => ∃ (x5_1:Int) (x10_1:Int),v5 = .int .i64 x5_1 ∧ v10 = .int .i64 x10_1 ∧ Aside0 (spec_sqNeeded.l0 kq a1 x5_1 l0 (l0.length:Int) x10_1 = some r) ∧ Aside0 (kq ≤ k) ∧ Aside0 (Below w.heap.size w w'))
 case atStart => exact ⟨(0),(0),rs_,rs_,H',⟨Nat.le_refl _⟩,⟨bl0_ HB.out⟩⟩
 case round =>
  clear H'
  try clear p2
  obtain ⟨x5_1,x10_1,rfl,rfl,HA,HK1,HB⟩:=hrel
  cases gk with
  | zero => exact absurd HA.out (by simp [spec_sqNeeded.l0])
  | succ k1 =>
   have H:=HA.out
   clear HA
   simp only [spec_sqNeeded.l0] at H
   by_cases c3:x10_1 < (l0.length:Int)
   ·rw [if_pos c3] at H
    have c3b0:decide (x10_1 < (l0.length:Int)) = true:=decide_eq_true c3
    clear c3
    by_cases c4:0 ≤ x10_1
    ·rw [if_pos c4] at H
     have c4b0:decide (0 ≤ x10_1) = true:=decide_eq_true c4
     clear c4
     by_cases c5:x10_1 < (l0.length:Int)
     ·rw [if_pos c5] at H
      have c5b0:decide (x10_1 < (l0.length:Int)) = true:=decide_eq_true c5
      clear c5
      by_cases c6:(Go.bits .and .i64 a1 ((rd_T85 l0 x10_1).f3)) = ((rd_T85 l0 x10_1).f3)
      ·rw [if_pos c6] at H
       have c6b0:((Go.bits .and .i64 a1 ((rd_T85 l0 x10_1).f3)) == ((rd_T85 l0 x10_1).f3)) = true:=beq_iff_eq.mpr c6
       have c6b1:((Go.bits .and .i64 a1 ((rd_T85 l0 x10_1).f3)) != ((rd_T85 l0 x10_1).f3)) = false:=bne_eq_false_iff_eq.mpr c6
       clear c6
       have H':=am_ H
       clear H
       have p141:0 ≤ (x10_1:Int):=of_decide_eq_true as_
       have q141:x10_1 < (l0.length:Int):=of_decide_eq_true as_
       obtain ⟨ad141,e141,hx141_0,hx141_1,hx141_2,hx141_3⟩:=at_T85 HR0.out x10_1 p141 q141
       cases e141
       replace hx141_0:=(HB.out.cell (wl_ w _ hx141_0)).trans hx141_0
       replace hx141_1:=(HB.out.cell (wl_ w _ hx141_1)).trans hx141_1
       replace hx141_2:=(HB.out.cell (wl_ w _ hx141_2)).trans hx141_2
       replace hx141_3:=(HB.out.cell (wl_ w _ hx141_3)).trans hx141_3
       replace p141:=eq_true p141
       replace q141:=eq_true q141
       go_wp2_with (first | ((with_reducible refine gate_dst (N:=7) rfl ?_); refine boxE_ (N:=7) (cs:=#[.int .i64 0,.int .i64 0,.int .i64 0,.int .i64 0]) (t:=85) ?_; intro gb142 hg w7 hbox hb; have n0_:=am_ (below_step (bl0_ HB.out) hb); have n1_:=am_ (hbox); have n2_:=am_ ((bs0_ hg HB.out:w.heap.size ≤ gb142)); have n3_:=am_ ((bs0_ hg HB.out:w.heap.size ≤ gb142)); clear HB; have HB:=n0_; have BK142:=n1_; have GW142:=n2_; have GE142:=n3_; clear n0_ n1_ n2_ n3_; clear hb hbox hg; have hcz8_0:w7.cell? ⟨gb142,0,none⟩ = some (.int .i64 0):=(bc_ BK142.out 0).trans rfl; have hcz8_1:w7.cell? ⟨gb142,1,none⟩ = some (.int .i64 0):=(bc_ BK142.out 1).trans rfl; have hcz8_2:w7.cell? ⟨gb142,2,none⟩ = some (.int .i64 0):=(bc_ BK142.out 2).trans rfl; have hcz8_3:w7.cell? ⟨gb142,3,none⟩ = some (.int .i64 0):=(bc_ BK142.out 3).trans rfl; have hfz8_0:=bz_ BK142.out 0; have hfz8_1:=bz_ BK142.out 1; have hfz8_2:=bz_ BK142.out 2; have hfz8_3:=bz_ BK142.out 3))
       go_roundg k1
       case measure => have:=HK1.out; omega
       case rel => exact ⟨(Go.bits .or .i64 x5_1 ((rd_T85 l0 x10_1).f3)),(wrap64 (x10_1 + 1)),rs_,rs_,H',⟨by have:=HK1.out; omega⟩,⟨bl1_ HB.out GE142.out⟩⟩
      ·rw [if_neg c6] at H
       have c6b0:((Go.bits .and .i64 a1 ((rd_T85 l0 x10_1).f3)) == ((rd_T85 l0 x10_1).f3)) = false:=beq_eq_false_iff_ne.mpr c6
       have c6b1:((Go.bits .and .i64 a1 ((rd_T85 l0 x10_1).f3)) != ((rd_T85 l0 x10_1).f3)) = true:=bne_iff_ne.mpr c6
       have H':=am_ H
       clear H
       have p141:0 ≤ (x10_1:Int):=of_decide_eq_true as_
       have q141:x10_1 < (l0.length:Int):=of_decide_eq_true as_
       obtain ⟨ad141,e141,hx141_0,hx141_1,hx141_2,hx141_3⟩:=at_T85 HR0.out x10_1 p141 q141
       cases e141
       replace hx141_0:=(HB.out.cell (wl_ w _ hx141_0)).trans hx141_0
       replace hx141_1:=(HB.out.cell (wl_ w _ hx141_1)).trans hx141_1
       replace hx141_2:=(HB.out.cell (wl_ w _ hx141_2)).trans hx141_2
       replace hx141_3:=(HB.out.cell (wl_ w _ hx141_3)).trans hx141_3
       replace p141:=eq_true p141
       replace q141:=eq_true q141
       go_wp2_with (first | ((with_reducible refine gate_dst (N:=7) rfl ?_); refine boxE_ (N:=7) (cs:=#[.int .i64 0,.int .i64 0,.int .i64 0,.int .i64 0]) (t:=85) ?_; intro gb142 hg w9 hbox hb; have n0_:=am_ (below_step (bl0_ HB.out) hb); have n1_:=am_ (hbox); have n2_:=am_ ((bs0_ hg HB.out:w.heap.size ≤ gb142)); have n3_:=am_ ((bs0_ hg HB.out:w.heap.size ≤ gb142)); clear HB; have HB:=n0_; have BK142:=n1_; have GW142:=n2_; have GE142:=n3_; clear n0_ n1_ n2_ n3_; clear hb hbox hg; have hcz10_0:w9.cell? ⟨gb142,0,none⟩ = some (.int .i64 0):=(bc_ BK142.out 0).trans rfl; have hcz10_1:w9.cell? ⟨gb142,1,none⟩ = some (.int .i64 0):=(bc_ BK142.out 1).trans rfl; have hcz10_2:w9.cell? ⟨gb142,2,none⟩ = some (.int .i64 0):=(bc_ BK142.out 2).trans rfl; have hcz10_3:w9.cell? ⟨gb142,3,none⟩ = some (.int .i64 0):=(bc_ BK142.out 3).trans rfl; have hfz10_0:=bz_ BK142.out 0; have hfz10_1:=bz_ BK142.out 1; have hfz10_2:=bz_ BK142.out 2; have hfz10_3:=bz_ BK142.out 3))
       go_roundg k1
       case measure => have:=HK1.out; omega
       case rel => exact ⟨(x5_1),(wrap64 (x10_1 + 1)),rs_,rs_,H',⟨by have:=HK1.out; omega⟩,⟨bl1_ HB.out GE142.out⟩⟩
     ·rw [if_neg c5] at H
      exact absurd H (by simp)
    ·rw [if_neg c4] at H
     exact absurd H (by simp)
   ·rw [if_neg c3] at H
    have c3b0:decide (x10_1 < (l0.length:Int)) = false:=decide_eq_false c3
    clear c3
    obtain rfl:=Option.some.inj H
    go_wp2
    go_ret
    exact ⟨er_,bl0_ HB.out⟩


def impl_bit.f (a0:Bool):Option (Int):=if a0 = true then (some 1) else (some 0)
set_option maxHeartbeats 8000000 in
set_option maxRecDepth 100000 in
theorem impl_bit.calls (a0:Bool) (r:Int) (w:World) (h:impl_bit.f a0 = some r) :
    Calls Tryz.prog 84 #[.bool a0] w fun e w' => e = .returned (.int .i64 r) ∧ Drawn0 w w':=by
  have H:(if a0 = true then (some 1) else (some 0)) = some r:=h
  clear h
  by_cases c2:a0 = true
  · subst c2
    have H1:(some 1) = some r:=by rw [if_pos rfl] at H; exact H
    clear H
    have H:=H1
    clear H1
    obtain rfl:=Option.some.inj H
    go_enter Tryz.func84,Tryz.ntmps84
    go_wp2
    go_ret
    exact ⟨by first | rfl | (simp; done) | (simp [*]; done),by repeat (first | exact Drawn0.refl _ | apply Drawn0.step)⟩
  · replace c2:=Bool.eq_false_iff.mpr c2
    subst c2
    have H1:(some 0) = some r:=by rw [if_neg (show ¬ (false = true) by decide)] at H; exact H
    clear H
    have H:=H1
    clear H1
    obtain rfl:=Option.some.inj H
    go_enter Tryz.func84,Tryz.ntmps84
    go_wp2
    go_ret
    exact ⟨by first | rfl | (simp; done) | (simp [*]; done),by repeat (first | exact Drawn0.refl _ | apply Drawn0.step)⟩


def impl_needless.l0:Nat → Int → List (S100) → Int → Int → Option (Int)
  | 0,_,_,_,_ => none
  | k + 1,x5,x11,x12,x13 => if x13 < x12 then (if 0 ≤ x13 then (if x13 < (x11.length:Int) then (impl_needless.l0 k (Go.bits .andNot .u64 x5 ((rd_T100 x11 x13).f3)) x11 x12 (wrap64 (x13 + 1))) else (none)) else (none)) else (some x5)
def impl_needless.f (k:Nat) (l0:List (S100)) (a1:Int):Option (Int):=(impl_of.f l0 a1).bind fun t264 => (impl_needless.l0 k a1 t264 (t264.length:Int) 0)
theorem impl_needless.mono_l:∀ k,(∀ y0 y1 y2 y3,LeO (impl_needless.l0 k y0 y1 y2 y3) (impl_needless.l0 (k + 1) y0 y1 y2 y3))
  | 0 => fun _ _ _ _ r h => by simp [impl_needless.l0] at h
  | k + 1 => by
    have ih0:=impl_needless.mono_l k
    · intro y0 y1 y2 y3
      unfold impl_needless.l0
      repeat' first | (with_reducible first | exact ih0 _ _ _ _ | exact LeO.refl _ | exact LeO.none _ | refine LeO.ite ?_ ?_ | refine LeO.bind ?_ (fun _ => ?_)) | exact ih0 _ _ _ _
theorem impl_needless.mono:∀ a0 a1 k,LeO (impl_needless.f k a0 a1) (impl_needless.f (k + 1) a0 a1):=by
  intro a0 a1 k
  have ih0:=impl_needless.mono_l k
  unfold impl_needless.f
  repeat' first | (with_reducible first | exact ih0 _ _ _ _ | exact LeO.refl _ | exact LeO.none _ | refine LeO.ite ?_ ?_ | refine LeO.bind ?_ (fun _ => ?_)) | exact ih0 _ _ _ _
set_option maxHeartbeats 8000000 in
set_option maxRecDepth 100000 in
theorem impl_needless.calls (k:Nat) (A0:Option Addr) (c0:Nat) (l0:List (S100)) (a1:Int) (r:Int) (w:World) (hr0:Kd.C k100 w A0 l0.length l0) (hc0:l0.length ≤ c0) (h:impl_needless.f k l0 a1 = some r) :
    Calls Tryz.prog 62 #[.slice A0 l0.length c0,.int .u64 a1] w fun e w' => e = .returned (.int .u64 r) ∧ Below w.heap.size w w':=by
  have hu100:=Tryz.underlying100
  have HR0:=am_ hr0
  have HC0:=am_ hc0
  clear hr0 hc0
  have HB:=am_ (Below.refl w.heap.size w)
  have H:((impl_of.f l0 a1).bind fun t264 => (impl_needless.l0 k a1 t264 (t264.length:Int) 0)) = some r:=h
  clear h
  replace H:=bi_ H
  obtain ⟨t264,A30,H⟩:=H
  replace H:(impl_needless.l0 k a1 t264 (t264.length:Int) 0) = some r:=H
  have A3:=am_ A30
  clear A30
  have H':=am_ H
  clear H
  go_enter Tryz.func62,Tryz.ntmps62
  go_wp2_with (first | ((with_reducible refine gate_callee (f:=85) rfl ?_); refine goesL_ (some 11) rfl rfl Tryz.func85 (by kernel_rfl) rfl #[.slice A0 l0.length c0,.int .u64 a1] rfl ob_ ?_; (with_reducible refine (impl_of.calls _ _ l0 a1 t264 _ ?side1 ?side2 A3.out).mono ?_); (case side1 => repeat (first | exact HR0.out | (with_reducible refine Kd.C_alloc ?_ _) | (with_reducible refine Kd.C_drewN ?_ _) | (with_reducible refine Kd.C_drew ?_))); (case side2 => exact HC0.out); rintro e w4 ⟨v265,rfl,ho0,hb⟩; refine ⟨_,rfl,?_⟩; have n0_:=am_ (Kd.R_lower ho0 (below_size (bl0_ HB.out))); have n1_:=am_ (below_step (bl0_ HB.out) hb); clear HB; have HO266:=n0_; have HB:=n1_; clear n0_ n1_; (try clear hb); (try clear hb2); (try clear hk); (try clear hi); (try clear ho0); obtain ⟨Ao5,co5,eo5⟩:=Kd.R_slice HO266.out; subst eo5))
  go_loopg [5,13] k (fun kq v5 v13 w' => ∃ (x5_1:Int) (x13_1:Int),v5 = .int .u64 x5_1 ∧ v13 = .int .i64 x13_1 ∧ Aside0 (impl_needless.l0 kq x5_1 t264 (t264.length:Int) x13_1 = some r) ∧ Aside0 (kq ≤ k) ∧ Aside0 (Kd.R k100 100 w' w.heap.size (fun _ => True) (.slice Ao5 t264.length co5) t264) ∧ Aside0 (Below w.heap.size w w'))
  case atStart => exact ⟨(a1),(0),rs_,rs_,H',⟨Nat.le_refl _⟩,⟨kr_ HO266.out⟩,⟨bl0_ HB.out⟩⟩
  case round =>
    clear H'
    try clear p2
    obtain ⟨x5_1,x13_1,rfl,rfl,HA,HK1,HO_11,HB⟩:=hrel
    cases gk with
    | zero => exact absurd HA.out (by simp [impl_needless.l0])
    | succ k1 =>
      have H:=HA.out
      clear HA
      simp only [impl_needless.l0] at H
      by_cases c6:x13_1 < (t264.length:Int)
      · rw [if_pos c6] at H
        have c6b0:decide (x13_1 < (t264.length:Int)) = true:=decide_eq_true c6
        clear c6
        by_cases c7:0 ≤ x13_1
        · rw [if_pos c7] at H
          have c7b0:decide (0 ≤ x13_1) = true:=decide_eq_true c7
          clear c7
          by_cases c8:x13_1 < (t264.length:Int)
          · rw [if_pos c8] at H
            have c8b0:decide (x13_1 < (t264.length:Int)) = true:=decide_eq_true c8
            clear c8
            have H':=am_ H
            clear H
            have p267:0 ≤ (x13_1:Int):=of_decide_eq_true as_
            have q267:x13_1 < (t264.length:Int):=of_decide_eq_true as_
            obtain ⟨ad267,e267,hx267_0,hx267_1,hx267_2,hx267_3⟩:=at_T100 (Kd.R_reads' HO_11.out).2.2 x13_1 p267 q267
            cases e267
            replace p267:=eq_true p267
            replace q267:=eq_true q267
            go_wp2_with (first | ((with_reducible refine gate_dst (N:=7) rfl ?_); refine boxE_ (N:=7) (cs:=#[.int .i64 0,.int .i64 0,.int .i64 0,.int .u64 0]) (t:=100) ?_; intro gb268 hg w9 hbox hb; have n0_:=am_ (Kd.R_below (Kd.R_elderB (kr_ HO_11.out) gb268 (Nat.le_of_eq hg.symm)) hb); have n1_:=am_ (below_step (bl0_ HB.out) hb); have n2_:=am_ (hbox); have n3_:=am_ ((bs0_ hg HB.out:w.heap.size ≤ gb268)); have n4_:=am_ ((bs0_ hg HB.out:w.heap.size ≤ gb268)); clear HO_11; clear HB; have HO_11:=n0_; have HB:=n1_; have BK268:=n2_; have GW268:=n3_; have GE268:=n4_; clear n0_ n1_ n2_ n3_ n4_; clear hb hbox hg; have hcz10_0:w9.cell? ⟨gb268,0,none⟩ = some (.int .i64 0):=(bc_ BK268.out 0).trans rfl; have hcz10_1:w9.cell? ⟨gb268,1,none⟩ = some (.int .i64 0):=(bc_ BK268.out 1).trans rfl; have hcz10_2:w9.cell? ⟨gb268,2,none⟩ = some (.int .i64 0):=(bc_ BK268.out 2).trans rfl; have hcz10_3:w9.cell? ⟨gb268,3,none⟩ = some (.int .u64 0):=(bc_ BK268.out 3).trans rfl; have hfz10_0:=bz_ BK268.out 0; have hfz10_1:=bz_ BK268.out 1; have hfz10_2:=bz_ BK268.out 2; have hfz10_3:=bz_ BK268.out 3))
            go_roundg k1
            case measure => have:=HK1.out; omega
            case rel => exact ⟨(Go.bits .andNot .u64 x5_1 ((rd_T100 t264 x13_1).f3)),(wrap64 (x13_1 + 1)),rs_,rs_,H',⟨by have:=HK1.out; omega⟩,⟨by (with_reducible repeat (first | apply Kd.R_alloc | apply Kd.R_drewN | apply Kd.R_drew)); exact Kd.R_mono (Kd.R_far (p:=⟨gb268,3,none⟩) (Kd.R_far (p:=⟨gb268,2,none⟩) (Kd.R_far (p:=⟨gb268,1,none⟩) (Kd.R_far (p:=⟨gb268,0,none⟩) (Kd.R_mono HO_11.out (fun k_ hk => (⟨hk,hk.2⟩:_ ∧ k_ ≠ gb268))) (fun _ hk => hk.2) (.int .i64 ((rd_T100 t264 x13_1).f0))) (fun _ hk => hk.2) (.int .i64 ((rd_T100 t264 x13_1).f1))) (fun _ hk => hk.2) (.int .i64 ((rd_T100 t264 x13_1).f2))) (fun _ hk => hk.2) (.int .u64 ((rd_T100 t264 x13_1).f3))) (fun _ hk => trivial)⟩,⟨bl1_ HB.out GE268.out⟩⟩
          · rw [if_neg c8] at H
            exact absurd H (by simp)
        · rw [if_neg c7] at H
          exact absurd H (by simp)
      · rw [if_neg c6] at H
        have c6b0:decide (x13_1 < (t264.length:Int)) = false:=decide_eq_false c6
        clear c6
        obtain rfl:=Option.some.inj H
        go_wp2
        go_ret
        exact ⟨er_,bl0_ HB.out⟩


def cntN (E:List Nat) (x:Nat):Nat:=(E.filter fun e => subE e x).length
def needN (E:List Nat) (x m:Nat):Nat:=(E.filter fun e => subE e x).foldl (fun m e => m ||| e) m
def restN (E:List Nat) (x m:Nat):Nat:=(E.filter fun e => subE e x).foldl (fun m e => diffN m e) m
theorem cntN_cons (e:Nat) (E:List Nat) (x:Nat):cntN (e :: E) x = (if subE e x = true then 1 else 0) + cntN E x:=by
 unfold cntN
 by_cases hs:subE e x = true
 ·rw [List.filter_cons_of_pos (p:=fun e => subE e x) hs,if_pos hs,List.length_cons,Nat.add_comm]
 ·rw [List.filter_cons_of_neg (p:=fun e => subE e x) hs,if_neg hs,Nat.zero_add]
theorem restN_cons (e:Nat) (E:List Nat) (x m:Nat):restN (e :: E) x m = restN E x (if subE e x = true then diffN m e else m):=by
 unfold restN
 by_cases hs:subE e x = true
 ·rw [List.filter_cons_of_pos (p:=fun e => subE e x) hs,if_pos hs,List.foldl_cons]
 ·rw [List.filter_cons_of_neg (p:=fun e => subE e x) hs,if_neg hs]
theorem needN_cons (e:Nat) (E:List Nat) (x m:Nat):needN (e :: E) x m = needN E x (if subE e x = true then m ||| e else m):=by
 unfold needN
 by_cases hs:subE e x = true
 ·rw [List.filter_cons_of_pos (p:=fun e => subE e x) hs,if_pos hs,List.foldl_cons]
 ·rw [List.filter_cons_of_neg (p:=fun e => subE e x) hs,if_neg hs]
theorem bit_sub {e x:Nat} (he:e < 2 ^ 60) (hx:x < 2 ^ 60):impl_bit.f ((Go.bits .andNot .u64 ((e:Nat):Int) (x:Int)) == 0) = some ((if subE e x = true then 1 else 0:Nat):Int):=by
 rw [andNot_u64 _ _ he hx]
 unfold impl_bit.f subE
 by_cases h0:diffN e x = 0
 ·rw [h0]; rfl
 ·rw [show (((diffN e x:Nat):Int) == 0) = false by rw [beq_eq_false_iff_ne]; exact fun h => h0 (by exact_mod_cast h),show (diffN e x == 0) = false by rw [beq_eq_false_iff_ne]; exact h0]
  rfl
theorem sqCount_l0 (L:List S85) (E:List Nat) (h:L.map (fun q => q.f3) = E.map (fun n:Nat => (n:Int))) (hl:E.length ≤ 30) (x:Nat) (hb:∀ e ∈ E,Go.bits .and .i64 (x:Int) ((e:Nat):Int) = ((x &&& e:Nat):Int)):∀ (d k i m:Nat),E.length - i = d → i ≤ E.length → d < k → m ≤ i →
  spec_sqCount.l0 k (x:Int) (m:Int) L (L.length:Int) (i:Int) = some ((m + cntN (E.drop i) x:Nat):Int):=by
 have hlen:L.length = E.length:=by have:=congrArg List.length h; simpa using this
 intro d
 induction d with
 | zero =>
  intro k i m h1 h2 h3 h4
  obtain ⟨k,rfl⟩:∃ q,k = q + 1:=⟨k - 1,by omega⟩
  simp only [spec_sqCount.l0]
  rw [if_neg (by omega),List.drop_of_length_le (by omega)]
  rfl
 | succ d ih =>
  intro k i m h1 h2 h3 h4
  obtain ⟨k,rfl⟩:∃ q,k = q + 1:=⟨k - 1,by omega⟩
  have hi:i < E.length:=by omega
  obtain ⟨hiL,hat⟩:=map_at h z85 i hi
  have hrd:(rd_T85 L (i:Int)).f3 = ((E[i]:Nat):Int):=by unfold rd_T85; rw [Int.toNat_natCast]; exact hat
  simp only [spec_sqCount.l0]
  rw [if_pos (by omega),if_pos (by omega),if_pos (by omega),hrd,hb _ (List.getElem_mem hi),wrap_i1 i (by omega),List.drop_eq_getElem_cons hi,cntN_cons]
  by_cases hs:subE E[i] x = true
  ·rw [if_pos (by rw [(subE_and _ _).1 hs]),if_pos hs,wrap_i1 m (by omega),ih k (i + 1) (m + 1) (by omega) (by omega) (by omega) (by omega),Nat.add_assoc]
  ·rw [if_neg (fun h => hs ((subE_and _ _).2 (by exact_mod_cast h))),if_neg hs,ih k (i + 1) m (by omega) (by omega) (by omega) (by omega),Nat.zero_add]
theorem sqCount_f {L:List S85} {E:List Nat} (h:L.map (fun q => q.f3) = E.map (fun n:Nat => (n:Int))) (hE:∀ e ∈ E,e < 2 ^ 60) (hl:E.length ≤ 30) (x:Nat) (hx:x < 2 ^ 60) (k:Nat) (hk:40 ≤ k):spec_sqCount.f k L (x:Int) = some ((cntN E x:Nat):Int):=by
 have q:=sqCount_l0 L E h hl x (fun e he => and_i64 _ _ hx (hE e he)) E.length k 0 0 (Nat.sub_zero _) (Nat.zero_le _) (Nat.lt_of_lt_of_le (Nat.lt_of_le_of_lt hl (by decide)) hk) (Nat.le_refl _)
 rw [List.drop_zero,Nat.zero_add] at q
 exact q
theorem sqNeeded_l0 (L:List S85) (E:List Nat) (h:L.map (fun q => q.f3) = E.map (fun n:Nat => (n:Int))) (hl:E.length ≤ 30) (x:Nat) (hb:∀ e ∈ E,Go.bits .and .i64 (x:Int) ((e:Nat):Int) = ((x &&& e:Nat):Int)) (Sm:Nat → Prop) (ho:∀ e ∈ E,∀ m,Sm m → Sm (m ||| e) ∧ Go.bits .or .i64 (m:Int) ((e:Nat):Int) = ((m ||| e:Nat):Int)):∀ (d k i m:Nat),E.length - i = d → i ≤ E.length → d < k → Sm m →
  spec_sqNeeded.l0 k (x:Int) (m:Int) L (L.length:Int) (i:Int) = some ((needN (E.drop i) x m:Nat):Int):=by
 have hlen:L.length = E.length:=by have:=congrArg List.length h; simpa using this
 intro d
 induction d with
 | zero =>
  intro k i m h1 h2 h3 h4
  obtain ⟨k,rfl⟩:∃ q,k = q + 1:=⟨k - 1,by omega⟩
  simp only [spec_sqNeeded.l0]
  rw [if_neg (by omega),List.drop_of_length_le (by omega)]
  rfl
 | succ d ih =>
  intro k i m h1 h2 h3 h4
  obtain ⟨k,rfl⟩:∃ q,k = q + 1:=⟨k - 1,by omega⟩
  have hi:i < E.length:=by omega
  obtain ⟨hiL,hat⟩:=map_at h z85 i hi
  have hrd:(rd_T85 L (i:Int)).f3 = ((E[i]:Nat):Int):=by unfold rd_T85; rw [Int.toNat_natCast]; exact hat
  obtain ⟨o1,o2⟩:=ho _ (List.getElem_mem hi) m h4
  simp only [spec_sqNeeded.l0]
  rw [if_pos (by omega),if_pos (by omega),if_pos (by omega),hrd,hb _ (List.getElem_mem hi),wrap_i1 i (by omega),List.drop_eq_getElem_cons hi,needN_cons]
  by_cases hs:subE E[i] x = true
  ·rw [if_pos (by rw [(subE_and _ _).1 hs]),if_pos hs,o2,ih k (i + 1) _ (by omega) (by omega) (by omega) o1]
  ·rw [if_neg (fun h => hs ((subE_and _ _).2 (by exact_mod_cast h))),if_neg hs,ih k (i + 1) m (by omega) (by omega) (by omega) h4]
theorem sqNeeded_f {L:List S85} {E:List Nat} (h:L.map (fun q => q.f3) = E.map (fun n:Nat => (n:Int))) (hE:∀ e ∈ E,e < 2 ^ 60) (hl:E.length ≤ 30) (x:Nat) (hx:x < 2 ^ 60) (k:Nat) (hk:40 ≤ k):spec_sqNeeded.f k L (x:Int) = some ((needN E x 0:Nat):Int):=by
 have q:=sqNeeded_l0 L E h hl x (fun e he => and_i64 _ _ hx (hE e he)) (fun m => m < 2 ^ 60) (fun e he m hm => ⟨Nat.or_lt_two_pow hm (hE e he),or_i64 _ _ hm (hE e he)⟩) E.length k 0 0 (Nat.sub_zero _) (Nat.zero_le _) (Nat.lt_of_lt_of_le (Nat.lt_of_le_of_lt hl (by decide)) hk) (by decide)
 rw [List.drop_zero] at q
 exact q
theorem needless_l0 (L:List S100) (E:List Nat) (h:L.map (fun q => q.f3) = E.map (fun n:Nat => (n:Int))) (hl:E.length ≤ 30) (Sm:Nat → Prop) (ho:∀ e ∈ E,∀ m,Sm m → Sm (diffN m e) ∧ Go.bits .andNot .u64 (m:Int) ((e:Nat):Int) = ((diffN m e:Nat):Int)):∀ (d k i m:Nat),E.length - i = d → i ≤ E.length → d < k → Sm m →
  impl_needless.l0 k (m:Int) L (L.length:Int) (i:Int) = some (((E.drop i).foldl (fun m e => diffN m e) m:Nat):Int):=by
 have hlen:L.length = E.length:=by have:=congrArg List.length h; simpa using this
 intro d
 induction d with
 | zero =>
  intro k i m h1 h2 h3 h4
  obtain ⟨k,rfl⟩:∃ q,k = q + 1:=⟨k - 1,by omega⟩
  simp only [impl_needless.l0]
  rw [if_neg (by omega),List.drop_of_length_le (by omega)]
  rfl
 | succ d ih =>
  intro k i m h1 h2 h3 h4
  obtain ⟨k,rfl⟩:∃ q,k = q + 1:=⟨k - 1,by omega⟩
  have hi:i < E.length:=by omega
  obtain ⟨hiL,hat⟩:=map_at h z100 i hi
  have hrd:(rd_T100 L (i:Int)).f3 = ((E[i]:Nat):Int):=by unfold rd_T100; rw [Int.toNat_natCast]; exact hat
  obtain ⟨o1,o2⟩:=ho _ (List.getElem_mem hi) m h4
  simp only [impl_needless.l0]
  rw [if_pos (by omega),if_pos (by omega),if_pos (by omega),hrd,wrap_i1 i (by omega),List.drop_eq_getElem_cons hi,List.foldl_cons,o2,ih k (i + 1) _ (by omega) (by omega) (by omega) o1]
theorem needless_f {L:List S100} {E:List Nat} (h:L.map (fun q => q.f3) = E.map (fun n:Nat => (n:Int))) (hE:∀ e ∈ E,e < 2 ^ 60) (hl:L.length ≤ 30) (x:Nat) (hx:x < 2 ^ 60) (k:Nat) (hk:40 ≤ k):impl_needless.f k L (x:Int) = some ((restN E x x:Nat):Int):=by
 obtain ⟨L',h1,h2,h3⟩:=of_f h hE hl x hx
 have hlen:L.length = E.length:=by have:=congrArg List.length h; simpa using this
 have hl2:(E.filter fun e => subE e x).length ≤ 30:=Nat.le_trans (List.length_filter_le _ _) (by rw [← hlen]; exact hl)
 unfold impl_needless.f
 rw [h1,Option.bind_some]
 have q:=needless_l0 L' _ h2 hl2 (fun m => m < 2 ^ 60) (fun e he m hm => ⟨diffN_lt e hm,andNot_u64 _ _ hm (hE e (List.mem_filter.1 he).1)⟩) _ k 0 x (Nat.sub_zero _) (Nat.zero_le _) (Nat.lt_of_lt_of_le (Nat.lt_of_le_of_lt hl2 (by decide)) hk) hx
 rw [List.drop_zero] at q
 exact q
theorem restN_test (E:List Nat) (x:Nat):∀ m i,(restN E x m).testBit i = (m.testBit i && !(E.any fun e => subE e x && e.testBit i)):=by
 induction E with
 | nil => intro m i; simp [restN]
 | cons e E ih =>
  intro m i
  rw [restN_cons,ih,List.any_cons]
  by_cases hs:subE e x = true
  ·rw [if_pos hs,diffN_test,hs,Bool.true_and,Bool.not_or,Bool.and_assoc]
  ·rw [if_neg hs,Bool.eq_false_iff.2 hs,Bool.false_and,Bool.false_or]
theorem needN_test (E:List Nat) (x:Nat):∀ m i,(needN E x m).testBit i = (m.testBit i || E.any fun e => subE e x && e.testBit i):=by
 induction E with
 | nil => intro m i; simp [needN]
 | cons e E ih =>
  intro m i
  rw [needN_cons,ih,List.any_cons]
  by_cases hs:subE e x = true
  ·rw [if_pos hs,Nat.testBit_or,hs,Bool.true_and,Bool.or_assoc]
  ·rw [if_neg hs,Bool.eq_false_iff.2 hs,Bool.false_and,Bool.false_or]
theorem tidy_iff (E:List Nat) (x:Nat):restN E x x = 0 ↔ needN E x 0 = x:=by
 have hsub:∀ i,(E.any fun e => subE e x && e.testBit i) = true → x.testBit i = true:=fun i h => by
  obtain ⟨e,-,he⟩:=List.any_eq_true.1 h
  rw [Bool.and_eq_true] at he
  exact subE_test.1 he.1 i he.2
 constructor
 ·intro h
  apply Nat.eq_of_testBit_eq
  intro i
  rw [needN_test,Nat.zero_testBit,Bool.false_or]
  have h2:=restN_test E x x i
  rw [h,Nat.zero_testBit] at h2
  cases ha:(E.any fun e => subE e x && e.testBit i) with
  | true => rw [hsub i ha]
  | false => rw [ha] at h2; simp at h2; rw [h2]
 ·intro h
  apply Nat.eq_of_testBit_eq
  intro i
  rw [restN_test,Nat.zero_testBit]
  have h2:=needN_test E x 0 i
  rw [h,Nat.zero_testBit,Bool.false_or] at h2
  rw [← h2]
  cases x.testBit i <;> rfl

end Go.Proofs.YtehjfaddhmdicaaGreatDoor.P
