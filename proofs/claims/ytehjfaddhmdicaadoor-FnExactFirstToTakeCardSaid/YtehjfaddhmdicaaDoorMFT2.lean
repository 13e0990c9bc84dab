/- For every input the law FnExactFirstToTake answers true: the program's FirstToTake tells what the reference's FirstToTake tells; no condition. (part 2 of the proof; the words of the kit's print tool and the texts of this seat, merged by a program) -/
import Derived.Laws.Bits64b
import Derived.Lib.TrailingZeros
import Derived.Test.YtehjfaddhmdicaaDoorMFT1
namespace Go.Proofs.YtehjfaddhmdicaaDoor.P
open Go.RowKit Go.Proofs.YtehjfaddhmdicaaDoorW.PrintWords Go.Proofs.YtehjfaddhmdicaaDoorW.PrintLast Go.Proofs.YtehjfaddhmdicaaDoorW.PrintMore
attribute [local go_sem] max2_int min2_int max_two min_two max_three min_three max_four min_four   -- for this text's walks alone
set_option linter.unusedVariables false
set_option linter.unusedSimpArgs false

abbrev Tt:Bool:=true
abbrev Ff:Bool:=false
section
variable {P:Program} {ops:Array Oper} {Q:Exit → Act → World → Prop} {S:World → Prop} {ds:List Nat} {md:Region.Mode} {i:Nat} {N:Option Tmp} {oi:Oper} {v:Value} {fuel:Nat} {l:Array Bool} {a a':Act} {w:World}
theorem pZ (l':Array Bool) (h:wpAnyLast P md ops Q S ds fuel l' a' w) (hi:ops[i]? = some oi:=by rfl) (hN:oi.dst = N:=by rfl) (hc:anyB md ops l l' i = true:=by exact any_of HT_.out (by kernel_rfl))
    (hQ:∀ c a w,Q (.panic c) (a.put oi.dst v) w → Q (.panic c) a w:=by exact fun _ _ _ h => h) (hw:Region.wanted oi (yielded ops a.tmps) = true:=by rfl) (hy:∀ w',(execOp a.eval oi).run P w' = .ok (.value v) w':=by (intro w'; go_simp; with_reducible rfl))
    (ha:a.put N v = a':=by (simp only [Act.put,List.setIfInBounds_toArray,List.set_cons_zero,List.set_cons_succ,i64_w,i32_w]; rfl)):wpAnyLast P md ops Q S ds (fuel + 1) l a w :=
  pure_ l' hi hN hc hQ (Or.inl ⟨hw,hy⟩) ha h
theorem pU (l':Array Bool) (h:wpAnyLast P md ops Q S ds fuel l' a' w) (hi:ops[i]? = some oi:=by rfl) (hN:oi.dst = N:=by rfl) (hc:anyB md ops l l' i = true:=by exact any_of HT_.out (by kernel_rfl))
    (hQ:∀ c a w,Q (.panic c) (a.put oi.dst undef) w → Q (.panic c) a w:=by exact fun _ _ _ h => h) (hw:Region.wanted oi (yielded ops a.tmps) = false:=by rfl)
    (ha:a.put N undef = a':=by (simp only [Act.put,List.setIfInBounds_toArray,List.set_cons_zero,List.set_cons_succ,i64_w,i32_w]; rfl)):wpAnyLast P md ops Q S ds (fuel + 1) l a w :=
  pure_ l' hi hN hc hQ (Or.inr ⟨hw,rfl⟩) ha h
theorem tZ (l':Array Bool) (h:wpAnyLast P md ops Q S ds fuel l' a' w) (hi:ops[i]? = some oi:=by rfl) (hN:oi.dst = N:=by rfl) (hc:takeB md ops ds l l' i = true:=by exact take_ofW HT_.out HW_.out (by kernel_rfl))
    (hQ:∀ c a w,Q (.panic c) (a.put oi.dst v) w → Q (.panic c) a w:=by exact fun _ _ _ h => h) (hw:Region.wanted oi (yielded ops a.tmps) = true:=by rfl) (hS:S w:=by exact hHeld) (hy:∀ w',S w' → (execOp a.eval oi).run P w' = .ok (.value v) w':=by (intro w' hS_; go_split_ands; go_simp; with_reducible rfl))
    (ha:a.put N v = a':=by (simp only [Act.put,List.setIfInBounds_toArray,List.set_cons_zero,List.set_cons_succ,i64_w,i32_w]; rfl)):wpAnyLast P md ops Q S ds (fuel + 1) l a w :=
  take_ l' hi hN hc hQ (Or.inl ⟨hw,hy⟩) hS ha h
end

end Go.Proofs.YtehjfaddhmdicaaDoor.P
namespace Go.Proofs.YtehjfaddhmdicaaDoor.P
open Go.RowKit Go.Proofs.YtehjfaddhmdicaaDoorW.PrintWords Go.Proofs.YtehjfaddhmdicaaDoorW.PrintLast Go.Proofs.YtehjfaddhmdicaaDoorW.PrintMore
attribute [local go_sem] max2_int min2_int max_two min_two max_three min_three max_four min_four   -- for this text's walks alone
set_option linter.unusedVariables false
set_option linter.unusedSimpArgs false

def impl_IsFigure.f (k:Nat) (a0_0:Int) (a0_1:Int) (l0_2:List Int) (l0_3:List Int):Option (Bool):=(impl_isGrid.f a0_0 a0_1).bind fun t180 => (if t180 = true then ((impl_isRising.f k l0_2).bind fun t181 => (if t181 = true then ((impl_isRising.f k l0_3).bind fun t182 => (if t182 = true then ((impl_Figure_grid.f a0_0 a0_1 l0_2 l0_3).bind fun bt183 => ((impl_grid_levels.f bt183.1 bt183.2).bind fun t185 => ((impl_areWithin.f l0_2 0 (wrap64 (t185 - 1))).bind fun t186 => (if t186 = true then ((impl_Figure_grid.f a0_0 a0_1 l0_2 l0_3).bind fun bt187 => ((impl_grid_uprights.f bt187.1 bt187.2).bind fun t189 => ((impl_areWithin.f l0_3 0 (wrap64 (t189 - 1))).bind fun t190 => (some t190)))) else (some false))))) else (some false))) else (some false))) else (some false))
theorem impl_IsFigure.mono:∀ a0 a1 a2 a3 k,LeO (impl_IsFigure.f k a0 a1 a2 a3) (impl_IsFigure.f (k + 1) a0 a1 a2 a3):=by
 intro a0 a1 a2 a3 k
 unfold impl_IsFigure.f
 repeat' first | (with_reducible first | exact impl_isRising.mono _ _ | exact LeO.refl _ | exact LeO.none _ | refine LeO.ite ?_ ?_ | refine LeO.bind ?_ (fun _ => ?_)) | exact impl_isRising.mono _ _
def impl_IsFigure.T1:Bool × List (List Nat × List Nat):=(true,[([],[]),([0],[0]),([],[]),([2],[2]),([1,3],[1,3]),([4,4],[4]),([5],[5]),([6,5],[5,6]),([7,5,5],[5,7]),([5,8],[5,8]),([9,8],[9]),([10],[10]),([11,10],[10,11]),([12,10,10],[10,12]),([10,13],[10,13]),([14,13],[14]),([15],[15]),([16,15],[15,16]),([15],[15]),([18,15,15],[15,18]),([19,19,15],[15,19]),([20,15],[15,20]),([17,21,20,15],[15,17,21]),([15,22],[15,22]),([23,22],[23]),([24],[24]),([25,24],[24,25]),([24],[24]),([27,24,24],[24,27]),([28,28,24],[24,28]),([29,24],[24,29]),([26,30,29,24],[24,26,30]),([24,31],[24,31]),([32,31,0,1,2,3,4,5,6,7,8,9,10,11,12,13,14,15,16,17,18,19,20,21,22,23,24,25,26,27,28,29,30,31,32],[32])])
def impl_IsFigure.B1:List Nat:=[0,1,0,4,15,31,63,127,255,511,1023,2047,4095,8191,16383,32767,65535,131071,65535,327679,851967,1900543,4194303,8388607,16777215,33554431,67108863,33554431,167772159,436207615,973078527,2147483647,4294967295,8589934591]
theorem impl_IsFigure.tab1:rtab .any (opsOf Tryd.f93 1) = impl_IsFigure.T1:=by kernel_rfl
theorem impl_IsFigure.bits1:waitsOk impl_IsFigure.T1.2 impl_IsFigure.B1 = true:=by kernel_rfl
set_option maxHeartbeats 8000000 in
set_option maxRecDepth 100000 in
theorem impl_IsFigure.calls (k:Nat) (a0_0:Int) (a0_1:Int) (A0_2:Option Addr) (c0_2:Nat) (l0_2:List Int) (A0_3:Option Addr) (c0_3:Nat) (l0_3:List Int) (r:Bool) (w:World) (hr0_2:Kd.C (Kd.int .i64) w A0_2 l0_2.length l0_2) (hc0_2:l0_2.length ≤ c0_2) (hr0_3:Kd.C (Kd.int .i64) w A0_3 l0_3.length l0_3) (hc0_3:l0_3.length ≤ c0_3) (h:impl_IsFigure.f k a0_0 a0_1 l0_2 l0_3 = some r) :
  Calls Tryd.prog 93 #[.agg #[.int .i64 a0_0,.int .i64 a0_1,.slice A0_2 l0_2.length c0_2,.slice A0_3 l0_3.length c0_3]] w fun e w' => e = .returned (.bool r) ∧ Below w.heap.size w w':=by
 have hu36:=Tryd.underlying36
 have HR0_2:=am_ hr0_2
 have HC0_2:=am_ hc0_2
 clear hr0_2 hc0_2
 have HR0_3:=am_ hr0_3
 have HC0_3:=am_ hc0_3
 clear hr0_3 hc0_3
 have HB:=am_ (Below.refl w.heap.size w)
 have H:((impl_isGrid.f a0_0 a0_1).bind fun t180 => (if t180 = true then ((impl_isRising.f k l0_2).bind fun t181 => (if t181 = true then ((impl_isRising.f k l0_3).bind fun t182 => (if t182 = true then ((impl_Figure_grid.f a0_0 a0_1 l0_2 l0_3).bind fun bt183 => ((impl_grid_levels.f bt183.1 bt183.2).bind fun t185 => ((impl_areWithin.f l0_2 0 (wrap64 (t185 - 1))).bind fun t186 => (if t186 = true then ((impl_Figure_grid.f a0_0 a0_1 l0_2 l0_3).bind fun bt187 => ((impl_grid_uprights.f bt187.1 bt187.2).bind fun t189 => ((impl_areWithin.f l0_3 0 (wrap64 (t189 - 1))).bind fun t190 => (some t190)))) else (some false))))) else (some false))) else (some false))) else (some false))) = some r:=h
 clear h
 replace H:=bi_ H
 obtain ⟨t180,A20,H⟩:=H
 replace H:(if t180 = true then ((impl_isRising.f k l0_2).bind fun t181 => (if t181 = true then ((impl_isRising.f k l0_3).bind fun t182 => (if t182 = true then ((impl_Figure_grid.f a0_0 a0_1 l0_2 l0_3).bind fun bt183 => ((impl_grid_levels.f bt183.1 bt183.2).bind fun t185 => ((impl_areWithin.f l0_2 0 (wrap64 (t185 - 1))).bind fun t186 => (if t186 = true then ((impl_Figure_grid.f a0_0 a0_1 l0_2 l0_3).bind fun bt187 => ((impl_grid_uprights.f bt187.1 bt187.2).bind fun t189 => ((impl_areWithin.f l0_3 0 (wrap64 (t189 - 1))).bind fun t190 => (some t190)))) else (some false))))) else (some false))) else (some false))) else (some false)) = some r:=H
 have A2:=am_ A20
 clear A20
 by_cases c3:t180 = true
 ·subst c3
  have H1:((impl_isRising.f k l0_2).bind fun t181 => (if t181 = true then ((impl_isRising.f k l0_3).bind fun t182 => (if t182 = true then ((impl_Figure_grid.f a0_0 a0_1 l0_2 l0_3).bind fun bt183 => ((impl_grid_levels.f bt183.1 bt183.2).bind fun t185 => ((impl_areWithin.f l0_2 0 (wrap64 (t185 - 1))).bind fun t186 => (if t186 = true then ((impl_Figure_grid.f a0_0 a0_1 l0_2 l0_3).bind fun bt187 => ((impl_grid_uprights.f bt187.1 bt187.2).bind fun t189 => ((impl_areWithin.f l0_3 0 (wrap64 (t189 - 1))).bind fun t190 => (some t190)))) else (some false))))) else (some false))) else (some false))) = some r:=by rw [if_pos rfl] at H; exact H
  clear H
  have H:=H1
  clear H1
  replace H:=bi_ H
  obtain ⟨t181,A40,H⟩:=H
  replace H:(if t181 = true then ((impl_isRising.f k l0_3).bind fun t182 => (if t182 = true then ((impl_Figure_grid.f a0_0 a0_1 l0_2 l0_3).bind fun bt183 => ((impl_grid_levels.f bt183.1 bt183.2).bind fun t185 => ((impl_areWithin.f l0_2 0 (wrap64 (t185 - 1))).bind fun t186 => (if t186 = true then ((impl_Figure_grid.f a0_0 a0_1 l0_2 l0_3).bind fun bt187 => ((impl_grid_uprights.f bt187.1 bt187.2).bind fun t189 => ((impl_areWithin.f l0_3 0 (wrap64 (t189 - 1))).bind fun t190 => (some t190)))) else (some false))))) else (some false))) else (some false)) = some r:=H
  have A4:=am_ A40
  clear A40
  by_cases c5:t181 = true
  ·subst c5
   have H1:((impl_isRising.f k l0_3).bind fun t182 => (if t182 = true then ((impl_Figure_grid.f a0_0 a0_1 l0_2 l0_3).bind fun bt183 => ((impl_grid_levels.f bt183.1 bt183.2).bind fun t185 => ((impl_areWithin.f l0_2 0 (wrap64 (t185 - 1))).bind fun t186 => (if t186 = true then ((impl_Figure_grid.f a0_0 a0_1 l0_2 l0_3).bind fun bt187 => ((impl_grid_uprights.f bt187.1 bt187.2).bind fun t189 => ((impl_areWithin.f l0_3 0 (wrap64 (t189 - 1))).bind fun t190 => (some t190)))) else (some false))))) else (some false))) = some r:=by rw [if_pos rfl] at H; exact H
   clear H
   have H:=H1
   clear H1
   replace H:=bi_ H
   obtain ⟨t182,A60,H⟩:=H
   replace H:(if t182 = true then ((impl_Figure_grid.f a0_0 a0_1 l0_2 l0_3).bind fun bt183 => ((impl_grid_levels.f bt183.1 bt183.2).bind fun t185 => ((impl_areWithin.f l0_2 0 (wrap64 (t185 - 1))).bind fun t186 => (if t186 = true then ((impl_Figure_grid.f a0_0 a0_1 l0_2 l0_3).bind fun bt187 => ((impl_grid_uprights.f bt187.1 bt187.2).bind fun t189 => ((impl_areWithin.f l0_3 0 (wrap64 (t189 - 1))).bind fun t190 => (some t190)))) else (some false))))) else (some false)) = some r:=H
   have A6:=am_ A60
   clear A60
   by_cases c7:t182 = true
   ·subst c7
    have H1:((impl_Figure_grid.f a0_0 a0_1 l0_2 l0_3).bind fun bt183 => ((impl_grid_levels.f bt183.1 bt183.2).bind fun t185 => ((impl_areWithin.f l0_2 0 (wrap64 (t185 - 1))).bind fun t186 => (if t186 = true then ((impl_Figure_grid.f a0_0 a0_1 l0_2 l0_3).bind fun bt187 => ((impl_grid_uprights.f bt187.1 bt187.2).bind fun t189 => ((impl_areWithin.f l0_3 0 (wrap64 (t189 - 1))).bind fun t190 => (some t190)))) else (some false))))) = some r:=by rw [if_pos rfl] at H; exact H
    clear H
    have H:=H1
    clear H1
    replace H:=bi_ H
    obtain ⟨⟨t183,t184⟩,A80,H⟩:=H
    replace H:((impl_grid_levels.f t183 t184).bind fun t185 => ((impl_areWithin.f l0_2 0 (wrap64 (t185 - 1))).bind fun t186 => (if t186 = true then ((impl_Figure_grid.f a0_0 a0_1 l0_2 l0_3).bind fun bt187 => ((impl_grid_uprights.f bt187.1 bt187.2).bind fun t189 => ((impl_areWithin.f l0_3 0 (wrap64 (t189 - 1))).bind fun t190 => (some t190)))) else (some false)))) = some r:=H
    have A8:=am_ A80
    clear A80
    replace H:=bi_ H
    obtain ⟨t185,A90,H⟩:=H
    replace H:((impl_areWithin.f l0_2 0 (wrap64 (t185 - 1))).bind fun t186 => (if t186 = true then ((impl_Figure_grid.f a0_0 a0_1 l0_2 l0_3).bind fun bt187 => ((impl_grid_uprights.f bt187.1 bt187.2).bind fun t189 => ((impl_areWithin.f l0_3 0 (wrap64 (t189 - 1))).bind fun t190 => (some t190)))) else (some false))) = some r:=H
    have A9:=am_ A90
    clear A90
    replace H:=bi_ H
    obtain ⟨t186,A100,H⟩:=H
    replace H:(if t186 = true then ((impl_Figure_grid.f a0_0 a0_1 l0_2 l0_3).bind fun bt187 => ((impl_grid_uprights.f bt187.1 bt187.2).bind fun t189 => ((impl_areWithin.f l0_3 0 (wrap64 (t189 - 1))).bind fun t190 => (some t190)))) else (some false)) = some r:=H
    have A10:=am_ A100
    clear A100
    by_cases c11:t186 = true
    ·subst c11
     have H1:((impl_Figure_grid.f a0_0 a0_1 l0_2 l0_3).bind fun bt187 => ((impl_grid_uprights.f bt187.1 bt187.2).bind fun t189 => ((impl_areWithin.f l0_3 0 (wrap64 (t189 - 1))).bind fun t190 => (some t190)))) = some r:=by rw [if_pos rfl] at H; exact H
     clear H
     have H:=H1
     clear H1
     replace H:=bi_ H
     obtain ⟨⟨t187,t188⟩,A120,H⟩:=H
     replace H:((impl_grid_uprights.f t187 t188).bind fun t189 => ((impl_areWithin.f l0_3 0 (wrap64 (t189 - 1))).bind fun t190 => (some t190))) = some r:=H
     have A12:=am_ A120
     clear A120
     replace H:=bi_ H
     obtain ⟨t189,A130,H⟩:=H
     replace H:((impl_areWithin.f l0_3 0 (wrap64 (t189 - 1))).bind fun t190 => (some t190)) = some r:=H
     have A13:=am_ A130
     clear A130
     replace H:=bi_ H
     obtain ⟨t190,A140,H⟩:=H
     replace H:(some t190) = some r:=H
     have A14:=am_ A140
     clear A140
     obtain rfl:=Option.some.inj H
     go_enter Tryd.func93,Tryd.ntmps93
     try go_wp2_with (first | ((with_reducible refine gate_dst (N:=1) rfl ?_); refine boxE_ (N:=1) (cs:=#[.int .i64 a0_0,.int .i64 a0_1,.slice A0_2 l0_2.length c0_2,.slice A0_3 l0_3.length c0_3]) (t:=36) ?_; intro gb179 hg w15 hbox hb; have n0_:=am_ (below_step (bl0_ HB.out) hb); have n1_:=am_ (hbox); have n2_:=am_ ((bs0_ hg HB.out:w.heap.size ≤ gb179)); have n3_:=am_ ((bs0_ hg HB.out:w.heap.size ≤ gb179)); clear HB; have HB:=n0_; have BK179:=n1_; have GW179:=n2_; have GE179:=n3_; clear n0_ n1_ n2_ n3_; clear hb hbox hg))
     have n0_:=am_ (blk_drew BK179.out)
     have n1_:=am_ (below_drew1 HB.out)
     clear BK179
     clear HB
     have BK179:=n0_
     have HB:=n1_
     clear n0_ n1_
     refine start_ (n:=34) (S:=fun w' => w'.cell? ⟨gb179,0,none⟩ = some (.int .i64 a0_0) ∧ w'.cell? ⟨gb179,1,none⟩ = some (.int .i64 a0_1) ∧ w'.cell? ⟨gb179,2,none⟩ = some (.slice A0_2 l0_2.length c0_2) ∧ w'.cell? ⟨gb179,3,none⟩ = some (.slice A0_3 l0_3.length c0_3)) (ds:=[]) #[Ff,Ff,Ff,Ff,Ff,Ff,Ff,Ff,Ff,Ff,Ff,Ff,Ff,Ff,Ff,Ff,Ff,Ff,Ff,Ff,Ff,Ff,Ff,Ff,Ff,Ff,Ff,Ff,Ff,Ff,Ff,Ff,Ff,Ff] (by kernel_rfl) rfl rfl ⟨(bc_ BK179.out 0).trans rfl,(bc_ BK179.out 1).trans rfl,(bc_ BK179.out 2).trans rfl,(bc_ BK179.out 3).trans rfl⟩ (fun hHeld => ?_); refine with_tabW impl_IsFigure.tab1 impl_IsFigure.bits1 (fun HT_ HW_ => ?_)
     generalize w15.drew = w16 at BK179 HB hHeld ⊢
     refine pZ (i:=0) (N:=some 3) #[Tt,Ff,Ff,Ff,Ff,Ff,Ff,Ff,Ff,Ff,Ff,Ff,Ff,Ff,Ff,Ff,Ff,Ff,Ff,Ff,Ff,Ff,Ff,Ff,Ff,Ff,Ff,Ff,Ff,Ff,Ff,Ff,Ff,Ff] ?_
     refine pZ (i:=2) (N:=some 5) #[Tt,Ff,Tt,Ff,Ff,Ff,Ff,Ff,Ff,Ff,Ff,Ff,Ff,Ff,Ff,Ff,Ff,Ff,Ff,Ff,Ff,Ff,Ff,Ff,Ff,Ff,Ff,Ff,Ff,Ff,Ff,Ff,Ff,Ff] ?_
     refine tZ (i:=1) (N:=some 4) #[Tt,Tt,Tt,Ff,Ff,Ff,Ff,Ff,Ff,Ff,Ff,Ff,Ff,Ff,Ff,Ff,Ff,Ff,Ff,Ff,Ff,Ff,Ff,Ff,Ff,Ff,Ff,Ff,Ff,Ff,Ff,Ff,Ff,Ff] ?_
     refine tZ (i:=3) (N:=some 6) #[Tt,Tt,Tt,Tt,Ff,Ff,Ff,Ff,Ff,Ff,Ff,Ff,Ff,Ff,Ff,Ff,Ff,Ff,Ff,Ff,Ff,Ff,Ff,Ff,Ff,Ff,Ff,Ff,Ff,Ff,Ff,Ff,Ff,Ff] ?_
     refine one_ (i:=4) (N:=some 7) #[Tt,Tt,Tt,Tt,Tt,Ff,Ff,Ff,Ff,Ff,Ff,Ff,Ff,Ff,Ff,Ff,Ff,Ff,Ff,Ff,Ff,Ff,Ff,Ff,Ff,Ff,Ff,Ff,Ff,Ff,Ff,Ff,Ff,Ff] rfl rfl (one_of HT_.out (by kernel_rfl)) (by decide) (fun K hK => ?_)
     refine goes_ Tryd.func53 (by kernel_rfl) rfl #[.int .i64 a0_0,.int .i64 a0_1] (by rfl) rfl rfl ob_ ?_
     with_reducible refine (impl_isGrid.calls a0_0 a0_1 true _ A2.out).mono ?_
     rintro e w' ⟨rfl,⟨nd,rfl⟩⟩
     refine ⟨_,rfl,?_⟩
     refine hK.out _ _ ⟨(bc_ BK179.out 0).trans rfl,(bc_ BK179.out 1).trans rfl,(bc_ BK179.out 2).trans rfl,(bc_ BK179.out 3).trans rfl⟩ (fun hHeld => ?_)
     clear hK K
     refine norm_ (a':=_) ap_ ?_
     refine pZ (i:=5) (N:=some 8) #[Tt,Tt,Tt,Tt,Tt,Tt,Ff,Ff,Ff,Ff,Ff,Ff,Ff,Ff,Ff,Ff,Ff,Ff,Ff,Ff,Ff,Ff,Ff,Ff,Ff,Ff,Ff,Ff,Ff,Ff,Ff,Ff,Ff,Ff] ?_
     refine pZ (i:=6) (N:=some 9) #[Tt,Tt,Tt,Tt,Tt,Tt,Tt,Ff,Ff,Ff,Ff,Ff,Ff,Ff,Ff,Ff,Ff,Ff,Ff,Ff,Ff,Ff,Ff,Ff,Ff,Ff,Ff,Ff,Ff,Ff,Ff,Ff,Ff,Ff] ?_
     refine tZ (i:=7) (N:=some 10) #[Tt,Tt,Tt,Tt,Tt,Tt,Tt,Tt,Ff,Ff,Ff,Ff,Ff,Ff,Ff,Ff,Ff,Ff,Ff,Ff,Ff,Ff,Ff,Ff,Ff,Ff,Ff,Ff,Ff,Ff,Ff,Ff,Ff,Ff] ?_
     refine one_ (i:=8) (N:=some 11) #[Tt,Tt,Tt,Tt,Tt,Tt,Tt,Tt,Tt,Ff,Ff,Ff,Ff,Ff,Ff,Ff,Ff,Ff,Ff,Ff,Ff,Ff,Ff,Ff,Ff,Ff,Ff,Ff,Ff,Ff,Ff,Ff,Ff,Ff] rfl rfl (one_of HT_.out (by kernel_rfl)) (by decide) (fun K hK => ?_)
     refine goes_ Tryd.func81 (by kernel_rfl) rfl #[.slice A0_2 l0_2.length c0_2] (by rfl) rfl rfl ob_ ?_
     with_reducible refine (impl_isRising.calls k _ _ l0_2 true _ ?side1 ?side2 A4.out).mono ?_
     (case side1 => repeat (first | exact (Kd.C_below HR0_2.out (bl1_ HB.out GE179.out)) | (with_reducible refine Kd.C_alloc ?_ _) | (with_reducible refine Kd.C_drewN ?_ _) | (with_reducible refine Kd.C_drew ?_)))
     (case side2 => exact HC0_2.out)
     rintro e w' ⟨rfl,⟨nd,rfl⟩⟩
     refine ⟨_,rfl,?_⟩
     refine hK.out _ _ ⟨(bc_ BK179.out 0).trans rfl,(bc_ BK179.out 1).trans rfl,(bc_ BK179.out 2).trans rfl,(bc_ BK179.out 3).trans rfl⟩ (fun hHeld => ?_)
     clear hK K
     refine norm_ (a':=_) ap_ ?_
     refine pZ (i:=9) (N:=some 12) #[Tt,Tt,Tt,Tt,Tt,Tt,Tt,Tt,Tt,Tt,Ff,Ff,Ff,Ff,Ff,Ff,Ff,Ff,Ff,Ff,Ff,Ff,Ff,Ff,Ff,Ff,Ff,Ff,Ff,Ff,Ff,Ff,Ff,Ff] ?_
     refine pZ (i:=10) (N:=some 13) #[Tt,Tt,Tt,Tt,Tt,Tt,Tt,Tt,Tt,Tt,Tt,Ff,Ff,Ff,Ff,Ff,Ff,Ff,Ff,Ff,Ff,Ff,Ff,Ff,Ff,Ff,Ff,Ff,Ff,Ff,Ff,Ff,Ff,Ff] ?_
     refine pZ (i:=11) (N:=some 14) #[Tt,Tt,Tt,Tt,Tt,Tt,Tt,Tt,Tt,Tt,Tt,Tt,Ff,Ff,Ff,Ff,Ff,Ff,Ff,Ff,Ff,Ff,Ff,Ff,Ff,Ff,Ff,Ff,Ff,Ff,Ff,Ff,Ff,Ff] ?_
     refine tZ (i:=12) (N:=some 15) #[Tt,Tt,Tt,Tt,Tt,Tt,Tt,Tt,Tt,Tt,Tt,Tt,Tt,Ff,Ff,Ff,Ff,Ff,Ff,Ff,Ff,Ff,Ff,Ff,Ff,Ff,Ff,Ff,Ff,Ff,Ff,Ff,Ff,Ff] ?_
     refine one_ (i:=13) (N:=some 16) #[Tt,Tt,Tt,Tt,Tt,Tt,Tt,Tt,Tt,Tt,Tt,Tt,Tt,Tt,Ff,Ff,Ff,Ff,Ff,Ff,Ff,Ff,Ff,Ff,Ff,Ff,Ff,Ff,Ff,Ff,Ff,Ff,Ff,Ff] rfl rfl (one_of HT_.out (by kernel_rfl)) (by decide) (fun K hK => ?_)
     refine goes_ Tryd.func81 (by kernel_rfl) rfl #[.slice A0_3 l0_3.length c0_3] (by rfl) rfl rfl ob_ ?_
     with_reducible refine (impl_isRising.calls k _ _ l0_3 true _ ?side1 ?side2 A6.out).mono ?_
     (case side1 => repeat (first | exact (Kd.C_below HR0_3.out (bl1_ HB.out GE179.out)) | (with_reducible refine Kd.C_alloc ?_ _) | (with_reducible refine Kd.C_drewN ?_ _) | (with_reducible refine Kd.C_drew ?_)))
     (case side2 => exact HC0_3.out)
     rintro e w' ⟨rfl,⟨nd,rfl⟩⟩
     refine ⟨_,rfl,?_⟩
     refine hK.out _ _ ⟨(bc_ BK179.out 0).trans rfl,(bc_ BK179.out 1).trans rfl,(bc_ BK179.out 2).trans rfl,(bc_ BK179.out 3).trans rfl⟩ (fun hHeld => ?_)
     clear hK K
     refine norm_ (a':=_) ap_ ?_
     refine pZ (i:=14) (N:=some 17) #[Tt,Tt,Tt,Tt,Tt,Tt,Tt,Tt,Tt,Tt,Tt,Tt,Tt,Tt,Tt,Ff,Ff,Ff,Ff,Ff,Ff,Ff,Ff,Ff,Ff,Ff,Ff,Ff,Ff,Ff,Ff,Ff,Ff,Ff] ?_
     refine pZ (i:=15) (N:=some 18) #[Tt,Tt,Tt,Tt,Tt,Tt,Tt,Tt,Tt,Tt,Tt,Tt,Tt,Tt,Tt,Tt,Ff,Ff,Ff,Ff,Ff,Ff,Ff,Ff,Ff,Ff,Ff,Ff,Ff,Ff,Ff,Ff,Ff,Ff] ?_
     refine pZ (i:=16) (N:=some 19) #[Tt,Tt,Tt,Tt,Tt,Tt,Tt,Tt,Tt,Tt,Tt,Tt,Tt,Tt,Tt,Tt,Tt,Ff,Ff,Ff,Ff,Ff,Ff,Ff,Ff,Ff,Ff,Ff,Ff,Ff,Ff,Ff,Ff,Ff] ?_
     refine tZ (i:=17) (N:=some 20) #[Tt,Tt,Tt,Tt,Tt,Tt,Tt,Tt,Tt,Tt,Tt,Tt,Tt,Tt,Tt,Tt,Tt,Tt,Ff,Ff,Ff,Ff,Ff,Ff,Ff,Ff,Ff,Ff,Ff,Ff,Ff,Ff,Ff,Ff] ?_
     refine tZ (i:=18) (N:=some 21) #[Tt,Tt,Tt,Tt,Tt,Tt,Tt,Tt,Tt,Tt,Tt,Tt,Tt,Tt,Tt,Tt,Tt,Tt,Tt,Ff,Ff,Ff,Ff,Ff,Ff,Ff,Ff,Ff,Ff,Ff,Ff,Ff,Ff,Ff] ?_
     refine one_ (i:=19) (N:=some 22) #[Tt,Tt,Tt,Tt,Tt,Tt,Tt,Tt,Tt,Tt,Tt,Tt,Tt,Tt,Tt,Tt,Tt,Tt,Tt,Tt,Ff,Ff,Ff,Ff,Ff,Ff,Ff,Ff,Ff,Ff,Ff,Ff,Ff,Ff] rfl rfl (one_of HT_.out (by kernel_rfl)) (by decide) (fun K hK => ?_)
     refine goes_ Tryd.func71 (by kernel_rfl) rfl #[.agg #[.int .i64 a0_0,.int .i64 a0_1,.slice A0_2 l0_2.length c0_2,.slice A0_3 l0_3.length c0_3]] (by rfl) rfl rfl ob_ ?_
     with_reducible refine (impl_Figure_grid.calls a0_0 a0_1 _ _ l0_2 _ _ l0_3 t183 t184 _ ?side1 ?side2 ?side3 ?side4 A8.out).mono ?_
     (case side1 => repeat (first | exact (Kd.C_below HR0_2.out (bl1_ HB.out GE179.out)) | (with_reducible refine Kd.C_alloc ?_ _) | (with_reducible refine Kd.C_drewN ?_ _) | (with_reducible refine Kd.C_drew ?_)))
     (case side2 => exact HC0_2.out)
     (case side3 => repeat (first | exact (Kd.C_below HR0_3.out (bl1_ HB.out GE179.out)) | (with_reducible refine Kd.C_alloc ?_ _) | (with_reducible refine Kd.C_drewN ?_ _) | (with_reducible refine Kd.C_drew ?_)))
     (case side4 => exact HC0_3.out)
     rintro e w17 ⟨rfl,hb⟩
     refine ⟨_,rfl,?_⟩
     have n0_:=am_ (bb_ BK179.out hb)
     have n1_:=am_ (below_step (bl1_ HB.out GE179.out) hb)
     clear BK179
     clear HB
     have BK179:=n0_
     have HB:=n1_
     clear n0_ n1_
     (try clear hb)
     (try clear hb2)
     (try clear hk)
     (try clear hi)
     refine hK.out _ _ ⟨(bc_ BK179.out 0).trans rfl,(bc_ BK179.out 1).trans rfl,(bc_ BK179.out 2).trans rfl,(bc_ BK179.out 3).trans rfl⟩ (fun hHeld => ?_)
     clear hK K
     refine norm_ (a':=_) ap_ ?_
     refine one_ (i:=20) (N:=some 23) #[Tt,Tt,Tt,Tt,Tt,Tt,Tt,Tt,Tt,Tt,Tt,Tt,Tt,Tt,Tt,Tt,Tt,Tt,Tt,Tt,Tt,Ff,Ff,Ff,Ff,Ff,Ff,Ff,Ff,Ff,Ff,Ff,Ff,Ff] rfl rfl (one_of HT_.out (by kernel_rfl)) (by decide) (fun K hK => ?_)
     refine goes_ Tryd.func101 (by kernel_rfl) rfl #[.agg #[.int .i64 t183,.int .i64 t184]] (by rfl) rfl rfl ob_ ?_
     with_reducible refine (impl_grid_levels.calls t183 t184 t185 _ A9.out).mono ?_
     rintro e w18 ⟨rfl,hb⟩
     refine ⟨_,rfl,?_⟩
     have n0_:=am_ (bb_ BK179.out hb)
     have n1_:=am_ (below_step (bl1_ HB.out GE179.out) hb)
     clear BK179
     clear HB
     have BK179:=n0_
     have HB:=n1_
     clear n0_ n1_
     (try clear hb)
     (try clear hb2)
     (try clear hk)
     (try clear hi)
     refine hK.out _ _ ⟨(bc_ BK179.out 0).trans rfl,(bc_ BK179.out 1).trans rfl,(bc_ BK179.out 2).trans rfl,(bc_ BK179.out 3).trans rfl⟩ (fun hHeld => ?_)
     clear hK K
     refine norm_ (a':=_) ap_ ?_
     refine pZ (i:=21) (N:=some 24) #[Tt,Tt,Tt,Tt,Tt,Tt,Tt,Tt,Tt,Tt,Tt,Tt,Tt,Tt,Tt,Tt,Tt,Tt,Tt,Tt,Tt,Tt,Ff,Ff,Ff,Ff,Ff,Ff,Ff,Ff,Ff,Ff,Ff,Ff] ?_
     refine one_ (i:=22) (N:=some 25) #[Tt,Tt,Tt,Tt,Tt,Tt,Tt,Tt,Tt,Tt,Tt,Tt,Tt,Tt,Tt,Tt,Tt,Tt,Tt,Tt,Tt,Tt,Tt,Ff,Ff,Ff,Ff,Ff,Ff,Ff,Ff,Ff,Ff,Ff] rfl rfl (one_of HT_.out (by kernel_rfl)) (by decide) (fun K hK => ?_)
     refine goes_ Tryd.func82 (by kernel_rfl) rfl #[.slice A0_2 l0_2.length c0_2,.int .i64 0,.int .i64 (wrap64 (t185 - 1))] (by rfl) rfl rfl ob_ ?_
     with_reducible refine (impl_areWithin.calls _ _ l0_2 0 (wrap64 (t185 - 1)) true _ ?side1 ?side2 A10.out).mono ?_
     (case side1 => exact kc_ (Kd.C_below HR0_2.out HB.out))
     (case side2 => exact HC0_2.out)
     rintro e w19 ⟨rfl,hb⟩
     refine ⟨_,rfl,?_⟩
     have n0_:=am_ (bb_ BK179.out hb)
     have n1_:=am_ (below_step (bl1_ HB.out GE179.out) hb)
     clear BK179
     clear HB
     have BK179:=n0_
     have HB:=n1_
     clear n0_ n1_
     (try clear hb)
     (try clear hb2)
     (try clear hk)
     (try clear hi)
     refine hK.out _ _ ⟨(bc_ BK179.out 0).trans rfl,(bc_ BK179.out 1).trans rfl,(bc_ BK179.out 2).trans rfl,(bc_ BK179.out 3).trans rfl⟩ (fun hHeld => ?_)
     clear hK K
     refine norm_ (a':=_) ap_ ?_
     refine pZ (i:=23) (N:=some 26) #[Tt,Tt,Tt,Tt,Tt,Tt,Tt,Tt,Tt,Tt,Tt,Tt,Tt,Tt,Tt,Tt,Tt,Tt,Tt,Tt,Tt,Tt,Tt,Tt,Ff,Ff,Ff,Ff,Ff,Ff,Ff,Ff,Ff,Ff] ?_
     refine pZ (i:=24) (N:=some 27) #[Tt,Tt,Tt,Tt,Tt,Tt,Tt,Tt,Tt,Tt,Tt,Tt,Tt,Tt,Tt,Tt,Tt,Tt,Tt,Tt,Tt,Tt,Tt,Tt,Tt,Ff,Ff,Ff,Ff,Ff,Ff,Ff,Ff,Ff] ?_
     refine pZ (i:=25) (N:=some 28) #[Tt,Tt,Tt,Tt,Tt,Tt,Tt,Tt,Tt,Tt,Tt,Tt,Tt,Tt,Tt,Tt,Tt,Tt,Tt,Tt,Tt,Tt,Tt,Tt,Tt,Tt,Ff,Ff,Ff,Ff,Ff,Ff,Ff,Ff] ?_
     refine tZ (i:=26) (N:=some 29) #[Tt,Tt,Tt,Tt,Tt,Tt,Tt,Tt,Tt,Tt,Tt,Tt,Tt,Tt,Tt,Tt,Tt,Tt,Tt,Tt,Tt,Tt,Tt,Tt,Tt,Tt,Tt,Ff,Ff,Ff,Ff,Ff,Ff,Ff] ?_
     refine tZ (i:=27) (N:=some 30) #[Tt,Tt,Tt,Tt,Tt,Tt,Tt,Tt,Tt,Tt,Tt,Tt,Tt,Tt,Tt,Tt,Tt,Tt,Tt,Tt,Tt,Tt,Tt,Tt,Tt,Tt,Tt,Tt,Ff,Ff,Ff,Ff,Ff,Ff] ?_
     refine one_ (i:=28) (N:=some 31) #[Tt,Tt,Tt,Tt,Tt,Tt,Tt,Tt,Tt,Tt,Tt,Tt,Tt,Tt,Tt,Tt,Tt,Tt,Tt,Tt,Tt,Tt,Tt,Tt,Tt,Tt,Tt,Tt,Tt,Ff,Ff,Ff,Ff,Ff] rfl rfl (one_of HT_.out (by kernel_rfl)) (by decide) (fun K hK => ?_)
     refine goes_ Tryd.func71 (by kernel_rfl) rfl #[.agg #[.int .i64 a0_0,.int .i64 a0_1,.slice A0_2 l0_2.length c0_2,.slice A0_3 l0_3.length c0_3]] (by rfl) rfl rfl ob_ ?_
     with_reducible refine (impl_Figure_grid.calls a0_0 a0_1 _ _ l0_2 _ _ l0_3 t187 t188 _ ?side1 ?side2 ?side3 ?side4 A12.out).mono ?_
     (case side1 => exact kc_ (Kd.C_below HR0_2.out HB.out))
     (case side2 => exact HC0_2.out)
     (case side3 => exact kc_ (Kd.C_below HR0_3.out HB.out))
     (case side4 => exact HC0_3.out)
     rintro e w20 ⟨rfl,hb⟩
     refine ⟨_,rfl,?_⟩
     have n0_:=am_ (bb_ BK179.out hb)
     have n1_:=am_ (below_step (bl1_ HB.out GE179.out) hb)
     clear BK179
     clear HB
     have BK179:=n0_
     have HB:=n1_
     clear n0_ n1_
     (try clear hb)
     (try clear hb2)
     (try clear hk)
     (try clear hi)
     refine hK.out _ _ ⟨(bc_ BK179.out 0).trans rfl,(bc_ BK179.out 1).trans rfl,(bc_ BK179.out 2).trans rfl,(bc_ BK179.out 3).trans rfl⟩ (fun hHeld => ?_)
     clear hK K
     refine norm_ (a':=_) ap_ ?_
     refine one_ (i:=29) (N:=some 32) #[Tt,Tt,Tt,Tt,Tt,Tt,Tt,Tt,Tt,Tt,Tt,Tt,Tt,Tt,Tt,Tt,Tt,Tt,Tt,Tt,Tt,Tt,Tt,Tt,Tt,Tt,Tt,Tt,Tt,Tt,Ff,Ff,Ff,Ff] rfl rfl (one_of HT_.out (by kernel_rfl)) (by decide) (fun K hK => ?_)
     refine goes_ Tryd.func119 (by kernel_rfl) rfl #[.agg #[.int .i64 t187,.int .i64 t188]] (by rfl) rfl rfl ob_ ?_
     with_reducible refine (impl_grid_uprights.calls t187 t188 t189 _ A13.out).mono ?_
     rintro e w21 ⟨rfl,hb⟩
     refine ⟨_,rfl,?_⟩
     have n0_:=am_ (bb_ BK179.out hb)
     have n1_:=am_ (below_step (bl1_ HB.out GE179.out) hb)
     clear BK179
     clear HB
     have BK179:=n0_
     have HB:=n1_
     clear n0_ n1_
     (try clear hb)
     (try clear hb2)
     (try clear hk)
     (try clear hi)
     refine hK.out _ _ ⟨(bc_ BK179.out 0).trans rfl,(bc_ BK179.out 1).trans rfl,(bc_ BK179.out 2).trans rfl,(bc_ BK179.out 3).trans rfl⟩ (fun hHeld => ?_)
     clear hK K
     refine norm_ (a':=_) ap_ ?_
     refine pZ (i:=30) (N:=some 33) #[Tt,Tt,Tt,Tt,Tt,Tt,Tt,Tt,Tt,Tt,Tt,Tt,Tt,Tt,Tt,Tt,Tt,Tt,Tt,Tt,Tt,Tt,Tt,Tt,Tt,Tt,Tt,Tt,Tt,Tt,Tt,Ff,Ff,Ff] ?_
     refine one_ (i:=31) (N:=some 34) #[Tt,Tt,Tt,Tt,Tt,Tt,Tt,Tt,Tt,Tt,Tt,Tt,Tt,Tt,Tt,Tt,Tt,Tt,Tt,Tt,Tt,Tt,Tt,Tt,Tt,Tt,Tt,Tt,Tt,Tt,Tt,Tt,Ff,Ff] rfl rfl (one_of HT_.out (by kernel_rfl)) (by decide) (fun K hK => ?_)
     refine goes_ Tryd.func82 (by kernel_rfl) rfl #[.slice A0_3 l0_3.length c0_3,.int .i64 0,.int .i64 (wrap64 (t189 - 1))] (by rfl) rfl rfl ob_ ?_
     with_reducible refine (impl_areWithin.calls _ _ l0_3 0 (wrap64 (t189 - 1)) t190 _ ?side1 ?side2 A14.out).mono ?_
     (case side1 => exact kc_ (Kd.C_below HR0_3.out HB.out))
     (case side2 => exact HC0_3.out)
     rintro e w22 ⟨rfl,hb⟩
     refine ⟨_,rfl,?_⟩
     have n0_:=am_ (bb_ BK179.out hb)
     have n1_:=am_ (below_step (bl1_ HB.out GE179.out) hb)
     clear BK179
     clear HB
     have BK179:=n0_
     have HB:=n1_
     clear n0_ n1_
     (try clear hb)
     (try clear hb2)
     (try clear hk)
     (try clear hi)
     refine hK.out _ _ ⟨(bc_ BK179.out 0).trans rfl,(bc_ BK179.out 1).trans rfl,(bc_ BK179.out 2).trans rfl,(bc_ BK179.out 3).trans rfl⟩ (fun hHeld => ?_)
     clear hK K
     refine norm_ (a':=_) ap_ ?_
     refine pZ (i:=32) (N:=some 35) #[Tt,Tt,Tt,Tt,Tt,Tt,Tt,Tt,Tt,Tt,Tt,Tt,Tt,Tt,Tt,Tt,Tt,Tt,Tt,Tt,Tt,Tt,Tt,Tt,Tt,Tt,Tt,Tt,Tt,Tt,Tt,Tt,Tt,Ff] ?_
     refine pZ (i:=33) (N:=some 2) #[Tt,Tt,Tt,Tt,Tt,Tt,Tt,Tt,Tt,Tt,Tt,Tt,Tt,Tt,Tt,Tt,Tt,Tt,Tt,Tt,Tt,Tt,Tt,Tt,Tt,Tt,Tt,Tt,Tt,Tt,Tt,Tt,Tt,Tt] ?_
     refine done_ (done_of HT_.out (by kernel_rfl)) ?_
     try go_wp2
     go_ret
     exact ⟨er_,bl1_ HB.out GE179.out⟩
    ·replace c11:=Bool.eq_false_iff.mpr c11
     subst c11
     have H1:(some false) = some r:=by rw [if_neg (show ¬ (false = true) by decide)] at H; exact H
     clear H
     have H:=H1
     clear H1
     obtain rfl:=Option.some.inj H
     go_enter Tryd.func93,Tryd.ntmps93
     try go_wp2_with (first | ((with_reducible refine gate_dst (N:=1) rfl ?_); refine boxE_ (N:=1) (cs:=#[.int .i64 a0_0,.int .i64 a0_1,.slice A0_2 l0_2.length c0_2,.slice A0_3 l0_3.length c0_3]) (t:=36) ?_; intro gb179 hg w23 hbox hb; have n0_:=am_ (below_step (bl0_ HB.out) hb); have n1_:=am_ (hbox); have n2_:=am_ ((bs0_ hg HB.out:w.heap.size ≤ gb179)); have n3_:=am_ ((bs0_ hg HB.out:w.heap.size ≤ gb179)); clear HB; have HB:=n0_; have BK179:=n1_; have GW179:=n2_; have GE179:=n3_; clear n0_ n1_ n2_ n3_; clear hb hbox hg))
     have n0_:=am_ (blk_drew BK179.out)
     have n1_:=am_ (below_drew1 HB.out)
     clear BK179
     clear HB
     have BK179:=n0_
     have HB:=n1_
     clear n0_ n1_
     refine start_ (n:=34) (S:=fun w' => w'.cell? ⟨gb179,0,none⟩ = some (.int .i64 a0_0) ∧ w'.cell? ⟨gb179,1,none⟩ = some (.int .i64 a0_1) ∧ w'.cell? ⟨gb179,2,none⟩ = some (.slice A0_2 l0_2.length c0_2) ∧ w'.cell? ⟨gb179,3,none⟩ = some (.slice A0_3 l0_3.length c0_3)) (ds:=[]) #[Ff,Ff,Ff,Ff,Ff,Ff,Ff,Ff,Ff,Ff,Ff,Ff,Ff,Ff,Ff,Ff,Ff,Ff,Ff,Ff,Ff,Ff,Ff,Ff,Ff,Ff,Ff,Ff,Ff,Ff,Ff,Ff,Ff,Ff] (by kernel_rfl) rfl rfl ⟨(bc_ BK179.out 0).trans rfl,(bc_ BK179.out 1).trans rfl,(bc_ BK179.out 2).trans rfl,(bc_ BK179.out 3).trans rfl⟩ (fun hHeld => ?_); refine with_tabW impl_IsFigure.tab1 impl_IsFigure.bits1 (fun HT_ HW_ => ?_)
     generalize w23.drew = w24 at BK179 HB hHeld ⊢
     refine pZ (i:=0) (N:=some 3) #[Tt,Ff,Ff,Ff,Ff,Ff,Ff,Ff,Ff,Ff,Ff,Ff,Ff,Ff,Ff,Ff,Ff,Ff,Ff,Ff,Ff,Ff,Ff,Ff,Ff,Ff,Ff,Ff,Ff,Ff,Ff,Ff,Ff,Ff] ?_
     refine pZ (i:=2) (N:=some 5) #[Tt,Ff,Tt,Ff,Ff,Ff,Ff,Ff,Ff,Ff,Ff,Ff,Ff,Ff,Ff,Ff,Ff,Ff,Ff,Ff,Ff,Ff,Ff,Ff,Ff,Ff,Ff,Ff,Ff,Ff,Ff,Ff,Ff,Ff] ?_
     refine tZ (i:=1) (N:=some 4) #[Tt,Tt,Tt,Ff,Ff,Ff,Ff,Ff,Ff,Ff,Ff,Ff,Ff,Ff,Ff,Ff,Ff,Ff,Ff,Ff,Ff,Ff,Ff,Ff,Ff,Ff,Ff,Ff,Ff,Ff,Ff,Ff,Ff,Ff] ?_
     refine tZ (i:=3) (N:=some 6) #[Tt,Tt,Tt,Tt,Ff,Ff,Ff,Ff,Ff,Ff,Ff,Ff,Ff,Ff,Ff,Ff,Ff,Ff,Ff,Ff,Ff,Ff,Ff,Ff,Ff,Ff,Ff,Ff,Ff,Ff,Ff,Ff,Ff,Ff] ?_
     refine one_ (i:=4) (N:=some 7) #[Tt,Tt,Tt,Tt,Tt,Ff,Ff,Ff,Ff,Ff,Ff,Ff,Ff,Ff,Ff,Ff,Ff,Ff,Ff,Ff,Ff,Ff,Ff,Ff,Ff,Ff,Ff,Ff,Ff,Ff,Ff,Ff,Ff,Ff] rfl rfl (one_of HT_.out (by kernel_rfl)) (by decide) (fun K hK => ?_)
     refine goes_ Tryd.func53 (by kernel_rfl) rfl #[.int .i64 a0_0,.int .i64 a0_1] (by rfl) rfl rfl ob_ ?_
     with_reducible refine (impl_isGrid.calls a0_0 a0_1 true _ A2.out).mono ?_
     rintro e w' ⟨rfl,⟨nd,rfl⟩⟩
     refine ⟨_,rfl,?_⟩
     refine hK.out _ _ ⟨(bc_ BK179.out 0).trans rfl,(bc_ BK179.out 1).trans rfl,(bc_ BK179.out 2).trans rfl,(bc_ BK179.out 3).trans rfl⟩ (fun hHeld => ?_)
     clear hK K
     refine norm_ (a':=_) ap_ ?_
     refine pZ (i:=5) (N:=some 8) #[Tt,Tt,Tt,Tt,Tt,Tt,Ff,Ff,Ff,Ff,Ff,Ff,Ff,Ff,Ff,Ff,Ff,Ff,Ff,Ff,Ff,Ff,Ff,Ff,Ff,Ff,Ff,Ff,Ff,Ff,Ff,Ff,Ff,Ff] ?_
     refine pZ (i:=6) (N:=some 9) #[Tt,Tt,Tt,Tt,Tt,Tt,Tt,Ff,Ff,Ff,Ff,Ff,Ff,Ff,Ff,Ff,Ff,Ff,Ff,Ff,Ff,Ff,Ff,Ff,Ff,Ff,Ff,Ff,Ff,Ff,Ff,Ff,Ff,Ff] ?_
     refine tZ (i:=7) (N:=some 10) #[Tt,Tt,Tt,Tt,Tt,Tt,Tt,Tt,Ff,Ff,Ff,Ff,Ff,Ff,Ff,Ff,Ff,Ff,Ff,Ff,Ff,Ff,Ff,Ff,Ff,Ff,Ff,Ff,Ff,Ff,Ff,Ff,Ff,Ff] ?_
     refine one_ (i:=8) (N:=some 11) #[Tt,Tt,Tt,Tt,Tt,Tt,Tt,Tt,Tt,Ff,Ff,Ff,Ff,Ff,Ff,Ff,Ff,Ff,Ff,Ff,Ff,Ff,Ff,Ff,Ff,Ff,Ff,Ff,Ff,Ff,Ff,Ff,Ff,Ff] rfl rfl (one_of HT_.out (by kernel_rfl)) (by decide) (fun K hK => ?_)
     refine goes_ Tryd.func81 (by kernel_rfl) rfl #[.slice A0_2 l0_2.length c0_2] (by rfl) rfl rfl ob_ ?_
     with_reducible refine (impl_isRising.calls k _ _ l0_2 true _ ?side1 ?side2 A4.out).mono ?_
     (case side1 => repeat (first | exact (Kd.C_below HR0_2.out (bl1_ HB.out GE179.out)) | (with_reducible refine Kd.C_alloc ?_ _) | (with_reducible refine Kd.C_drewN ?_ _) | (with_reducible refine Kd.C_drew ?_)))
     (case side2 => exact HC0_2.out)
     rintro e w' ⟨rfl,⟨nd,rfl⟩⟩
     refine ⟨_,rfl,?_⟩
     refine hK.out _ _ ⟨(bc_ BK179.out 0).trans rfl,(bc_ BK179.out 1).trans rfl,(bc_ BK179.out 2).trans rfl,(bc_ BK179.out 3).trans rfl⟩ (fun hHeld => ?_)
     clear hK K
     refine norm_ (a':=_) ap_ ?_
     refine pZ (i:=9) (N:=some 12) #[Tt,Tt,Tt,Tt,Tt,Tt,Tt,Tt,Tt,Tt,Ff,Ff,Ff,Ff,Ff,Ff,Ff,Ff,Ff,Ff,Ff,Ff,Ff,Ff,Ff,Ff,Ff,Ff,Ff,Ff,Ff,Ff,Ff,Ff] ?_
     refine pZ (i:=10) (N:=some 13) #[Tt,Tt,Tt,Tt,Tt,Tt,Tt,Tt,Tt,Tt,Tt,Ff,Ff,Ff,Ff,Ff,Ff,Ff,Ff,Ff,Ff,Ff,Ff,Ff,Ff,Ff,Ff,Ff,Ff,Ff,Ff,Ff,Ff,Ff] ?_
     refine pZ (i:=11) (N:=some 14) #[Tt,Tt,Tt,Tt,Tt,Tt,Tt,Tt,Tt,Tt,Tt,Tt,Ff,Ff,Ff,Ff,Ff,Ff,Ff,Ff,Ff,Ff,Ff,Ff,Ff,Ff,Ff,Ff,Ff,Ff,Ff,Ff,Ff,Ff] ?_
     refine tZ (i:=12) (N:=some 15) #[Tt,Tt,Tt,Tt,Tt,Tt,Tt,Tt,Tt,Tt,Tt,Tt,Tt,Ff,Ff,Ff,Ff,Ff,Ff,Ff,Ff,Ff,Ff,Ff,Ff,Ff,Ff,Ff,Ff,Ff,Ff,Ff,Ff,Ff] ?_
     refine one_ (i:=13) (N:=some 16) #[Tt,Tt,Tt,Tt,Tt,Tt,Tt,Tt,Tt,Tt,Tt,Tt,Tt,Tt,Ff,Ff,Ff,Ff,Ff,Ff,Ff,Ff,Ff,Ff,Ff,Ff,Ff,Ff,Ff,Ff,Ff,Ff,Ff,Ff] rfl rfl (one_of HT_.out (by kernel_rfl)) (by decide) (fun K hK => ?_)
     refine goes_ Tryd.func81 (by kernel_rfl) rfl #[.slice A0_3 l0_3.length c0_3] (by rfl) rfl rfl ob_ ?_
     with_reducible refine (impl_isRising.calls k _ _ l0_3 true _ ?side1 ?side2 A6.out).mono ?_
     (case side1 => repeat (first | exact (Kd.C_below HR0_3.out (bl1_ HB.out GE179.out)) | (with_reducible refine Kd.C_alloc ?_ _) | (with_reducible refine Kd.C_drewN ?_ _) | (with_reducible refine Kd.C_drew ?_)))
     (case side2 => exact HC0_3.out)
     rintro e w' ⟨rfl,⟨nd,rfl⟩⟩
     refine ⟨_,rfl,?_⟩
     refine hK.out _ _ ⟨(bc_ BK179.out 0).trans rfl,(bc_ BK179.out 1).trans rfl,(bc_ BK179.out 2).trans rfl,(bc_ BK179.out 3).trans rfl⟩ (fun hHeld => ?_)
     clear hK K
     refine norm_ (a':=_) ap_ ?_
     refine pZ (i:=14) (N:=some 17) #[Tt,Tt,Tt,Tt,Tt,Tt,Tt,Tt,Tt,Tt,Tt,Tt,Tt,Tt,Tt,Ff,Ff,Ff,Ff,Ff,Ff,Ff,Ff,Ff,Ff,Ff,Ff,Ff,Ff,Ff,Ff,Ff,Ff,Ff] ?_
     refine pZ (i:=15) (N:=some 18) #[Tt,Tt,Tt,Tt,Tt,Tt,Tt,Tt,Tt,Tt,Tt,Tt,Tt,Tt,Tt,Tt,Ff,Ff,Ff,Ff,Ff,Ff,Ff,Ff,Ff,Ff,Ff,Ff,Ff,Ff,Ff,Ff,Ff,Ff] ?_
     refine pZ (i:=16) (N:=some 19) #[Tt,Tt,Tt,Tt,Tt,Tt,Tt,Tt,Tt,Tt,Tt,Tt,Tt,Tt,Tt,Tt,Tt,Ff,Ff,Ff,Ff,Ff,Ff,Ff,Ff,Ff,Ff,Ff,Ff,Ff,Ff,Ff,Ff,Ff] ?_
     refine tZ (i:=17) (N:=some 20) #[Tt,Tt,Tt,Tt,Tt,Tt,Tt,Tt,Tt,Tt,Tt,Tt,Tt,Tt,Tt,Tt,Tt,Tt,Ff,Ff,Ff,Ff,Ff,Ff,Ff,Ff,Ff,Ff,Ff,Ff,Ff,Ff,Ff,Ff] ?_
     refine tZ (i:=18) (N:=some 21) #[Tt,Tt,Tt,Tt,Tt,Tt,Tt,Tt,Tt,Tt,Tt,Tt,Tt,Tt,Tt,Tt,Tt,Tt,Tt,Ff,Ff,Ff,Ff,Ff,Ff,Ff,Ff,Ff,Ff,Ff,Ff,Ff,Ff,Ff] ?_
     refine one_ (i:=19) (N:=some 22) #[Tt,Tt,Tt,Tt,Tt,Tt,Tt,Tt,Tt,Tt,Tt,Tt,Tt,Tt,Tt,Tt,Tt,Tt,Tt,Tt,Ff,Ff,Ff,Ff,Ff,Ff,Ff,Ff,Ff,Ff,Ff,Ff,Ff,Ff] rfl rfl (one_of HT_.out (by kernel_rfl)) (by decide) (fun K hK => ?_)
     refine goes_ Tryd.func71 (by kernel_rfl) rfl #[.agg #[.int .i64 a0_0,.int .i64 a0_1,.slice A0_2 l0_2.length c0_2,.slice A0_3 l0_3.length c0_3]] (by rfl) rfl rfl ob_ ?_
     with_reducible refine (impl_Figure_grid.calls a0_0 a0_1 _ _ l0_2 _ _ l0_3 t183 t184 _ ?side1 ?side2 ?side3 ?side4 A8.out).mono ?_
     (case side1 => repeat (first | exact (Kd.C_below HR0_2.out (bl1_ HB.out GE179.out)) | (with_reducible refine Kd.C_alloc ?_ _) | (with_reducible refine Kd.C_drewN ?_ _) | (with_reducible refine Kd.C_drew ?_)))
     (case side2 => exact HC0_2.out)
     (case side3 => repeat (first | exact (Kd.C_below HR0_3.out (bl1_ HB.out GE179.out)) | (with_reducible refine Kd.C_alloc ?_ _) | (with_reducible refine Kd.C_drewN ?_ _) | (with_reducible refine Kd.C_drew ?_)))
     (case side4 => exact HC0_3.out)
     rintro e w25 ⟨rfl,hb⟩
     refine ⟨_,rfl,?_⟩
     have n0_:=am_ (bb_ BK179.out hb)
     have n1_:=am_ (below_step (bl1_ HB.out GE179.out) hb)
     clear BK179
     clear HB
     have BK179:=n0_
     have HB:=n1_
     clear n0_ n1_
     (try clear hb)
     (try clear hb2)
     (try clear hk)
     (try clear hi)
     refine hK.out _ _ ⟨(bc_ BK179.out 0).trans rfl,(bc_ BK179.out 1).trans rfl,(bc_ BK179.out 2).trans rfl,(bc_ BK179.out 3).trans rfl⟩ (fun hHeld => ?_)
     clear hK K
     refine norm_ (a':=_) ap_ ?_
     refine one_ (i:=20) (N:=some 23) #[Tt,Tt,Tt,Tt,Tt,Tt,Tt,Tt,Tt,Tt,Tt,Tt,Tt,Tt,Tt,Tt,Tt,Tt,Tt,Tt,Tt,Ff,Ff,Ff,Ff,Ff,Ff,Ff,Ff,Ff,Ff,Ff,Ff,Ff] rfl rfl (one_of HT_.out (by kernel_rfl)) (by decide) (fun K hK => ?_)
     refine goes_ Tryd.func101 (by kernel_rfl) rfl #[.agg #[.int .i64 t183,.int .i64 t184]] (by rfl) rfl rfl ob_ ?_
     with_reducible refine (impl_grid_levels.calls t183 t184 t185 _ A9.out).mono ?_
     rintro e w26 ⟨rfl,hb⟩
     refine ⟨_,rfl,?_⟩
     have n0_:=am_ (bb_ BK179.out hb)
     have n1_:=am_ (below_step (bl1_ HB.out GE179.out) hb)
     clear BK179
     clear HB
     have BK179:=n0_
     have HB:=n1_
     clear n0_ n1_
     (try clear hb)
     (try clear hb2)
     (try clear hk)
     (try clear hi)
     refine hK.out _ _ ⟨(bc_ BK179.out 0).trans rfl,(bc_ BK179.out 1).trans rfl,(bc_ BK179.out 2).trans rfl,(bc_ BK179.out 3).trans rfl⟩ (fun hHeld => ?_)
     clear hK K
     refine norm_ (a':=_) ap_ ?_
     refine pZ (i:=21) (N:=some 24) #[Tt,Tt,Tt,Tt,Tt,Tt,Tt,Tt,Tt,Tt,Tt,Tt,Tt,Tt,Tt,Tt,Tt,Tt,Tt,Tt,Tt,Tt,Ff,Ff,Ff,Ff,Ff,Ff,Ff,Ff,Ff,Ff,Ff,Ff] ?_
     refine one_ (i:=22) (N:=some 25) #[Tt,Tt,Tt,Tt,Tt,Tt,Tt,Tt,Tt,Tt,Tt,Tt,Tt,Tt,Tt,Tt,Tt,Tt,Tt,Tt,Tt,Tt,Tt,Ff,Ff,Ff,Ff,Ff,Ff,Ff,Ff,Ff,Ff,Ff] rfl rfl (one_of HT_.out (by kernel_rfl)) (by decide) (fun K hK => ?_)
     refine goes_ Tryd.func82 (by kernel_rfl) rfl #[.slice A0_2 l0_2.length c0_2,.int .i64 0,.int .i64 (wrap64 (t185 - 1))] (by rfl) rfl rfl ob_ ?_
     with_reducible refine (impl_areWithin.calls _ _ l0_2 0 (wrap64 (t185 - 1)) false _ ?side1 ?side2 A10.out).mono ?_
     (case side1 => exact kc_ (Kd.C_below HR0_2.out HB.out))
     (case side2 => exact HC0_2.out)
     rintro e w27 ⟨rfl,hb⟩
     refine ⟨_,rfl,?_⟩
     have n0_:=am_ (bb_ BK179.out hb)
     have n1_:=am_ (below_step (bl1_ HB.out GE179.out) hb)
     clear BK179
     clear HB
     have BK179:=n0_
     have HB:=n1_
     clear n0_ n1_
     (try clear hb)
     (try clear hb2)
     (try clear hk)
     (try clear hi)
     refine hK.out _ _ ⟨(bc_ BK179.out 0).trans rfl,(bc_ BK179.out 1).trans rfl,(bc_ BK179.out 2).trans rfl,(bc_ BK179.out 3).trans rfl⟩ (fun hHeld => ?_)
     clear hK K
     refine norm_ (a':=_) ap_ ?_
     refine pZ (i:=23) (N:=some 26) #[Tt,Tt,Tt,Tt,Tt,Tt,Tt,Tt,Tt,Tt,Tt,Tt,Tt,Tt,Tt,Tt,Tt,Tt,Tt,Tt,Tt,Tt,Tt,Tt,Ff,Ff,Ff,Ff,Ff,Ff,Ff,Ff,Ff,Ff] ?_
     refine pZ (i:=24) (N:=some 27) #[Tt,Tt,Tt,Tt,Tt,Tt,Tt,Tt,Tt,Tt,Tt,Tt,Tt,Tt,Tt,Tt,Tt,Tt,Tt,Tt,Tt,Tt,Tt,Tt,Tt,Ff,Ff,Ff,Ff,Ff,Ff,Ff,Ff,Ff] ?_
     refine pU (i:=25) (N:=some 28) #[Tt,Tt,Tt,Tt,Tt,Tt,Tt,Tt,Tt,Tt,Tt,Tt,Tt,Tt,Tt,Tt,Tt,Tt,Tt,Tt,Tt,Tt,Tt,Tt,Tt,Tt,Ff,Ff,Ff,Ff,Ff,Ff,Ff,Ff] ?_
     refine pU (i:=26) (N:=some 29) #[Tt,Tt,Tt,Tt,Tt,Tt,Tt,Tt,Tt,Tt,Tt,Tt,Tt,Tt,Tt,Tt,Tt,Tt,Tt,Tt,Tt,Tt,Tt,Tt,Tt,Tt,Tt,Ff,Ff,Ff,Ff,Ff,Ff,Ff] ?_
     refine pU (i:=27) (N:=some 30) #[Tt,Tt,Tt,Tt,Tt,Tt,Tt,Tt,Tt,Tt,Tt,Tt,Tt,Tt,Tt,Tt,Tt,Tt,Tt,Tt,Tt,Tt,Tt,Tt,Tt,Tt,Tt,Tt,Ff,Ff,Ff,Ff,Ff,Ff] ?_
     refine pU (i:=28) (N:=some 31) #[Tt,Tt,Tt,Tt,Tt,Tt,Tt,Tt,Tt,Tt,Tt,Tt,Tt,Tt,Tt,Tt,Tt,Tt,Tt,Tt,Tt,Tt,Tt,Tt,Tt,Tt,Tt,Tt,Tt,Ff,Ff,Ff,Ff,Ff] ?_
     refine pU (i:=29) (N:=some 32) #[Tt,Tt,Tt,Tt,Tt,Tt,Tt,Tt,Tt,Tt,Tt,Tt,Tt,Tt,Tt,Tt,Tt,Tt,Tt,Tt,Tt,Tt,Tt,Tt,Tt,Tt,Tt,Tt,Tt,Tt,Ff,Ff,Ff,Ff] ?_
     refine pU (i:=30) (N:=some 33) #[Tt,Tt,Tt,Tt,Tt,Tt,Tt,Tt,Tt,Tt,Tt,Tt,Tt,Tt,Tt,Tt,Tt,Tt,Tt,Tt,Tt,Tt,Tt,Tt,Tt,Tt,Tt,Tt,Tt,Tt,Tt,Ff,Ff,Ff] ?_
     refine pU (i:=31) (N:=some 34) #[Tt,Tt,Tt,Tt,Tt,Tt,Tt,Tt,Tt,Tt,Tt,Tt,Tt,Tt,Tt,Tt,Tt,Tt,Tt,Tt,Tt,Tt,Tt,Tt,Tt,Tt,Tt,Tt,Tt,Tt,Tt,Tt,Ff,Ff] ?_
     refine pZ (i:=32) (N:=some 35) #[Tt,Tt,Tt,Tt,Tt,Tt,Tt,Tt,Tt,Tt,Tt,Tt,Tt,Tt,Tt,Tt,Tt,Tt,Tt,Tt,Tt,Tt,Tt,Tt,Tt,Tt,Tt,Tt,Tt,Tt,Tt,Tt,Tt,Ff] ?_
     refine pZ (i:=33) (N:=some 2) #[Tt,Tt,Tt,Tt,Tt,Tt,Tt,Tt,Tt,Tt,Tt,Tt,Tt,Tt,Tt,Tt,Tt,Tt,Tt,Tt,Tt,Tt,Tt,Tt,Tt,Tt,Tt,Tt,Tt,Tt,Tt,Tt,Tt,Tt] ?_
     refine done_ (done_of HT_.out (by kernel_rfl)) ?_
     try go_wp2
     go_ret
     exact ⟨er_,bl1_ HB.out GE179.out⟩
   ·replace c7:=Bool.eq_false_iff.mpr c7
    subst c7
    have H1:(some false) = some r:=by rw [if_neg (show ¬ (false = true) by decide)] at H; exact H
    clear H
    have H:=H1
    clear H1
    obtain rfl:=Option.some.inj H
    go_enter Tryd.func93,Tryd.ntmps93
    try go_wp2_with (first | ((with_reducible refine gate_dst (N:=1) rfl ?_); refine boxE_ (N:=1) (cs:=#[.int .i64 a0_0,.int .i64 a0_1,.slice A0_2 l0_2.length c0_2,.slice A0_3 l0_3.length c0_3]) (t:=36) ?_; intro gb179 hg w28 hbox hb; have n0_:=am_ (below_step (bl0_ HB.out) hb); have n1_:=am_ (hbox); have n2_:=am_ ((bs0_ hg HB.out:w.heap.size ≤ gb179)); have n3_:=am_ ((bs0_ hg HB.out:w.heap.size ≤ gb179)); clear HB; have HB:=n0_; have BK179:=n1_; have GW179:=n2_; have GE179:=n3_; clear n0_ n1_ n2_ n3_; clear hb hbox hg))
    have n0_:=am_ (blk_drew BK179.out)
    have n1_:=am_ (below_drew1 HB.out)
    clear BK179
    clear HB
    have BK179:=n0_
    have HB:=n1_
    clear n0_ n1_
    refine start_ (n:=34) (S:=fun w' => w'.cell? ⟨gb179,0,none⟩ = some (.int .i64 a0_0) ∧ w'.cell? ⟨gb179,1,none⟩ = some (.int .i64 a0_1) ∧ w'.cell? ⟨gb179,2,none⟩ = some (.slice A0_2 l0_2.length c0_2) ∧ w'.cell? ⟨gb179,3,none⟩ = some (.slice A0_3 l0_3.length c0_3)) (ds:=[]) #[Ff,Ff,Ff,Ff,Ff,Ff,Ff,Ff,Ff,Ff,Ff,Ff,Ff,Ff,Ff,Ff,Ff,Ff,Ff,Ff,Ff,Ff,Ff,Ff,Ff,Ff,Ff,Ff,Ff,Ff,Ff,Ff,Ff,Ff] (by kernel_rfl) rfl rfl ⟨(bc_ BK179.out 0).trans rfl,(bc_ BK179.out 1).trans rfl,(bc_ BK179.out 2).trans rfl,(bc_ BK179.out 3).trans rfl⟩ (fun hHeld => ?_); refine with_tabW impl_IsFigure.tab1 impl_IsFigure.bits1 (fun HT_ HW_ => ?_)
    generalize w28.drew = w29 at BK179 HB hHeld ⊢
    refine pZ (i:=0) (N:=some 3) #[Tt,Ff,Ff,Ff,Ff,Ff,Ff,Ff,Ff,Ff,Ff,Ff,Ff,Ff,Ff,Ff,Ff,Ff,Ff,Ff,Ff,Ff,Ff,Ff,Ff,Ff,Ff,Ff,Ff,Ff,Ff,Ff,Ff,Ff] ?_
    refine pZ (i:=2) (N:=some 5) #[Tt,Ff,Tt,Ff,Ff,Ff,Ff,Ff,Ff,Ff,Ff,Ff,Ff,Ff,Ff,Ff,Ff,Ff,Ff,Ff,Ff,Ff,Ff,Ff,Ff,Ff,Ff,Ff,Ff,Ff,Ff,Ff,Ff,Ff] ?_
    refine tZ (i:=1) (N:=some 4) #[Tt,Tt,Tt,Ff,Ff,Ff,Ff,Ff,Ff,Ff,Ff,Ff,Ff,Ff,Ff,Ff,Ff,Ff,Ff,Ff,Ff,Ff,Ff,Ff,Ff,Ff,Ff,Ff,Ff,Ff,Ff,Ff,Ff,Ff] ?_
    refine tZ (i:=3) (N:=some 6) #[Tt,Tt,Tt,Tt,Ff,Ff,Ff,Ff,Ff,Ff,Ff,Ff,Ff,Ff,Ff,Ff,Ff,Ff,Ff,Ff,Ff,Ff,Ff,Ff,Ff,Ff,Ff,Ff,Ff,Ff,Ff,Ff,Ff,Ff] ?_
    refine one_ (i:=4) (N:=some 7) #[Tt,Tt,Tt,Tt,Tt,Ff,Ff,Ff,Ff,Ff,Ff,Ff,Ff,Ff,Ff,Ff,Ff,Ff,Ff,Ff,Ff,Ff,Ff,Ff,Ff,Ff,Ff,Ff,Ff,Ff,Ff,Ff,Ff,Ff] rfl rfl (one_of HT_.out (by kernel_rfl)) (by decide) (fun K hK => ?_)
    refine goes_ Tryd.func53 (by kernel_rfl) rfl #[.int .i64 a0_0,.int .i64 a0_1] (by rfl) rfl rfl ob_ ?_
    with_reducible refine (impl_isGrid.calls a0_0 a0_1 true _ A2.out).mono ?_
    rintro e w' ⟨rfl,⟨nd,rfl⟩⟩
    refine ⟨_,rfl,?_⟩
    refine hK.out _ _ ⟨(bc_ BK179.out 0).trans rfl,(bc_ BK179.out 1).trans rfl,(bc_ BK179.out 2).trans rfl,(bc_ BK179.out 3).trans rfl⟩ (fun hHeld => ?_)
    clear hK K
    refine norm_ (a':=_) ap_ ?_
    refine pZ (i:=5) (N:=some 8) #[Tt,Tt,Tt,Tt,Tt,Tt,Ff,Ff,Ff,Ff,Ff,Ff,Ff,Ff,Ff,Ff,Ff,Ff,Ff,Ff,Ff,Ff,Ff,Ff,Ff,Ff,Ff,Ff,Ff,Ff,Ff,Ff,Ff,Ff] ?_
    refine pZ (i:=6) (N:=some 9) #[Tt,Tt,Tt,Tt,Tt,Tt,Tt,Ff,Ff,Ff,Ff,Ff,Ff,Ff,Ff,Ff,Ff,Ff,Ff,Ff,Ff,Ff,Ff,Ff,Ff,Ff,Ff,Ff,Ff,Ff,Ff,Ff,Ff,Ff] ?_
    refine tZ (i:=7) (N:=some 10) #[Tt,Tt,Tt,Tt,Tt,Tt,Tt,Tt,Ff,Ff,Ff,Ff,Ff,Ff,Ff,Ff,Ff,Ff,Ff,Ff,Ff,Ff,Ff,Ff,Ff,Ff,Ff,Ff,Ff,Ff,Ff,Ff,Ff,Ff] ?_
    refine one_ (i:=8) (N:=some 11) #[Tt,Tt,Tt,Tt,Tt,Tt,Tt,Tt,Tt,Ff,Ff,Ff,Ff,Ff,Ff,Ff,Ff,Ff,Ff,Ff,Ff,Ff,Ff,Ff,Ff,Ff,Ff,Ff,Ff,Ff,Ff,Ff,Ff,Ff] rfl rfl (one_of HT_.out (by kernel_rfl)) (by decide) (fun K hK => ?_)
    refine goes_ Tryd.func81 (by kernel_rfl) rfl #[.slice A0_2 l0_2.length c0_2] (by rfl) rfl rfl ob_ ?_
    with_reducible refine (impl_isRising.calls k _ _ l0_2 true _ ?side1 ?side2 A4.out).mono ?_
    (case side1 => repeat (first | exact (Kd.C_below HR0_2.out (bl1_ HB.out GE179.out)) | (with_reducible refine Kd.C_alloc ?_ _) | (with_reducible refine Kd.C_drewN ?_ _) | (with_reducible refine Kd.C_drew ?_)))
    (case side2 => exact HC0_2.out)
    rintro e w' ⟨rfl,⟨nd,rfl⟩⟩
    refine ⟨_,rfl,?_⟩
    refine hK.out _ _ ⟨(bc_ BK179.out 0).trans rfl,(bc_ BK179.out 1).trans rfl,(bc_ BK179.out 2).trans rfl,(bc_ BK179.out 3).trans rfl⟩ (fun hHeld => ?_)
    clear hK K
    refine norm_ (a':=_) ap_ ?_
    refine pZ (i:=9) (N:=some 12) #[Tt,Tt,Tt,Tt,Tt,Tt,Tt,Tt,Tt,Tt,Ff,Ff,Ff,Ff,Ff,Ff,Ff,Ff,Ff,Ff,Ff,Ff,Ff,Ff,Ff,Ff,Ff,Ff,Ff,Ff,Ff,Ff,Ff,Ff] ?_
    refine pZ (i:=10) (N:=some 13) #[Tt,Tt,Tt,Tt,Tt,Tt,Tt,Tt,Tt,Tt,Tt,Ff,Ff,Ff,Ff,Ff,Ff,Ff,Ff,Ff,Ff,Ff,Ff,Ff,Ff,Ff,Ff,Ff,Ff,Ff,Ff,Ff,Ff,Ff] ?_
    refine pZ (i:=11) (N:=some 14) #[Tt,Tt,Tt,Tt,Tt,Tt,Tt,Tt,Tt,Tt,Tt,Tt,Ff,Ff,Ff,Ff,Ff,Ff,Ff,Ff,Ff,Ff,Ff,Ff,Ff,Ff,Ff,Ff,Ff,Ff,Ff,Ff,Ff,Ff] ?_
    refine tZ (i:=12) (N:=some 15) #[Tt,Tt,Tt,Tt,Tt,Tt,Tt,Tt,Tt,Tt,Tt,Tt,Tt,Ff,Ff,Ff,Ff,Ff,Ff,Ff,Ff,Ff,Ff,Ff,Ff,Ff,Ff,Ff,Ff,Ff,Ff,Ff,Ff,Ff] ?_
    refine one_ (i:=13) (N:=some 16) #[Tt,Tt,Tt,Tt,Tt,Tt,Tt,Tt,Tt,Tt,Tt,Tt,Tt,Tt,Ff,Ff,Ff,Ff,Ff,Ff,Ff,Ff,Ff,Ff,Ff,Ff,Ff,Ff,Ff,Ff,Ff,Ff,Ff,Ff] rfl rfl (one_of HT_.out (by kernel_rfl)) (by decide) (fun K hK => ?_)
    refine goes_ Tryd.func81 (by kernel_rfl) rfl #[.slice A0_3 l0_3.length c0_3] (by rfl) rfl rfl ob_ ?_
    with_reducible refine (impl_isRising.calls k _ _ l0_3 false _ ?side1 ?side2 A6.out).mono ?_
    (case side1 => repeat (first | exact (Kd.C_below HR0_3.out (bl1_ HB.out GE179.out)) | (with_reducible refine Kd.C_alloc ?_ _) | (with_reducible refine Kd.C_drewN ?_ _) | (with_reducible refine Kd.C_drew ?_)))
    (case side2 => exact HC0_3.out)
    rintro e w' ⟨rfl,⟨nd,rfl⟩⟩
    refine ⟨_,rfl,?_⟩
    refine hK.out _ _ ⟨(bc_ BK179.out 0).trans rfl,(bc_ BK179.out 1).trans rfl,(bc_ BK179.out 2).trans rfl,(bc_ BK179.out 3).trans rfl⟩ (fun hHeld => ?_)
    clear hK K
    refine norm_ (a':=_) ap_ ?_
    refine pZ (i:=14) (N:=some 17) #[Tt,Tt,Tt,Tt,Tt,Tt,Tt,Tt,Tt,Tt,Tt,Tt,Tt,Tt,Tt,Ff,Ff,Ff,Ff,Ff,Ff,Ff,Ff,Ff,Ff,Ff,Ff,Ff,Ff,Ff,Ff,Ff,Ff,Ff] ?_
    refine pZ (i:=15) (N:=some 18) #[Tt,Tt,Tt,Tt,Tt,Tt,Tt,Tt,Tt,Tt,Tt,Tt,Tt,Tt,Tt,Tt,Ff,Ff,Ff,Ff,Ff,Ff,Ff,Ff,Ff,Ff,Ff,Ff,Ff,Ff,Ff,Ff,Ff,Ff] ?_
    refine pU (i:=16) (N:=some 19) #[Tt,Tt,Tt,Tt,Tt,Tt,Tt,Tt,Tt,Tt,Tt,Tt,Tt,Tt,Tt,Tt,Tt,Ff,Ff,Ff,Ff,Ff,Ff,Ff,Ff,Ff,Ff,Ff,Ff,Ff,Ff,Ff,Ff,Ff] ?_
    refine pU (i:=17) (N:=some 20) #[Tt,Tt,Tt,Tt,Tt,Tt,Tt,Tt,Tt,Tt,Tt,Tt,Tt,Tt,Tt,Tt,Tt,Tt,Ff,Ff,Ff,Ff,Ff,Ff,Ff,Ff,Ff,Ff,Ff,Ff,Ff,Ff,Ff,Ff] ?_
    refine pU (i:=18) (N:=some 21) #[Tt,Tt,Tt,Tt,Tt,Tt,Tt,Tt,Tt,Tt,Tt,Tt,Tt,Tt,Tt,Tt,Tt,Tt,Tt,Ff,Ff,Ff,Ff,Ff,Ff,Ff,Ff,Ff,Ff,Ff,Ff,Ff,Ff,Ff] ?_
    refine pU (i:=19) (N:=some 22) #[Tt,Tt,Tt,Tt,Tt,Tt,Tt,Tt,Tt,Tt,Tt,Tt,Tt,Tt,Tt,Tt,Tt,Tt,Tt,Tt,Ff,Ff,Ff,Ff,Ff,Ff,Ff,Ff,Ff,Ff,Ff,Ff,Ff,Ff] ?_
    refine pU (i:=20) (N:=some 23) #[Tt,Tt,Tt,Tt,Tt,Tt,Tt,Tt,Tt,Tt,Tt,Tt,Tt,Tt,Tt,Tt,Tt,Tt,Tt,Tt,Tt,Ff,Ff,Ff,Ff,Ff,Ff,Ff,Ff,Ff,Ff,Ff,Ff,Ff] ?_
    refine pU (i:=21) (N:=some 24) #[Tt,Tt,Tt,Tt,Tt,Tt,Tt,Tt,Tt,Tt,Tt,Tt,Tt,Tt,Tt,Tt,Tt,Tt,Tt,Tt,Tt,Tt,Ff,Ff,Ff,Ff,Ff,Ff,Ff,Ff,Ff,Ff,Ff,Ff] ?_
    refine pU (i:=22) (N:=some 25) #[Tt,Tt,Tt,Tt,Tt,Tt,Tt,Tt,Tt,Tt,Tt,Tt,Tt,Tt,Tt,Tt,Tt,Tt,Tt,Tt,Tt,Tt,Tt,Ff,Ff,Ff,Ff,Ff,Ff,Ff,Ff,Ff,Ff,Ff] ?_
    refine pZ (i:=23) (N:=some 26) #[Tt,Tt,Tt,Tt,Tt,Tt,Tt,Tt,Tt,Tt,Tt,Tt,Tt,Tt,Tt,Tt,Tt,Tt,Tt,Tt,Tt,Tt,Tt,Tt,Ff,Ff,Ff,Ff,Ff,Ff,Ff,Ff,Ff,Ff] ?_
    refine pZ (i:=24) (N:=some 27) #[Tt,Tt,Tt,Tt,Tt,Tt,Tt,Tt,Tt,Tt,Tt,Tt,Tt,Tt,Tt,Tt,Tt,Tt,Tt,Tt,Tt,Tt,Tt,Tt,Tt,Ff,Ff,Ff,Ff,Ff,Ff,Ff,Ff,Ff] ?_
    refine pU (i:=25) (N:=some 28) #[Tt,Tt,Tt,Tt,Tt,Tt,Tt,Tt,Tt,Tt,Tt,Tt,Tt,Tt,Tt,Tt,Tt,Tt,Tt,Tt,Tt,Tt,Tt,Tt,Tt,Tt,Ff,Ff,Ff,Ff,Ff,Ff,Ff,Ff] ?_
    refine pU (i:=26) (N:=some 29) #[Tt,Tt,Tt,Tt,Tt,Tt,Tt,Tt,Tt,Tt,Tt,Tt,Tt,Tt,Tt,Tt,Tt,Tt,Tt,Tt,Tt,Tt,Tt,Tt,Tt,Tt,Tt,Ff,Ff,Ff,Ff,Ff,Ff,Ff] ?_
    refine pU (i:=27) (N:=some 30) #[Tt,Tt,Tt,Tt,Tt,Tt,Tt,Tt,Tt,Tt,Tt,Tt,Tt,Tt,Tt,Tt,Tt,Tt,Tt,Tt,Tt,Tt,Tt,Tt,Tt,Tt,Tt,Tt,Ff,Ff,Ff,Ff,Ff,Ff] ?_
    refine pU (i:=28) (N:=some 31) #[Tt,Tt,Tt,Tt,Tt,Tt,Tt,Tt,Tt,Tt,Tt,Tt,Tt,Tt,Tt,Tt,Tt,Tt,Tt,Tt,Tt,Tt,Tt,Tt,Tt,Tt,Tt,Tt,Tt,Ff,Ff,Ff,Ff,Ff] ?_
    refine pU (i:=29) (N:=some 32) #[Tt,Tt,Tt,Tt,Tt,Tt,Tt,Tt,Tt,Tt,Tt,Tt,Tt,Tt,Tt,Tt,Tt,Tt,Tt,Tt,Tt,Tt,Tt,Tt,Tt,Tt,Tt,Tt,Tt,Tt,Ff,Ff,Ff,Ff] ?_
    refine pU (i:=30) (N:=some 33) #[Tt,Tt,Tt,Tt,Tt,Tt,Tt,Tt,Tt,Tt,Tt,Tt,Tt,Tt,Tt,Tt,Tt,Tt,Tt,Tt,Tt,Tt,Tt,Tt,Tt,Tt,Tt,Tt,Tt,Tt,Tt,Ff,Ff,Ff] ?_
    refine pU (i:=31) (N:=some 34) #[Tt,Tt,Tt,Tt,Tt,Tt,Tt,Tt,Tt,Tt,Tt,Tt,Tt,Tt,Tt,Tt,Tt,Tt,Tt,Tt,Tt,Tt,Tt,Tt,Tt,Tt,Tt,Tt,Tt,Tt,Tt,Tt,Ff,Ff] ?_
    refine pZ (i:=32) (N:=some 35) #[Tt,Tt,Tt,Tt,Tt,Tt,Tt,Tt,Tt,Tt,Tt,Tt,Tt,Tt,Tt,Tt,Tt,Tt,Tt,Tt,Tt,Tt,Tt,Tt,Tt,Tt,Tt,Tt,Tt,Tt,Tt,Tt,Tt,Ff] ?_
    refine pZ (i:=33) (N:=some 2) #[Tt,Tt,Tt,Tt,Tt,Tt,Tt,Tt,Tt,Tt,Tt,Tt,Tt,Tt,Tt,Tt,Tt,Tt,Tt,Tt,Tt,Tt,Tt,Tt,Tt,Tt,Tt,Tt,Tt,Tt,Tt,Tt,Tt,Tt] ?_
    refine done_ (done_of HT_.out (by kernel_rfl)) ?_
    try go_wp2
    go_ret
    exact ⟨er_,bl1_ HB.out GE179.out⟩
  ·replace c5:=Bool.eq_false_iff.mpr c5
   subst c5
   have H1:(some false) = some r:=by rw [if_neg (show ¬ (false = true) by decide)] at H; exact H
   clear H
   have H:=H1
   clear H1
   obtain rfl:=Option.some.inj H
   go_enter Tryd.func93,Tryd.ntmps93
   try go_wp2_with (first | ((with_reducible refine gate_dst (N:=1) rfl ?_); refine boxE_ (N:=1) (cs:=#[.int .i64 a0_0,.int .i64 a0_1,.slice A0_2 l0_2.length c0_2,.slice A0_3 l0_3.length c0_3]) (t:=36) ?_; intro gb179 hg w30 hbox hb; have n0_:=am_ (below_step (bl0_ HB.out) hb); have n1_:=am_ (hbox); have n2_:=am_ ((bs0_ hg HB.out:w.heap.size ≤ gb179)); have n3_:=am_ ((bs0_ hg HB.out:w.heap.size ≤ gb179)); clear HB; have HB:=n0_; have BK179:=n1_; have GW179:=n2_; have GE179:=n3_; clear n0_ n1_ n2_ n3_; clear hb hbox hg))
   have n0_:=am_ (blk_drew BK179.out)
   have n1_:=am_ (below_drew1 HB.out)
   clear BK179
   clear HB
   have BK179:=n0_
   have HB:=n1_
   clear n0_ n1_
   refine start_ (n:=34) (S:=fun w' => w'.cell? ⟨gb179,0,none⟩ = some (.int .i64 a0_0) ∧ w'.cell? ⟨gb179,1,none⟩ = some (.int .i64 a0_1) ∧ w'.cell? ⟨gb179,2,none⟩ = some (.slice A0_2 l0_2.length c0_2) ∧ w'.cell? ⟨gb179,3,none⟩ = some (.slice A0_3 l0_3.length c0_3)) (ds:=[]) #[Ff,Ff,Ff,Ff,Ff,Ff,Ff,Ff,Ff,Ff,Ff,Ff,Ff,Ff,Ff,Ff,Ff,Ff,Ff,Ff,Ff,Ff,Ff,Ff,Ff,Ff,Ff,Ff,Ff,Ff,Ff,Ff,Ff,Ff] (by kernel_rfl) rfl rfl ⟨(bc_ BK179.out 0).trans rfl,(bc_ BK179.out 1).trans rfl,(bc_ BK179.out 2).trans rfl,(bc_ BK179.out 3).trans rfl⟩ (fun hHeld => ?_); refine with_tabW impl_IsFigure.tab1 impl_IsFigure.bits1 (fun HT_ HW_ => ?_)
   generalize w30.drew = w31 at BK179 HB hHeld ⊢
   refine pZ (i:=0) (N:=some 3) #[Tt,Ff,Ff,Ff,Ff,Ff,Ff,Ff,Ff,Ff,Ff,Ff,Ff,Ff,Ff,Ff,Ff,Ff,Ff,Ff,Ff,Ff,Ff,Ff,Ff,Ff,Ff,Ff,Ff,Ff,Ff,Ff,Ff,Ff] ?_
   refine pZ (i:=2) (N:=some 5) #[Tt,Ff,Tt,Ff,Ff,Ff,Ff,Ff,Ff,Ff,Ff,Ff,Ff,Ff,Ff,Ff,Ff,Ff,Ff,Ff,Ff,Ff,Ff,Ff,Ff,Ff,Ff,Ff,Ff,Ff,Ff,Ff,Ff,Ff] ?_
   refine tZ (i:=1) (N:=some 4) #[Tt,Tt,Tt,Ff,Ff,Ff,Ff,Ff,Ff,Ff,Ff,Ff,Ff,Ff,Ff,Ff,Ff,Ff,Ff,Ff,Ff,Ff,Ff,Ff,Ff,Ff,Ff,Ff,Ff,Ff,Ff,Ff,Ff,Ff] ?_
   refine tZ (i:=3) (N:=some 6) #[Tt,Tt,Tt,Tt,Ff,Ff,Ff,Ff,Ff,Ff,Ff,Ff,Ff,Ff,Ff,Ff,Ff,Ff,Ff,Ff,Ff,Ff,Ff,Ff,Ff,Ff,Ff,Ff,Ff,Ff,Ff,Ff,Ff,Ff] ?_
   refine one_ (i:=4) (N:=some 7) #[Tt,Tt,Tt,Tt,Tt,Ff,Ff,Ff,Ff,Ff,Ff,Ff,Ff,Ff,Ff,Ff,Ff,Ff,Ff,Ff,Ff,Ff,Ff,Ff,Ff,Ff,Ff,Ff,Ff,Ff,Ff,Ff,Ff,Ff] rfl rfl (one_of HT_.out (by kernel_rfl)) (by decide) (fun K hK => ?_)
   refine goes_ Tryd.func53 (by kernel_rfl) rfl #[.int .i64 a0_0,.int .i64 a0_1] (by rfl) rfl rfl ob_ ?_
   with_reducible refine (impl_isGrid.calls a0_0 a0_1 true _ A2.out).mono ?_
   rintro e w' ⟨rfl,⟨nd,rfl⟩⟩
   refine ⟨_,rfl,?_⟩
   refine hK.out _ _ ⟨(bc_ BK179.out 0).trans rfl,(bc_ BK179.out 1).trans rfl,(bc_ BK179.out 2).trans rfl,(bc_ BK179.out 3).trans rfl⟩ (fun hHeld => ?_)
   clear hK K
   refine norm_ (a':=_) ap_ ?_
   refine pZ (i:=5) (N:=some 8) #[Tt,Tt,Tt,Tt,Tt,Tt,Ff,Ff,Ff,Ff,Ff,Ff,Ff,Ff,Ff,Ff,Ff,Ff,Ff,Ff,Ff,Ff,Ff,Ff,Ff,Ff,Ff,Ff,Ff,Ff,Ff,Ff,Ff,Ff] ?_
   refine pZ (i:=6) (N:=some 9) #[Tt,Tt,Tt,Tt,Tt,Tt,Tt,Ff,Ff,Ff,Ff,Ff,Ff,Ff,Ff,Ff,Ff,Ff,Ff,Ff,Ff,Ff,Ff,Ff,Ff,Ff,Ff,Ff,Ff,Ff,Ff,Ff,Ff,Ff] ?_
   refine tZ (i:=7) (N:=some 10) #[Tt,Tt,Tt,Tt,Tt,Tt,Tt,Tt,Ff,Ff,Ff,Ff,Ff,Ff,Ff,Ff,Ff,Ff,Ff,Ff,Ff,Ff,Ff,Ff,Ff,Ff,Ff,Ff,Ff,Ff,Ff,Ff,Ff,Ff] ?_
   refine one_ (i:=8) (N:=some 11) #[Tt,Tt,Tt,Tt,Tt,Tt,Tt,Tt,Tt,Ff,Ff,Ff,Ff,Ff,Ff,Ff,Ff,Ff,Ff,Ff,Ff,Ff,Ff,Ff,Ff,Ff,Ff,Ff,Ff,Ff,Ff,Ff,Ff,Ff] rfl rfl (one_of HT_.out (by kernel_rfl)) (by decide) (fun K hK => ?_)
   refine goes_ Tryd.func81 (by kernel_rfl) rfl #[.slice A0_2 l0_2.length c0_2] (by rfl) rfl rfl ob_ ?_
   with_reducible refine (impl_isRising.calls k _ _ l0_2 false _ ?side1 ?side2 A4.out).mono ?_
   (case side1 => repeat (first | exact (Kd.C_below HR0_2.out (bl1_ HB.out GE179.out)) | (with_reducible refine Kd.C_alloc ?_ _) | (with_reducible refine Kd.C_drewN ?_ _) | (with_reducible refine Kd.C_drew ?_)))
   (case side2 => exact HC0_2.out)
   rintro e w' ⟨rfl,⟨nd,rfl⟩⟩
   refine ⟨_,rfl,?_⟩
   refine hK.out _ _ ⟨(bc_ BK179.out 0).trans rfl,(bc_ BK179.out 1).trans rfl,(bc_ BK179.out 2).trans rfl,(bc_ BK179.out 3).trans rfl⟩ (fun hHeld => ?_)
   clear hK K
   refine norm_ (a':=_) ap_ ?_
   refine pZ (i:=9) (N:=some 12) #[Tt,Tt,Tt,Tt,Tt,Tt,Tt,Tt,Tt,Tt,Ff,Ff,Ff,Ff,Ff,Ff,Ff,Ff,Ff,Ff,Ff,Ff,Ff,Ff,Ff,Ff,Ff,Ff,Ff,Ff,Ff,Ff,Ff,Ff] ?_
   refine pZ (i:=10) (N:=some 13) #[Tt,Tt,Tt,Tt,Tt,Tt,Tt,Tt,Tt,Tt,Tt,Ff,Ff,Ff,Ff,Ff,Ff,Ff,Ff,Ff,Ff,Ff,Ff,Ff,Ff,Ff,Ff,Ff,Ff,Ff,Ff,Ff,Ff,Ff] ?_
   refine pU (i:=11) (N:=some 14) #[Tt,Tt,Tt,Tt,Tt,Tt,Tt,Tt,Tt,Tt,Tt,Tt,Ff,Ff,Ff,Ff,Ff,Ff,Ff,Ff,Ff,Ff,Ff,Ff,Ff,Ff,Ff,Ff,Ff,Ff,Ff,Ff,Ff,Ff] ?_
   refine pU (i:=12) (N:=some 15) #[Tt,Tt,Tt,Tt,Tt,Tt,Tt,Tt,Tt,Tt,Tt,Tt,Tt,Ff,Ff,Ff,Ff,Ff,Ff,Ff,Ff,Ff,Ff,Ff,Ff,Ff,Ff,Ff,Ff,Ff,Ff,Ff,Ff,Ff] ?_
   refine pU (i:=13) (N:=some 16) #[Tt,Tt,Tt,Tt,Tt,Tt,Tt,Tt,Tt,Tt,Tt,Tt,Tt,Tt,Ff,Ff,Ff,Ff,Ff,Ff,Ff,Ff,Ff,Ff,Ff,Ff,Ff,Ff,Ff,Ff,Ff,Ff,Ff,Ff] ?_
   refine pZ (i:=14) (N:=some 17) #[Tt,Tt,Tt,Tt,Tt,Tt,Tt,Tt,Tt,Tt,Tt,Tt,Tt,Tt,Tt,Ff,Ff,Ff,Ff,Ff,Ff,Ff,Ff,Ff,Ff,Ff,Ff,Ff,Ff,Ff,Ff,Ff,Ff,Ff] ?_
   refine pZ (i:=15) (N:=some 18) #[Tt,Tt,Tt,Tt,Tt,Tt,Tt,Tt,Tt,Tt,Tt,Tt,Tt,Tt,Tt,Tt,Ff,Ff,Ff,Ff,Ff,Ff,Ff,Ff,Ff,Ff,Ff,Ff,Ff,Ff,Ff,Ff,Ff,Ff] ?_
   refine pU (i:=16) (N:=some 19) #[Tt,Tt,Tt,Tt,Tt,Tt,Tt,Tt,Tt,Tt,Tt,Tt,Tt,Tt,Tt,Tt,Tt,Ff,Ff,Ff,Ff,Ff,Ff,Ff,Ff,Ff,Ff,Ff,Ff,Ff,Ff,Ff,Ff,Ff] ?_
   refine pU (i:=17) (N:=some 20) #[Tt,Tt,Tt,Tt,Tt,Tt,Tt,Tt,Tt,Tt,Tt,Tt,Tt,Tt,Tt,Tt,Tt,Tt,Ff,Ff,Ff,Ff,Ff,Ff,Ff,Ff,Ff,Ff,Ff,Ff,Ff,Ff,Ff,Ff] ?_
   refine pU (i:=18) (N:=some 21) #[Tt,Tt,Tt,Tt,Tt,Tt,Tt,Tt,Tt,Tt,Tt,Tt,Tt,Tt,Tt,Tt,Tt,Tt,Tt,Ff,Ff,Ff,Ff,Ff,Ff,Ff,Ff,Ff,Ff,Ff,Ff,Ff,Ff,Ff] ?_
   refine pU (i:=19) (N:=some 22) #[Tt,Tt,Tt,Tt,Tt,Tt,Tt,Tt,Tt,Tt,Tt,Tt,Tt,Tt,Tt,Tt,Tt,Tt,Tt,Tt,Ff,Ff,Ff,Ff,Ff,Ff,Ff,Ff,Ff,Ff,Ff,Ff,Ff,Ff] ?_
   refine pU (i:=20) (N:=some 23) #[Tt,Tt,Tt,Tt,Tt,Tt,Tt,Tt,Tt,Tt,Tt,Tt,Tt,Tt,Tt,Tt,Tt,Tt,Tt,Tt,Tt,Ff,Ff,Ff,Ff,Ff,Ff,Ff,Ff,Ff,Ff,Ff,Ff,Ff] ?_
   refine pU (i:=21) (N:=some 24) #[Tt,Tt,Tt,Tt,Tt,Tt,Tt,Tt,Tt,Tt,Tt,Tt,Tt,Tt,Tt,Tt,Tt,Tt,Tt,Tt,Tt,Tt,Ff,Ff,Ff,Ff,Ff,Ff,Ff,Ff,Ff,Ff,Ff,Ff] ?_
   refine pU (i:=22) (N:=some 25) #[Tt,Tt,Tt,Tt,Tt,Tt,Tt,Tt,Tt,Tt,Tt,Tt,Tt,Tt,Tt,Tt,Tt,Tt,Tt,Tt,Tt,Tt,Tt,Ff,Ff,Ff,Ff,Ff,Ff,Ff,Ff,Ff,Ff,Ff] ?_
   refine pZ (i:=23) (N:=some 26) #[Tt,Tt,Tt,Tt,Tt,Tt,Tt,Tt,Tt,Tt,Tt,Tt,Tt,Tt,Tt,Tt,Tt,Tt,Tt,Tt,Tt,Tt,Tt,Tt,Ff,Ff,Ff,Ff,Ff,Ff,Ff,Ff,Ff,Ff] ?_
   refine pZ (i:=24) (N:=some 27) #[Tt,Tt,Tt,Tt,Tt,Tt,Tt,Tt,Tt,Tt,Tt,Tt,Tt,Tt,Tt,Tt,Tt,Tt,Tt,Tt,Tt,Tt,Tt,Tt,Tt,Ff,Ff,Ff,Ff,Ff,Ff,Ff,Ff,Ff] ?_
   refine pU (i:=25) (N:=some 28) #[Tt,Tt,Tt,Tt,Tt,Tt,Tt,Tt,Tt,Tt,Tt,Tt,Tt,Tt,Tt,Tt,Tt,Tt,Tt,Tt,Tt,Tt,Tt,Tt,Tt,Tt,Ff,Ff,Ff,Ff,Ff,Ff,Ff,Ff] ?_
   refine pU (i:=26) (N:=some 29) #[Tt,Tt,Tt,Tt,Tt,Tt,Tt,Tt,Tt,Tt,Tt,Tt,Tt,Tt,Tt,Tt,Tt,Tt,Tt,Tt,Tt,Tt,Tt,Tt,Tt,Tt,Tt,Ff,Ff,Ff,Ff,Ff,Ff,Ff] ?_
   refine pU (i:=27) (N:=some 30) #[Tt,Tt,Tt,Tt,Tt,Tt,Tt,Tt,Tt,Tt,Tt,Tt,Tt,Tt,Tt,Tt,Tt,Tt,Tt,Tt,Tt,Tt,Tt,Tt,Tt,Tt,Tt,Tt,Ff,Ff,Ff,Ff,Ff,Ff] ?_
   refine pU (i:=28) (N:=some 31) #[Tt,Tt,Tt,Tt,Tt,Tt,Tt,Tt,Tt,Tt,Tt,Tt,Tt,Tt,Tt,Tt,Tt,Tt,Tt,Tt,Tt,Tt,Tt,Tt,Tt,Tt,Tt,Tt,Tt,Ff,Ff,Ff,Ff,Ff] ?_
   refine pU (i:=29) (N:=some 32) #[Tt,Tt,Tt,Tt,Tt,Tt,Tt,Tt,Tt,Tt,Tt,Tt,Tt,Tt,Tt,Tt,Tt,Tt,Tt,Tt,Tt,Tt,Tt,Tt,Tt,Tt,Tt,Tt,Tt,Tt,Ff,Ff,Ff,Ff] ?_
   refine pU (i:=30) (N:=some 33) #[Tt,Tt,Tt,Tt,Tt,Tt,Tt,Tt,Tt,Tt,Tt,Tt,Tt,Tt,Tt,Tt,Tt,Tt,Tt,Tt,Tt,Tt,Tt,Tt,Tt,Tt,Tt,Tt,Tt,Tt,Tt,Ff,Ff,Ff] ?_
   refine pU (i:=31) (N:=some 34) #[Tt,Tt,Tt,Tt,Tt,Tt,Tt,Tt,Tt,Tt,Tt,Tt,Tt,Tt,Tt,Tt,Tt,Tt,Tt,Tt,Tt,Tt,Tt,Tt,Tt,Tt,Tt,Tt,Tt,Tt,Tt,Tt,Ff,Ff] ?_
   refine pZ (i:=32) (N:=some 35) #[Tt,Tt,Tt,Tt,Tt,Tt,Tt,Tt,Tt,Tt,Tt,Tt,Tt,Tt,Tt,Tt,Tt,Tt,Tt,Tt,Tt,Tt,Tt,Tt,Tt,Tt,Tt,Tt,Tt,Tt,Tt,Tt,Tt,Ff] ?_
   refine pZ (i:=33) (N:=some 2) #[Tt,Tt,Tt,Tt,Tt,Tt,Tt,Tt,Tt,Tt,Tt,Tt,Tt,Tt,Tt,Tt,Tt,Tt,Tt,Tt,Tt,Tt,Tt,Tt,Tt,Tt,Tt,Tt,Tt,Tt,Tt,Tt,Tt,Tt] ?_
   refine done_ (done_of HT_.out (by kernel_rfl)) ?_
   try go_wp2
   go_ret
   exact ⟨er_,bl1_ HB.out GE179.out⟩
 ·replace c3:=Bool.eq_false_iff.mpr c3
  subst c3
  have H1:(some false) = some r:=by rw [if_neg (show ¬ (false = true) by decide)] at H; exact H
  clear H
  have H:=H1
  clear H1
  obtain rfl:=Option.some.inj H
  go_enter Tryd.func93,Tryd.ntmps93
  try go_wp2_with (first | ((with_reducible refine gate_dst (N:=1) rfl ?_); refine boxE_ (N:=1) (cs:=#[.int .i64 a0_0,.int .i64 a0_1,.slice A0_2 l0_2.length c0_2,.slice A0_3 l0_3.length c0_3]) (t:=36) ?_; intro gb179 hg w32 hbox hb; have n0_:=am_ (below_step (bl0_ HB.out) hb); have n1_:=am_ (hbox); have n2_:=am_ ((bs0_ hg HB.out:w.heap.size ≤ gb179)); have n3_:=am_ ((bs0_ hg HB.out:w.heap.size ≤ gb179)); clear HB; have HB:=n0_; have BK179:=n1_; have GW179:=n2_; have GE179:=n3_; clear n0_ n1_ n2_ n3_; clear hb hbox hg))
  have n0_:=am_ (blk_drew BK179.out)
  have n1_:=am_ (below_drew1 HB.out)
  clear BK179
  clear HB
  have BK179:=n0_
  have HB:=n1_
  clear n0_ n1_
  refine start_ (n:=34) (S:=fun w' => w'.cell? ⟨gb179,0,none⟩ = some (.int .i64 a0_0) ∧ w'.cell? ⟨gb179,1,none⟩ = some (.int .i64 a0_1) ∧ w'.cell? ⟨gb179,2,none⟩ = some (.slice A0_2 l0_2.length c0_2) ∧ w'.cell? ⟨gb179,3,none⟩ = some (.slice A0_3 l0_3.length c0_3)) (ds:=[]) #[Ff,Ff,Ff,Ff,Ff,Ff,Ff,Ff,Ff,Ff,Ff,Ff,Ff,Ff,Ff,Ff,Ff,Ff,Ff,Ff,Ff,Ff,Ff,Ff,Ff,Ff,Ff,Ff,Ff,Ff,Ff,Ff,Ff,Ff] (by kernel_rfl) rfl rfl ⟨(bc_ BK179.out 0).trans rfl,(bc_ BK179.out 1).trans rfl,(bc_ BK179.out 2).trans rfl,(bc_ BK179.out 3).trans rfl⟩ (fun hHeld => ?_); refine with_tabW impl_IsFigure.tab1 impl_IsFigure.bits1 (fun HT_ HW_ => ?_)
  generalize w32.drew = w33 at BK179 HB hHeld ⊢
  refine pZ (i:=0) (N:=some 3) #[Tt,Ff,Ff,Ff,Ff,Ff,Ff,Ff,Ff,Ff,Ff,Ff,Ff,Ff,Ff,Ff,Ff,Ff,Ff,Ff,Ff,Ff,Ff,Ff,Ff,Ff,Ff,Ff,Ff,Ff,Ff,Ff,Ff,Ff] ?_
  refine pZ (i:=2) (N:=some 5) #[Tt,Ff,Tt,Ff,Ff,Ff,Ff,Ff,Ff,Ff,Ff,Ff,Ff,Ff,Ff,Ff,Ff,Ff,Ff,Ff,Ff,Ff,Ff,Ff,Ff,Ff,Ff,Ff,Ff,Ff,Ff,Ff,Ff,Ff] ?_
  refine tZ (i:=1) (N:=some 4) #[Tt,Tt,Tt,Ff,Ff,Ff,Ff,Ff,Ff,Ff,Ff,Ff,Ff,Ff,Ff,Ff,Ff,Ff,Ff,Ff,Ff,Ff,Ff,Ff,Ff,Ff,Ff,Ff,Ff,Ff,Ff,Ff,Ff,Ff] ?_
  refine tZ (i:=3) (N:=some 6) #[Tt,Tt,Tt,Tt,Ff,Ff,Ff,Ff,Ff,Ff,Ff,Ff,Ff,Ff,Ff,Ff,Ff,Ff,Ff,Ff,Ff,Ff,Ff,Ff,Ff,Ff,Ff,Ff,Ff,Ff,Ff,Ff,Ff,Ff] ?_
  refine one_ (i:=4) (N:=some 7) #[Tt,Tt,Tt,Tt,Tt,Ff,Ff,Ff,Ff,Ff,Ff,Ff,Ff,Ff,Ff,Ff,Ff,Ff,Ff,Ff,Ff,Ff,Ff,Ff,Ff,Ff,Ff,Ff,Ff,Ff,Ff,Ff,Ff,Ff] rfl rfl (one_of HT_.out (by kernel_rfl)) (by decide) (fun K hK => ?_)
  refine goes_ Tryd.func53 (by kernel_rfl) rfl #[.int .i64 a0_0,.int .i64 a0_1] (by rfl) rfl rfl ob_ ?_
  with_reducible refine (impl_isGrid.calls a0_0 a0_1 false _ A2.out).mono ?_
  rintro e w' ⟨rfl,⟨nd,rfl⟩⟩
  refine ⟨_,rfl,?_⟩
  refine hK.out _ _ ⟨(bc_ BK179.out 0).trans rfl,(bc_ BK179.out 1).trans rfl,(bc_ BK179.out 2).trans rfl,(bc_ BK179.out 3).trans rfl⟩ (fun hHeld => ?_)
  clear hK K
  refine norm_ (a':=_) ap_ ?_
  refine pZ (i:=5) (N:=some 8) #[Tt,Tt,Tt,Tt,Tt,Tt,Ff,Ff,Ff,Ff,Ff,Ff,Ff,Ff,Ff,Ff,Ff,Ff,Ff,Ff,Ff,Ff,Ff,Ff,Ff,Ff,Ff,Ff,Ff,Ff,Ff,Ff,Ff,Ff] ?_
  refine pU (i:=6) (N:=some 9) #[Tt,Tt,Tt,Tt,Tt,Tt,Tt,Ff,Ff,Ff,Ff,Ff,Ff,Ff,Ff,Ff,Ff,Ff,Ff,Ff,Ff,Ff,Ff,Ff,Ff,Ff,Ff,Ff,Ff,Ff,Ff,Ff,Ff,Ff] ?_
  refine pU (i:=7) (N:=some 10) #[Tt,Tt,Tt,Tt,Tt,Tt,Tt,Tt,Ff,Ff,Ff,Ff,Ff,Ff,Ff,Ff,Ff,Ff,Ff,Ff,Ff,Ff,Ff,Ff,Ff,Ff,Ff,Ff,Ff,Ff,Ff,Ff,Ff,Ff] ?_
  refine pU (i:=8) (N:=some 11) #[Tt,Tt,Tt,Tt,Tt,Tt,Tt,Tt,Tt,Ff,Ff,Ff,Ff,Ff,Ff,Ff,Ff,Ff,Ff,Ff,Ff,Ff,Ff,Ff,Ff,Ff,Ff,Ff,Ff,Ff,Ff,Ff,Ff,Ff] ?_
  refine pZ (i:=9) (N:=some 12) #[Tt,Tt,Tt,Tt,Tt,Tt,Tt,Tt,Tt,Tt,Ff,Ff,Ff,Ff,Ff,Ff,Ff,Ff,Ff,Ff,Ff,Ff,Ff,Ff,Ff,Ff,Ff,Ff,Ff,Ff,Ff,Ff,Ff,Ff] ?_
  refine pZ (i:=10) (N:=some 13) #[Tt,Tt,Tt,Tt,Tt,Tt,Tt,Tt,Tt,Tt,Tt,Ff,Ff,Ff,Ff,Ff,Ff,Ff,Ff,Ff,Ff,Ff,Ff,Ff,Ff,Ff,Ff,Ff,Ff,Ff,Ff,Ff,Ff,Ff] ?_
  refine pU (i:=11) (N:=some 14) #[Tt,Tt,Tt,Tt,Tt,Tt,Tt,Tt,Tt,Tt,Tt,Tt,Ff,Ff,Ff,Ff,Ff,Ff,Ff,Ff,Ff,Ff,Ff,Ff,Ff,Ff,Ff,Ff,Ff,Ff,Ff,Ff,Ff,Ff] ?_
  refine pU (i:=12) (N:=some 15) #[Tt,Tt,Tt,Tt,Tt,Tt,Tt,Tt,Tt,Tt,Tt,Tt,Tt,Ff,Ff,Ff,Ff,Ff,Ff,Ff,Ff,Ff,Ff,Ff,Ff,Ff,Ff,Ff,Ff,Ff,Ff,Ff,Ff,Ff] ?_
  refine pU (i:=13) (N:=some 16) #[Tt,Tt,Tt,Tt,Tt,Tt,Tt,Tt,Tt,Tt,Tt,Tt,Tt,Tt,Ff,Ff,Ff,Ff,Ff,Ff,Ff,Ff,Ff,Ff,Ff,Ff,Ff,Ff,Ff,Ff,Ff,Ff,Ff,Ff] ?_
  refine pZ (i:=14) (N:=some 17) #[Tt,Tt,Tt,Tt,Tt,Tt,Tt,Tt,Tt,Tt,Tt,Tt,Tt,Tt,Tt,Ff,Ff,Ff,Ff,Ff,Ff,Ff,Ff,Ff,Ff,Ff,Ff,Ff,Ff,Ff,Ff,Ff,Ff,Ff] ?_
  refine pZ (i:=15) (N:=some 18) #[Tt,Tt,Tt,Tt,Tt,Tt,Tt,Tt,Tt,Tt,Tt,Tt,Tt,Tt,Tt,Tt,Ff,Ff,Ff,Ff,Ff,Ff,Ff,Ff,Ff,Ff,Ff,Ff,Ff,Ff,Ff,Ff,Ff,Ff] ?_
  refine pU (i:=16) (N:=some 19) #[Tt,Tt,Tt,Tt,Tt,Tt,Tt,Tt,Tt,Tt,Tt,Tt,Tt,Tt,Tt,Tt,Tt,Ff,Ff,Ff,Ff,Ff,Ff,Ff,Ff,Ff,Ff,Ff,Ff,Ff,Ff,Ff,Ff,Ff] ?_
  refine pU (i:=17) (N:=some 20) #[Tt,Tt,Tt,Tt,Tt,Tt,Tt,Tt,Tt,Tt,Tt,Tt,Tt,Tt,Tt,Tt,Tt,Tt,Ff,Ff,Ff,Ff,Ff,Ff,Ff,Ff,Ff,Ff,Ff,Ff,Ff,Ff,Ff,Ff] ?_
  refine pU (i:=18) (N:=some 21) #[Tt,Tt,Tt,Tt,Tt,Tt,Tt,Tt,Tt,Tt,Tt,Tt,Tt,Tt,Tt,Tt,Tt,Tt,Tt,Ff,Ff,Ff,Ff,Ff,Ff,Ff,Ff,Ff,Ff,Ff,Ff,Ff,Ff,Ff] ?_
  refine pU (i:=19) (N:=some 22) #[Tt,Tt,Tt,Tt,Tt,Tt,Tt,Tt,Tt,Tt,Tt,Tt,Tt,Tt,Tt,Tt,Tt,Tt,Tt,Tt,Ff,Ff,Ff,Ff,Ff,Ff,Ff,Ff,Ff,Ff,Ff,Ff,Ff,Ff] ?_
  refine pU (i:=20) (N:=some 23) #[Tt,Tt,Tt,Tt,Tt,Tt,Tt,Tt,Tt,Tt,Tt,Tt,Tt,Tt,Tt,Tt,Tt,Tt,Tt,Tt,Tt,Ff,Ff,Ff,Ff,Ff,Ff,Ff,Ff,Ff,Ff,Ff,Ff,Ff] ?_
  refine pU (i:=21) (N:=some 24) #[Tt,Tt,Tt,Tt,Tt,Tt,Tt,Tt,Tt,Tt,Tt,Tt,Tt,Tt,Tt,Tt,Tt,Tt,Tt,Tt,Tt,Tt,Ff,Ff,Ff,Ff,Ff,Ff,Ff,Ff,Ff,Ff,Ff,Ff] ?_
  refine pU (i:=22) (N:=some 25) #[Tt,Tt,Tt,Tt,Tt,Tt,Tt,Tt,Tt,Tt,Tt,Tt,Tt,Tt,Tt,Tt,Tt,Tt,Tt,Tt,Tt,Tt,Tt,Ff,Ff,Ff,Ff,Ff,Ff,Ff,Ff,Ff,Ff,Ff] ?_
  refine pZ (i:=23) (N:=some 26) #[Tt,Tt,Tt,Tt,Tt,Tt,Tt,Tt,Tt,Tt,Tt,Tt,Tt,Tt,Tt,Tt,Tt,Tt,Tt,Tt,Tt,Tt,Tt,Tt,Ff,Ff,Ff,Ff,Ff,Ff,Ff,Ff,Ff,Ff] ?_
  refine pZ (i:=24) (N:=some 27) #[Tt,Tt,Tt,Tt,Tt,Tt,Tt,Tt,Tt,Tt,Tt,Tt,Tt,Tt,Tt,Tt,Tt,Tt,Tt,Tt,Tt,Tt,Tt,Tt,Tt,Ff,Ff,Ff,Ff,Ff,Ff,Ff,Ff,Ff] ?_
  refine pU (i:=25) (N:=some 28) #[Tt,Tt,Tt,Tt,Tt,Tt,Tt,Tt,Tt,Tt,Tt,Tt,Tt,Tt,Tt,Tt,Tt,Tt,Tt,Tt,Tt,Tt,Tt,Tt,Tt,Tt,Ff,Ff,Ff,Ff,Ff,Ff,Ff,Ff] ?_
  refine pU (i:=26) (N:=some 29) #[Tt,Tt,Tt,Tt,Tt,Tt,Tt,Tt,Tt,Tt,Tt,Tt,Tt,Tt,Tt,Tt,Tt,Tt,Tt,Tt,Tt,Tt,Tt,Tt,Tt,Tt,Tt,Ff,Ff,Ff,Ff,Ff,Ff,Ff] ?_
  refine pU (i:=27) (N:=some 30) #[Tt,Tt,Tt,Tt,Tt,Tt,Tt,Tt,Tt,Tt,Tt,Tt,Tt,Tt,Tt,Tt,Tt,Tt,Tt,Tt,Tt,Tt,Tt,Tt,Tt,Tt,Tt,Tt,Ff,Ff,Ff,Ff,Ff,Ff] ?_
  refine pU (i:=28) (N:=some 31) #[Tt,Tt,Tt,Tt,Tt,Tt,Tt,Tt,Tt,Tt,Tt,Tt,Tt,Tt,Tt,Tt,Tt,Tt,Tt,Tt,Tt,Tt,Tt,Tt,Tt,Tt,Tt,Tt,Tt,Ff,Ff,Ff,Ff,Ff] ?_
  refine pU (i:=29) (N:=some 32) #[Tt,Tt,Tt,Tt,Tt,Tt,Tt,Tt,Tt,Tt,Tt,Tt,Tt,Tt,Tt,Tt,Tt,Tt,Tt,Tt,Tt,Tt,Tt,Tt,Tt,Tt,Tt,Tt,Tt,Tt,Ff,Ff,Ff,Ff] ?_
  refine pU (i:=30) (N:=some 33) #[Tt,Tt,Tt,Tt,Tt,Tt,Tt,Tt,Tt,Tt,Tt,Tt,Tt,Tt,Tt,Tt,Tt,Tt,Tt,Tt,Tt,Tt,Tt,Tt,Tt,Tt,Tt,Tt,Tt,Tt,Tt,Ff,Ff,Ff] ?_
  refine pU (i:=31) (N:=some 34) #[Tt,Tt,Tt,Tt,Tt,Tt,Tt,Tt,Tt,Tt,Tt,Tt,Tt,Tt,Tt,Tt,Tt,Tt,Tt,Tt,Tt,Tt,Tt,Tt,Tt,Tt,Tt,Tt,Tt,Tt,Tt,Tt,Ff,Ff] ?_
  refine pZ (i:=32) (N:=some 35) #[Tt,Tt,Tt,Tt,Tt,Tt,Tt,Tt,Tt,Tt,Tt,Tt,Tt,Tt,Tt,Tt,Tt,Tt,Tt,Tt,Tt,Tt,Tt,Tt,Tt,Tt,Tt,Tt,Tt,Tt,Tt,Tt,Tt,Ff] ?_
  refine pZ (i:=33) (N:=some 2) #[Tt,Tt,Tt,Tt,Tt,Tt,Tt,Tt,Tt,Tt,Tt,Tt,Tt,Tt,Tt,Tt,Tt,Tt,Tt,Tt,Tt,Tt,Tt,Tt,Tt,Tt,Tt,Tt,Tt,Tt,Tt,Tt,Tt,Tt] ?_
  refine done_ (done_of HT_.out (by kernel_rfl)) ?_
  try go_wp2
  go_ret
  exact ⟨er_,bl1_ HB.out GE179.out⟩


theorem up_rounds {α:Type} {f:Nat → Option α} (hm:∀ k,LeO (f k) (f (k + 1))) {k k':Nat} (h:k ≤ k') {r:α} (hr:f k = some r):f k' = some r:=by
  induction k' with
  | zero => obtain rfl:k = 0:=by omega
            exact hr
  | succ n ih =>
    by_cases e:k = n + 1
    · subst e; exact hr
    · exact hm n r (ih (by omega))
def risingB:List Int → Bool
  | a :: b :: t => decide (a < b) && risingB (b :: t)
  | _ => true
def inB (lo hi:Int) (l:List Int):Bool:=l.all fun x => decide (lo ≤ x) && decide (x ≤ hi)
theorem isRising_l0 (l:List Int) (hL:l.length ≤ 4000000):∀ (d k i:Nat),l.length - i = d → 1 ≤ i → i ≤ l.length → d < k → impl_isRising.l0 k l (i:Int) = some (risingB (l.drop (i - 1))):=by
  intro d
  induction d with
  | zero =>
    intro k i h1 h2 h3 h4
    obtain ⟨k,rfl⟩:∃ m,k = m + 1:=⟨k - 1,by omega⟩
    simp only [impl_isRising.l0]
    rw [if_neg (by omega),List.drop_eq_getElem_cons (by omega),List.drop_of_length_le (by omega)]
    rfl
  | succ d ih =>
    intro k i h1 h2 h3 h4
    obtain ⟨k,rfl⟩:∃ m,k = m + 1:=⟨k - 1,by omega⟩
    have e1:wrap64 ((i:Int) - 1) = ((i - 1:Nat):Int):=by unfold wrap64; omega
    have e2:wrap64 ((i:Int) + 1) = ((i + 1:Nat):Int):=by unfold wrap64; omega
    simp only [impl_isRising.l0]
    rw [if_pos (by omega),if_pos (by omega),e1,if_pos (by omega),if_pos (by omega),rd_nat l i (by omega),rd_nat l (i - 1) (by omega),e2,ih k (i + 1) (by omega) (by omega) (by omega) (by omega),
      List.drop_eq_getElem_cons (show i - 1 < l.length by omega),show i - 1 + 1 = i by omega,show i + 1 - 1 = i by omega,List.drop_eq_getElem_cons (show i < l.length by omega)]
    by_cases hlt:l[i] ≤ l[i - 1]
    · rw [if_pos hlt]
      simp only [risingB]
      rw [decide_eq_false (by omega)]
      rfl
    · rw [if_neg hlt]
      simp only [risingB]
      rw [decide_eq_true (by omega)]
      rfl
theorem isRising_f (l:List Int) (hL:l.length ≤ 4000000) (k:Nat) (hk:l.length + 1 < k):impl_isRising.f k l = some (risingB l):=by
  unfold impl_isRising.f
  by_cases h0:l.length = 0
  · have:l = []:=List.length_eq_zero_iff.1 h0
    subst this
    obtain ⟨k,rfl⟩:∃ m,k = m + 1:=⟨k - 1,by omega⟩
    simp only [impl_isRising.l0]
    rw [if_neg (by simp)]
    rfl
  · exact isRising_l0 l hL (l.length - 1) k 1 rfl (by omega) (by omega) (by omega)
theorem fiRises_l0 (l:List Int) (hL:l.length ≤ 4000000):∀ (d k i:Nat),l.length - i = d → 1 ≤ i → i ≤ l.length → d < k → spec_fiRises.l0 k l (i:Int) = some (risingB (l.drop (i - 1))):=by
  intro d
  induction d with
  | zero =>
    intro k i h1 h2 h3 h4
    obtain ⟨k,rfl⟩:∃ m,k = m + 1:=⟨k - 1,by omega⟩
    simp only [spec_fiRises.l0]
    rw [if_neg (by omega),List.drop_eq_getElem_cons (by omega),List.drop_of_length_le (by omega)]
    rfl
  | succ d ih =>
    intro k i h1 h2 h3 h4
    obtain ⟨k,rfl⟩:∃ m,k = m + 1:=⟨k - 1,by omega⟩
    have e1:wrap64 ((i:Int) - 1) = ((i - 1:Nat):Int):=by unfold wrap64; omega
    have e2:wrap64 ((i:Int) + 1) = ((i + 1:Nat):Int):=by unfold wrap64; omega
    simp only [spec_fiRises.l0]
    rw [if_pos (by omega),e1,if_pos (by omega),if_pos (by omega),if_pos (by omega),rd_nat l i (by omega),rd_nat l (i - 1) (by omega),e2,ih k (i + 1) (by omega) (by omega) (by omega) (by omega),
      List.drop_eq_getElem_cons (show i - 1 < l.length by omega),show i - 1 + 1 = i by omega,show i + 1 - 1 = i by omega,List.drop_eq_getElem_cons (show i < l.length by omega)]
    by_cases hlt:l[i - 1] ≥ l[i]
    · rw [if_pos hlt]
      simp only [risingB]
      rw [decide_eq_false (by omega)]
      rfl
    · rw [if_neg hlt]
      simp only [risingB]
      rw [decide_eq_true (by omega)]
      rfl
theorem l1All_l0 (l:List Int) (lo hi:Int) (hL:l.length ≤ 4000000):∀ (d k i:Nat),l.length - i = d → i ≤ l.length → d < k → spec_l1All.l0 k lo hi l (l.length:Int) (i:Int) = some (inB lo hi (l.drop i)):=by
  intro d
  induction d with
  | zero =>
    intro k i h1 h3 h4
    obtain ⟨k,rfl⟩:∃ m,k = m + 1:=⟨k - 1,by omega⟩
    simp only [spec_l1All.l0]
    rw [if_neg (by omega),List.drop_of_length_le (by omega)]
    rfl
  | succ d ih =>
    intro k i h1 h3 h4
    obtain ⟨k,rfl⟩:∃ m,k = m + 1:=⟨k - 1,by omega⟩
    have e2:wrap64 ((i:Int) + 1) = ((i + 1:Nat):Int):=by unfold wrap64; omega
    have e3:∀ x:Int,spec_l1In.f x lo hi = some (decide (lo ≤ x) && decide (x ≤ hi)):=fun x => by
      unfold spec_l1In.f
      by_cases h:lo ≤ x
      · rw [if_pos h,decide_eq_true h]; rfl
      · rw [if_neg (show ¬ x ≥ lo from h),decide_eq_false h]; rfl
    simp only [spec_l1All.l0]
    rw [if_pos (by omega),if_pos (by omega),if_pos (by omega),rd_nat l i (by omega),e3,Option.bind_some,e2,ih k (i + 1) (by omega) (by omega) (by omega),List.drop_eq_getElem_cons (show i < l.length by omega)]
    unfold inB
    rw [List.all_cons]
    cases (decide (lo ≤ l[i]) && decide (l[i] ≤ hi)) <;> rfl
theorem l1All_f (l:List Int) (lo hi:Int) (hL:l.length ≤ 4000000) (k:Nat) (hk:l.length < k):spec_l1All.f k l lo hi = some (inB lo hi l):=by
  unfold spec_l1All.f
  exact l1All_l0 l lo hi hL l.length k 0 (by omega) (by omega) hk
theorem rising_len (l:List Int):∀ (lo hi:Int),risingB l = true → inB lo hi l = true → (l.length:Int) ≤ hi - lo + 1 ∨ l = []:=by
  induction l with
  | nil => intro lo hi _ _; exact .inr rfl
  | cons a t ih =>
    intro lo hi h1 h2
    unfold inB at h2
    rw [List.all_cons,Bool.and_eq_true,Bool.and_eq_true,decide_eq_true_iff,decide_eq_true_iff] at h2
    obtain ⟨⟨h3,h4⟩,h5⟩:=h2
    left
    cases t with
    | nil => simp; omega
    | cons b t =>
      simp only [risingB,Bool.and_eq_true,decide_eq_true_iff] at h1
      have h6:inB (a + 1) hi (b :: t) = true:=by
        have hr:∀ (t:List Int) (a b:Int),a < b → risingB (b :: t) = true → ∀ x ∈ b :: t,a < x:=by
          intro t
          induction t with
          | nil => intro a b hab _ x hx; simp at hx; omega
          | cons c t ih2 =>
            intro a b hab hr x hx
            simp only [risingB,Bool.and_eq_true,decide_eq_true_iff] at hr
            rcases List.mem_cons.1 hx with rfl | hx
            · exact hab
            · have:=ih2 b c hr.1 hr.2 x hx; omega
        unfold inB
        rw [List.all_eq_true] at h5 ⊢
        intro x hx
        have h7:=h5 x hx
        have h8:=hr t a b h1.1 h1.2 x hx
        simp only [Bool.and_eq_true,decide_eq_true_iff] at h7 ⊢
        omega
      rcases ih (a + 1) hi h1.2 h6 with h | h
      · simp at h ⊢; omega
      · cases h
def figB (w h:Int) (a u:List Int):Bool :=
  (decide (1 ≤ w) && decide (w ≤ 4) && decide (1 ≤ h) && decide (h ≤ 4)) && (risingB a && (risingB u && (inB 0 (w * (h + 1) - 1) a && inB 0 (h * (w + 1) - 1) u)))
theorem within_f (n lo hi:Int):impl_within.f n lo hi = some (decide (lo ≤ n) && decide (n ≤ hi)):=by
  unfold impl_within.f
  by_cases h:lo ≤ n
  · rw [if_pos h,decide_eq_true h]; rfl
  · rw [if_neg h,decide_eq_false h]; rfl
theorem l1In_f (n lo hi:Int):spec_l1In.f n lo hi = some (decide (lo ≤ n) && decide (n ≤ hi)):=by
  unfold spec_l1In.f
  by_cases h:lo ≤ n
  · rw [if_pos h,decide_eq_true h]; rfl
  · rw [if_neg (show ¬ n ≥ lo from h),decide_eq_false h]; rfl
theorem isGrid_f (w h:Int):impl_isGrid.f w h = some (decide (1 ≤ w) && decide (w ≤ 4) && decide (1 ≤ h) && decide (h ≤ 4)):=by
  unfold impl_isGrid.f
  rw [within_f,within_f,Option.bind_some,Option.bind_some]
  cases (decide (1 ≤ w) && decide (w ≤ 4)) <;> simp
theorem fiGrid_f (w h:Int):spec_fiGrid.f w h = some (decide (1 ≤ w) && decide (w ≤ 4) && decide (1 ≤ h) && decide (h ≤ 4)):=by
  unfold spec_fiGrid.f
  rw [l1In_f,l1In_f,Option.bind_some,Option.bind_some]
  cases (decide (1 ≤ w) && decide (w ≤ 4)) <;> simp
theorem grid_bounds {w h:Int} (hg:(decide (1 ≤ w) && decide (w ≤ 4) && decide (1 ≤ h) && decide (h ≤ 4)) = true):1 ≤ w ∧ w ≤ 4 ∧ 1 ≤ h ∧ h ≤ 4:=by
  simp only [Bool.and_eq_true,decide_eq_true_iff] at hg; omega
theorem area_bounds {w h:Int} (h1:1 ≤ w) (h2:w ≤ 4) (h3:1 ≤ h) (h4:h ≤ 4):2 ≤ w * (h + 1) ∧ w * (h + 1) ≤ 20 ∧ 2 ≤ h * (w + 1) ∧ h * (w + 1) ≤ 20:=by
  have:w = 1 ∨ w = 2 ∨ w = 3 ∨ w = 4:=by omega
  rcases this with rfl | rfl | rfl | rfl <;> omega
theorem IsFigure_f (w h:Int) (a u:List Int) (ha:a.length ≤ 1000000) (hu:u.length ≤ 1000000) (k:Nat) (hk:1000010 < k):impl_IsFigure.f k w h a u = some (figB w h a u):=by
  unfold impl_IsFigure.f figB
  rw [isGrid_f,Option.bind_some]
  by_cases hg:(decide (1 ≤ w) && decide (w ≤ 4) && decide (1 ≤ h) && decide (h ≤ 4)) = true
  · rw [if_pos hg,hg,isRising_f a (by omega) k (by omega),isRising_f u (by omega) k (by omega),Option.bind_some]
    obtain ⟨b1,b2,b3,b4⟩:=grid_bounds hg
    obtain ⟨c1,c2,c3,c4⟩:=area_bounds b1 b2 b3 b4
    have e1:wrap64 (h + 1) = h + 1:=by unfold wrap64; omega
    have e2:wrap64 (w + 1) = w + 1:=by unfold wrap64; omega
    have e3:wrap64 (w * (h + 1)) = w * (h + 1):=by unfold wrap64; omega
    have e4:wrap64 (h * (w + 1)) = h * (w + 1):=by unfold wrap64; omega
    have e5:wrap64 (w * (h + 1) - 1) = w * (h + 1) - 1:=by unfold wrap64; omega
    have e6:wrap64 (h * (w + 1) - 1) = h * (w + 1) - 1:=by unfold wrap64; omega
    unfold impl_Figure_grid.f impl_grid_levels.f impl_grid_uprights.f impl_areWithin.f
    simp only [Option.bind_some,e1,e2,e3,e4,e5,e6]
    have key:∀ A B C D:Bool,(if A = true then (if B = true then (if C = true then some D else some false) else some false) else some false) = some (true && (A && (B && (C && D)))):=by decide
    exact key _ _ _ _
  · rw [if_neg hg,Bool.eq_false_iff.mpr hg]
    rfl
theorem fiRises_f (l:List Int) (m:Int) (hm0:0 ≤ m) (hm:m ≤ 100) (hl:l.length ≤ 1000000) (k:Nat) (hk:1000010 < k):spec_fiRises.f k l m = some (risingB l && inB 0 m l):=by
  unfold spec_fiRises.f
  have e:wrap64 (m + 1) = m + 1:=by unfold wrap64; omega
  have hj:∀ b:Bool,spec_fiRises.j0 k l b = some (!b && risingB l):=fun b => by
    obtain ⟨k,rfl⟩:∃ q,k = q + 1:=⟨k - 1,by omega⟩
    simp only [spec_fiRises.j0]
    cases b with
    | true => rfl
    | false =>
      rw [if_neg (by simp)]
      by_cases h0:l.length = 0
      · have:l = []:=List.length_eq_zero_iff.1 h0
        subst this
        obtain ⟨k,rfl⟩:∃ q,k = q + 1:=⟨k - 1,by omega⟩
        simp only [spec_fiRises.l0]
        rw [if_neg (by simp)]
        rfl
      · rw [show (1:Int) = ((1:Nat):Int) from rfl,fiRises_l0 l (by omega) (l.length - 1) k 1 rfl (by omega) (by omega) (by omega)]
        rfl
  rw [e,hj,l1All_f l 0 m (by omega) k (by omega),Option.bind_some,hj]
  by_cases hgt:(l.length:Int) > m + 1
  · rw [if_pos hgt]
    cases h1:risingB l with
    | false => rfl
    | true =>
      cases h2:inB 0 m l with
      | false => rfl
      | true =>
        rcases rising_len l 0 m h1 h2 with h | h
        · omega
        · subst h; simp at hgt; omega
  · rw [if_neg hgt,Bool.not_not,Bool.and_comm]
theorem fiGood_f (w h:Int) (a u:List Int) (ha:a.length ≤ 1000000) (hu:u.length ≤ 1000000) (k:Nat) (hk:1000010 < k):spec_fiGood.f k w h a u = some (figB w h a u):=by
  unfold spec_fiGood.f figB
  rw [fiGrid_f,Option.bind_some]
  by_cases hg:(decide (1 ≤ w) && decide (w ≤ 4) && decide (1 ≤ h) && decide (h ≤ 4)) = true
  · rw [if_pos hg,hg]
    obtain ⟨b1,b2,b3,b4⟩:=grid_bounds hg
    obtain ⟨c1,c2,c3,c4⟩:=area_bounds b1 b2 b3 b4
    have e1:wrap64 (h + 1) = h + 1:=by unfold wrap64; omega
    have e2:wrap64 (w + 1) = w + 1:=by unfold wrap64; omega
    have e3:wrap64 (w * (h + 1)) = w * (h + 1):=by unfold wrap64; omega
    have e4:wrap64 ((w + 1) * h) = h * (w + 1):=by rw [Int.mul_comm]; unfold wrap64; omega
    have e5:wrap64 (w * (h + 1) - 1) = w * (h + 1) - 1:=by unfold wrap64; omega
    have e6:wrap64 (h * (w + 1) - 1) = h * (w + 1) - 1:=by unfold wrap64; omega
    rw [e1,e2,e3,e4,e5,e6,fiRises_f a _ (by omega) (by omega) ha k hk,fiRises_f u _ (by omega) (by omega) hu k hk,Option.bind_some,Option.bind_some]
    cases risingB a <;> cases risingB u <;> simp
    cases inB 0 (w * (h + 1) - 1) a <;> simp
  · rw [if_neg hg,Bool.eq_false_iff.mpr hg]
    rfl


mutual
def impl_Figure_set.l0:Nat → Int → List Int → Int → Int → Int → Int → List Int → List Int → Option (Int)
 | 0,_,_,_,_,_,_,_,_ => none
 | k + 1,x3,x9,x10,x11,x194000,x194001,x194002,x194003 => if x11 < x10 then (if 0 ≤ x11 then (if x11 < (x9.length:Int) then (if 0 ≤ (rd x9 x11) then (impl_Figure_set.l0 k (Go.bits .or .u64 x3 (shl .u64 1 (rd x9 x11))) x9 x10 (wrap64 (x11 + 1)) x194000 x194001 x194002 x194003) else (none)) else (none)) else (none)) else (impl_Figure_set.l1 k x3 x194003 (x194003.length:Int) 0 x194000 x194001 x194002 x194003)
def impl_Figure_set.l1:Nat → Int → List Int → Int → Int → Int → Int → List Int → List Int → Option (Int)
 | 0,_,_,_,_,_,_,_,_ => none
 | k + 1,x3,x21,x22,x23,x194000,x194001,x194002,x194003 => if x23 < x22 then (if 0 ≤ x23 then (if x23 < (x21.length:Int) then ((impl_Figure_grid.f x194000 x194001 x194002 x194003).bind fun bt196 => ((impl_grid_levels.f bt196.1 bt196.2).bind fun t198 => (if 0 ≤ (wrap64 (t198 + (rd x21 x23))) then (impl_Figure_set.l1 k (Go.bits .or .u64 x3 (shl .u64 1 (wrap64 (t198 + (rd x21 x23))))) x21 x22 (wrap64 (x23 + 1)) x194000 x194001 x194002 x194003) else (none)))) else (none)) else (none)) else (some x3)
end
def impl_Figure_set.f (k:Nat) (a0_0:Int) (a0_1:Int) (l0_2:List Int) (l0_3:List Int):Option (Int):=impl_Figure_set.l0 k 0 l0_2 (l0_2.length:Int) 0 a0_0 a0_1 l0_2 l0_3
theorem impl_Figure_set.mono_l:∀ k,(∀ y0 y1 y2 y3 y4 y5 y6 y7,LeO (impl_Figure_set.l0 k y0 y1 y2 y3 y4 y5 y6 y7) (impl_Figure_set.l0 (k + 1) y0 y1 y2 y3 y4 y5 y6 y7)) ∧ (∀ y0 y1 y2 y3 y4 y5 y6 y7,LeO (impl_Figure_set.l1 k y0 y1 y2 y3 y4 y5 y6 y7) (impl_Figure_set.l1 (k + 1) y0 y1 y2 y3 y4 y5 y6 y7))
 | 0 => ⟨fun _ _ _ _ _ _ _ _ r h => by simp [impl_Figure_set.l0] at h,fun _ _ _ _ _ _ _ _ r h => by simp [impl_Figure_set.l1] at h⟩
 | k + 1 => by
  obtain ⟨ih0,ih1⟩:=impl_Figure_set.mono_l k
  refine ⟨?_,?_⟩
  ·intro y0 y1 y2 y3 y4 y5 y6 y7
   unfold impl_Figure_set.l0
   repeat' first | (with_reducible first | exact ih0 _ _ _ _ _ _ _ _ | exact ih1 _ _ _ _ _ _ _ _ | exact LeO.refl _ | exact LeO.none _ | refine LeO.ite ?_ ?_ | refine LeO.bind ?_ (fun _ => ?_)) | exact ih0 _ _ _ _ _ _ _ _ | exact ih1 _ _ _ _ _ _ _ _
  ·intro y0 y1 y2 y3 y4 y5 y6 y7
   unfold impl_Figure_set.l1
   repeat' first | (with_reducible first | exact ih0 _ _ _ _ _ _ _ _ | exact ih1 _ _ _ _ _ _ _ _ | exact LeO.refl _ | exact LeO.none _ | refine LeO.ite ?_ ?_ | refine LeO.bind ?_ (fun _ => ?_)) | exact ih0 _ _ _ _ _ _ _ _ | exact ih1 _ _ _ _ _ _ _ _
theorem impl_Figure_set.mono:∀ a0 a1 a2 a3 k,LeO (impl_Figure_set.f k a0 a1 a2 a3) (impl_Figure_set.f (k + 1) a0 a1 a2 a3):=by
 intro a0 a1 a2 a3 k
 obtain ⟨ih0,ih1⟩:=impl_Figure_set.mono_l k
 unfold impl_Figure_set.f
 repeat' first | (with_reducible first | exact ih0 _ _ _ _ _ _ _ _ | exact ih1 _ _ _ _ _ _ _ _ | exact LeO.refl _ | exact LeO.none _ | refine LeO.ite ?_ ?_ | refine LeO.bind ?_ (fun _ => ?_)) | exact ih0 _ _ _ _ _ _ _ _ | exact ih1 _ _ _ _ _ _ _ _
set_option maxHeartbeats 8000000 in
set_option maxRecDepth 100000 in
theorem impl_Figure_set.calls (k:Nat) (a0_0:Int) (a0_1:Int) (A0_2:Option Addr) (c0_2:Nat) (l0_2:List Int) (A0_3:Option Addr) (c0_3:Nat) (l0_3:List Int) (r:Int) (w:World) (hr0_2:Kd.C (Kd.int .i64) w A0_2 l0_2.length l0_2) (hc0_2:l0_2.length ≤ c0_2) (hr0_3:Kd.C (Kd.int .i64) w A0_3 l0_3.length l0_3) (hc0_3:l0_3.length ≤ c0_3) (h:impl_Figure_set.f k a0_0 a0_1 l0_2 l0_3 = some r) :
  Calls Tryd.prog 72 #[.agg #[.int .i64 a0_0,.int .i64 a0_1,.slice A0_2 l0_2.length c0_2,.slice A0_3 l0_3.length c0_3]] w fun e w' => e = .returned (.int .u64 r) ∧ Below w.heap.size w w':=by
 have hu36:=Tryd.underlying36
 have HR0_2:=am_ hr0_2
 have HC0_2:=am_ hc0_2
 clear hr0_2 hc0_2
 have HR0_3:=am_ hr0_3
 have HC0_3:=am_ hc0_3
 clear hr0_3 hc0_3
 have HB:=am_ (Below.refl w.heap.size w)
 have H:(impl_Figure_set.l0 k 0 l0_2 (l0_2.length:Int) 0 a0_0 a0_1 l0_2 l0_3) = some r:=h
 clear h
 have H':=am_ H
 clear H
 go_enter Tryd.func72,Tryd.ntmps72
 go_wp2_with (first | ((with_reducible refine gate_dst (N:=1) rfl ?_); refine boxE_ (N:=1) (cs:=#[.int .i64 a0_0,.int .i64 a0_1,.slice A0_2 l0_2.length c0_2,.slice A0_3 l0_3.length c0_3]) (t:=36) ?_; intro gb193 hg w2 hbox hb; have n0_:=am_ (below_step (bl0_ HB.out) hb); have n1_:=am_ (hbox); have n2_:=am_ ((bs0_ hg HB.out:w.heap.size ≤ gb193)); have n3_:=am_ ((bs0_ hg HB.out:w.heap.size ≤ gb193)); clear HB; have HB:=n0_; have BK193:=n1_; have GW193:=n2_; have GE193:=n3_; clear n0_ n1_ n2_ n3_; clear hb hbox hg; have hcz3_0:w2.cell? ⟨gb193,0,none⟩ = some (.int .i64 a0_0):=(bc_ BK193.out 0).trans rfl; have hcz3_1:w2.cell? ⟨gb193,1,none⟩ = some (.int .i64 a0_1):=(bc_ BK193.out 1).trans rfl; have hcz3_2:w2.cell? ⟨gb193,2,none⟩ = some (.slice A0_2 l0_2.length c0_2):=(bc_ BK193.out 2).trans rfl; have hcz3_3:w2.cell? ⟨gb193,3,none⟩ = some (.slice A0_3 l0_3.length c0_3):=(bc_ BK193.out 3).trans rfl; have hfz3_0:=bz_ BK193.out 0; have hfz3_1:=bz_ BK193.out 1; have hfz3_2:=bz_ BK193.out 2; have hfz3_3:=bz_ BK193.out 3))
 go_loopg [3,11] k (fun kq v3 v11 w' => ∃ (x3_1:Int) (x11_1:Int),v3 = .int .u64 x3_1 ∧ v11 = .int .i64 x11_1 ∧ Aside0 (impl_Figure_set.l0 kq x3_1 l0_2 (l0_2.length:Int) x11_1 a0_0 a0_1 l0_2 l0_3 = some r) ∧ Aside0 (kq ≤ k) ∧ Aside0 (w'.heap[gb193]? = some (.cells #[.int .i64 a0_0,.int .i64 a0_1,(.slice A0_2 l0_2.length c0_2),(.slice A0_3 l0_3.length c0_3)] 36 (0,0))) ∧ Aside0 (Below w.heap.size w w'))
 case atStart => exact ⟨(0),(0),rs_,rs_,H',⟨Nat.le_refl _⟩,⟨bk_ BK193.out⟩,⟨bl1_ HB.out GE193.out⟩⟩
 case round =>
  clear H'
  try clear p2
  try clear hcz3_0
  try clear hcz3_1
  try clear hcz3_2
  try clear hcz3_3
  try clear hfz3_0
  try clear hfz3_1
  try clear hfz3_2
  try clear hfz3_3
  obtain ⟨x3_1,x11_1,rfl,rfl,HA,HK1,BK193,HB⟩:=hrel
  cases gk with
  | zero => exact absurd HA.out (by simp [impl_Figure_set.l0])
  | succ k1 =>
   have H:=HA.out
   clear HA
   simp only [impl_Figure_set.l0] at H
   by_cases c4:x11_1 < (l0_2.length:Int)
   ·rw [if_pos c4] at H
    have c4b0:decide (x11_1 < (l0_2.length:Int)) = true:=decide_eq_true c4
    clear c4
    by_cases c5:0 ≤ x11_1
    ·rw [if_pos c5] at H
     have c5b0:decide (0 ≤ x11_1) = true:=decide_eq_true c5
     clear c5
     by_cases c6:x11_1 < (l0_2.length:Int)
     ·rw [if_pos c6] at H
      have c6b0:decide (x11_1 < (l0_2.length:Int)) = true:=decide_eq_true c6
      clear c6
      by_cases c7:0 ≤ (rd l0_2 x11_1)
      ·rw [if_pos c7] at H
       have c7b0:=eq_true c7
       have c7b1:decide (0 ≤ (rd l0_2 x11_1)) = true:=decide_eq_true c7
       clear c7
       obtain ⟨ji8,hji8⟩:∃ j_:Int,(shl .u64 1 (rd l0_2 x11_1)) = j_:=⟨_,rfl⟩
       replace H:(impl_Figure_set.l0 k1 (Go.bits .or .u64 x3_1 (ji8)) l0_2 (l0_2.length:Int) (wrap64 (x11_1 + 1)) a0_0 a0_1 l0_2 l0_3) = some r:=by first | (rw [hji8] at H; exact H) | (simp only [hji8] at H ⊢; exact H)
       have hji8_:(IntKind.u64.wrap (1 * 2 ^ min (rd l0_2 x11_1).toNat 64)) = ji8:=hji8
       have hji8z:(rd l0_2 x11_1) ≤ 64 → (IntKind.u64.wrap (1 * 2 ^ (rd l0_2 x11_1).toNat)) = ji8:=shl_small hji8
       have hji8u:(IntKind.u64.wrap (2 ^ min (rd l0_2 x11_1).toNat 64)) = ji8:=by have h_:=hji8_; rw [Int.one_mul] at h_; exact h_
       have hji8v:(rd l0_2 x11_1) ≤ 64 → (IntKind.u64.wrap (2 ^ (rd l0_2 x11_1).toNat)) = ji8:=fun hle_ => by have h_:=hji8z hle_; rw [Int.one_mul] at h_; exact h_
       have H':=am_ H
       clear H
       have p194:0 ≤ (x11_1:Int):=of_decide_eq_true as_
       have q194:x11_1 < (l0_2.length:Int):=of_decide_eq_true as_
       obtain ⟨ad194,e194,hx194_0⟩:=Kd.at_int HR0_2.out x11_1 p194 q194
       cases e194
       replace hx194_0:=(HB.out.cell (wl_ w _ hx194_0)).trans hx194_0
       replace p194:=eq_true p194
       replace q194:=eq_true q194
       go_wp2
       go_roundg k1
       case measure => have:=HK1.out; omega
       case rel => exact ⟨(Go.bits .or .u64 x3_1 (ji8)),(wrap64 (x11_1 + 1)),(by first | rfl | (simp; done) | (simp only [← hji8] <;> (first | rfl | simp)) | (simp [*]; done)),rs_,H',⟨by have:=HK1.out; omega⟩,⟨bk_ BK193.out⟩,⟨bl1_ HB.out GE193.out⟩⟩
      ·rw [if_neg c7] at H
       exact absurd H (by simp)
     ·rw [if_neg c6] at H
      exact absurd H (by simp)
    ·rw [if_neg c5] at H
     exact absurd H (by simp)
   ·rw [if_neg c4] at H
    have c4b0:decide (x11_1 < (l0_2.length:Int)) = false:=decide_eq_false c4
    clear c4
    have H':=am_ H
    clear H
    have hcz9_0:wr.cell? ⟨gb193,0,none⟩ = some (.int .i64 a0_0):=(bc_ BK193.out 0).trans rfl
    have hcz9_1:wr.cell? ⟨gb193,1,none⟩ = some (.int .i64 a0_1):=(bc_ BK193.out 1).trans rfl
    have hcz9_2:wr.cell? ⟨gb193,2,none⟩ = some (.slice A0_2 l0_2.length c0_2):=(bc_ BK193.out 2).trans rfl
    have hcz9_3:wr.cell? ⟨gb193,3,none⟩ = some (.slice A0_3 l0_3.length c0_3):=(bc_ BK193.out 3).trans rfl
    have hfz9_0:=bz_ BK193.out 0
    have hfz9_1:=bz_ BK193.out 1
    have hfz9_2:=bz_ BK193.out 2
    have hfz9_3:=bz_ BK193.out 3
    go_wp2
    go_loopg [3,23] k1 (fun kq v3 v23 w' => ∃ (x3_2:Int) (x23_2:Int),v3 = .int .u64 x3_2 ∧ v23 = .int .i64 x23_2 ∧ Aside0 (impl_Figure_set.l1 kq x3_2 l0_3 (l0_3.length:Int) x23_2 a0_0 a0_1 l0_2 l0_3 = some r) ∧ Aside0 (kq ≤ k1) ∧ Aside0 (w'.heap[gb193]? = some (.cells #[.int .i64 a0_0,.int .i64 a0_1,(.slice A0_2 l0_2.length c0_2),(.slice A0_3 l0_3.length c0_3)] 36 (0,0))) ∧ Aside0 (Below w.heap.size w w'))
    case atStart => exact ⟨(x3_1),(0),rs_,rs_,H',⟨Nat.le_refl _⟩,⟨bk_ BK193.out⟩,⟨bl1_ HB.out GE193.out⟩⟩
    case round =>
     clear H'
     try clear p1
     try clear q1
     try clear hx1
     try clear p2
     try clear c4
     try clear c4b0
     try clear c5
     try clear c5b0
     try clear c6
     try clear c6b0
     try clear p6
     try clear c7
     try clear c7b0
     try clear c7b1
     try clear hcz3_0
     try clear hcz3_1
     try clear hcz3_2
     try clear hcz3_3
     try clear hcz9_0
     try clear hcz9_1
     try clear hcz9_2
     try clear hcz9_3
     try clear hfz3_0
     try clear hfz3_1
     try clear hfz3_2
     try clear hfz3_3
     try clear hfz9_0
     try clear hfz9_1
     try clear hfz9_2
     try clear hfz9_3
     try clear hx194_0
     try clear p194
     try clear p2
     try clear q194
     obtain ⟨x3_2,x23_2,rfl,rfl,HA,HK2,BK193,HB⟩:=hrel
     cases gk with
     | zero => exact absurd HA.out (by simp [impl_Figure_set.l1])
     | succ k2 =>
      have H:=HA.out
      clear HA
      simp only [impl_Figure_set.l1] at H
      by_cases c10:x23_2 < (l0_3.length:Int)
      ·rw [if_pos c10] at H
       have c10b0:decide (x23_2 < (l0_3.length:Int)) = true:=decide_eq_true c10
       clear c10
       by_cases c11:0 ≤ x23_2
       ·rw [if_pos c11] at H
        have c11b0:decide (0 ≤ x23_2) = true:=decide_eq_true c11
        clear c11
        by_cases c12:x23_2 < (l0_3.length:Int)
        ·rw [if_pos c12] at H
         have c12b0:decide (x23_2 < (l0_3.length:Int)) = true:=decide_eq_true c12
         clear c12
         replace H:=bi_ H
         obtain ⟨⟨t196,t197⟩,A130,H⟩:=H
         replace H:((impl_grid_levels.f t196 t197).bind fun t198 => (if 0 ≤ (wrap64 (t198 + (rd l0_3 x23_2))) then (impl_Figure_set.l1 k2 (Go.bits .or .u64 x3_2 (shl .u64 1 (wrap64 (t198 + (rd l0_3 x23_2))))) l0_3 (l0_3.length:Int) (wrap64 (x23_2 + 1)) a0_0 a0_1 l0_2 l0_3) else (none))) = some r:=H
         have A13:=am_ A130
         clear A130
         replace H:=bi_ H
         obtain ⟨t198,A140,H⟩:=H
         replace H:(if 0 ≤ (wrap64 (t198 + (rd l0_3 x23_2))) then (impl_Figure_set.l1 k2 (Go.bits .or .u64 x3_2 (shl .u64 1 (wrap64 (t198 + (rd l0_3 x23_2))))) l0_3 (l0_3.length:Int) (wrap64 (x23_2 + 1)) a0_0 a0_1 l0_2 l0_3) else (none)) = some r:=H
         have A14:=am_ A140
         clear A140
         obtain ⟨ji15,hji15⟩:∃ j_:Int,(wrap64 (t198 + (rd l0_3 x23_2))) = j_:=⟨_,rfl⟩
         replace H:(if 0 ≤ (ji15) then (impl_Figure_set.l1 k2 (Go.bits .or .u64 x3_2 (shl .u64 1 (ji15))) l0_3 (l0_3.length:Int) (wrap64 (x23_2 + 1)) a0_0 a0_1 l0_2 l0_3) else (none)) = some r:=by first | (rw [hji15] at H; exact H) | (simp only [hji15] at H ⊢; exact H)
         (try rw [hji15] at A13)
         (try rw [hji15] at A14)
         have hji15w:(IntKind.i64.wrap (t198 + (rd l0_3 x23_2))) = ji15:=(i64_w _).trans hji15
         by_cases c16:0 ≤ (ji15)
         ·rw [if_pos c16] at H
          have c16b0:=eq_true c16
          have c16b1:decide (0 ≤ (ji15)) = true:=decide_eq_true c16
          clear c16
          obtain ⟨ji17,hji17⟩:∃ j_:Int,(shl .u64 1 (ji15)) = j_:=⟨_,rfl⟩
          replace H:(impl_Figure_set.l1 k2 (Go.bits .or .u64 x3_2 (ji17)) l0_3 (l0_3.length:Int) (wrap64 (x23_2 + 1)) a0_0 a0_1 l0_2 l0_3) = some r:=by first | (rw [hji17] at H; exact H) | (simp only [hji17] at H ⊢; exact H)
          (try rw [hji17] at A13)
          (try rw [hji17] at A14)
          have hji17_:(IntKind.u64.wrap (1 * 2 ^ min (ji15).toNat 64)) = ji17:=hji17
          have hji17z:(ji15) ≤ 64 → (IntKind.u64.wrap (1 * 2 ^ (ji15).toNat)) = ji17:=shl_small hji17
          have hji17u:(IntKind.u64.wrap (2 ^ min (ji15).toNat 64)) = ji17:=by have h_:=hji17_; rw [Int.one_mul] at h_; exact h_
          have hji17v:(ji15) ≤ 64 → (IntKind.u64.wrap (2 ^ (ji15).toNat)) = ji17:=fun hle_ => by have h_:=hji17z hle_; rw [Int.one_mul] at h_; exact h_
          have H':=am_ H
          clear H
          have p195:0 ≤ (x23_2:Int):=of_decide_eq_true as_
          have q195:x23_2 < (l0_3.length:Int):=of_decide_eq_true as_
          obtain ⟨ad195,e195,hx195_0⟩:=Kd.at_int HR0_3.out x23_2 p195 q195
          cases e195
          replace hx195_0:=(HB.out.cell (wl_ w _ hx195_0)).trans hx195_0
          replace p195:=eq_true p195
          replace q195:=eq_true q195
          have hcz18_0:wr.cell? ⟨gb193,0,none⟩ = some (.int .i64 a0_0):=(bc_ BK193.out 0).trans rfl
          have hcz18_1:wr.cell? ⟨gb193,1,none⟩ = some (.int .i64 a0_1):=(bc_ BK193.out 1).trans rfl
          have hcz18_2:wr.cell? ⟨gb193,2,none⟩ = some (.slice A0_2 l0_2.length c0_2):=(bc_ BK193.out 2).trans rfl
          have hcz18_3:wr.cell? ⟨gb193,3,none⟩ = some (.slice (some ad195) l0_3.length c0_3):=(bc_ BK193.out 3).trans rfl
          have hfz18_0:=bz_ BK193.out 0
          have hfz18_1:=bz_ BK193.out 1
          have hfz18_2:=bz_ BK193.out 2
          have hfz18_3:=bz_ BK193.out 3
          go_wp2_with (first | ((with_reducible refine gate_callee (f:=71) rfl ?_); refine goesL_ (some 29) rfl rfl Tryd.func71 (by kernel_rfl) rfl #[.agg #[.int .i64 a0_0,.int .i64 a0_1,.slice A0_2 l0_2.length c0_2,.slice (some ad195) l0_3.length c0_3]] rfl ob_ ?_; (with_reducible refine (impl_Figure_grid.calls a0_0 a0_1 _ _ l0_2 _ _ l0_3 t196 t197 _ ?side1 ?side2 ?side3 ?side4 A13.out).mono ?_); (case side1 => exact kc_ (Kd.C_below HR0_2.out HB.out)); (case side2 => exact HC0_2.out); (case side3 => exact kc_ (Kd.C_below HR0_3.out HB.out)); (case side4 => exact HC0_3.out); rintro e w19 ⟨rfl,hb⟩; refine ⟨_,rfl,?_⟩; have n0_:=am_ (bb_ BK193.out hb); have n1_:=am_ (below_step (bl1_ HB.out GE193.out) hb); clear BK193; clear HB; have BK193:=n0_; have HB:=n1_; clear n0_ n1_; (try clear hb); (try clear hb2); (try clear hk); (try clear hi)) | ((with_reducible refine gate_callee (f:=101) rfl ?_); refine goesL_ (some 30) rfl rfl Tryd.func101 (by kernel_rfl) rfl #[.agg #[.int .i64 t196,.int .i64 t197]] rfl ob_ ?_; (with_reducible refine (impl_grid_levels.calls t196 t197 t198 _ A14.out).mono ?_); rintro e w20 ⟨rfl,hb⟩; refine ⟨_,rfl,?_⟩; have n0_:=am_ (bb_ BK193.out hb); have n1_:=am_ (below_step (bl1_ HB.out GE193.out) hb); clear BK193; clear HB; have BK193:=n0_; have HB:=n1_; clear n0_ n1_; (try clear hb); (try clear hb2); (try clear hk); (try clear hi)))
          go_roundg k2
          case measure => have:=HK1.out; have:=HK2.out; omega
          case rel => exact ⟨(Go.bits .or .u64 x3_2 (ji17)),(wrap64 (x23_2 + 1)),(by first | rfl | (simp; done) | (simp only [← hji17] <;> (first | rfl | simp)) | (simp [*]; done)),rs_,H',⟨by have:=HK1.out; have:=HK2.out; omega⟩,⟨bk_ BK193.out⟩,⟨bl1_ HB.out GE193.out⟩⟩
         ·rw [if_neg c16] at H
          exact absurd H (by simp)
        ·rw [if_neg c12] at H
         exact absurd H (by simp)
       ·rw [if_neg c11] at H
        exact absurd H (by simp)
      ·rw [if_neg c10] at H
       have c10b0:decide (x23_2 < (l0_3.length:Int)) = false:=decide_eq_false c10
       clear c10
       obtain rfl:=Option.some.inj H
       go_wp2
       go_ret
       exact ⟨er_,bl1_ HB.out GE193.out⟩


theorem u64_small (n:Int) (h0:0 ≤ n) (h1:n < 2 ^ 60):IntKind.u64.wrap n = n:=by
 have:IntKind.u64.wrap n = n % 18446744073709551616:=by simp [IntKind.wrap,IntKind.bits,IntKind.signed]
 rw [this]; omega
theorem i64_small (n:Int) (h0:0 ≤ n) (h1:n < 2 ^ 60):IntKind.i64.wrap n = n:=by rw [IntKind.wrap_i64]; omega
theorem or_u64 (a b:Nat) (ha:a < 2 ^ 60) (hb:b < 2 ^ 60):Go.bits .or .u64 (a:Int) (b:Int) = ((a ||| b:Nat):Int):=(bits_nat .u64 60 (by decide) u64_small a b ha hb).2
theorem and_u64 (a b:Nat) (ha:a < 2 ^ 60) (hb:b < 2 ^ 60):Go.bits .and .u64 (a:Int) (b:Int) = ((a &&& b:Nat):Int):=(bits_nat .u64 60 (by decide) u64_small a b ha hb).1
theorem or_i64 (a b:Nat) (ha:a < 2 ^ 60) (hb:b < 2 ^ 60):Go.bits .or .i64 (a:Int) (b:Int) = ((a ||| b:Nat):Int):=(bits_nat .i64 60 (by decide) i64_small a b ha hb).2
theorem and_i64 (a b:Nat) (ha:a < 2 ^ 60) (hb:b < 2 ^ 60):Go.bits .and .i64 (a:Int) (b:Int) = ((a &&& b:Nat):Int):=(bits_nat .i64 60 (by decide) i64_small a b ha hb).1
theorem pow_lt60 {n:Nat} (h:n < 60):2 ^ n < 2 ^ 60:=Nat.pow_lt_pow_right (by decide) h
theorem shl_u64 (n:Nat) (h:n < 60):shl .u64 1 (n:Int) = ((2 ^ n:Nat):Int):=by
 unfold shl
 rw [Int.toNat_natCast,show min n IntKind.u64.bits = n from Nat.min_eq_left (by show n ≤ 64; omega),Int.one_mul]
 have h2:=pow_lt60 h
 rw [u64_small _ (by exact_mod_cast Nat.zero_le _) (by exact_mod_cast h2)]
 norm_cast
theorem shl_i64 (n:Nat) (h:n < 60):shl .i64 1 (n:Int) = ((2 ^ n:Nat):Int):=by
 unfold shl
 rw [Int.toNat_natCast,show min n IntKind.i64.bits = n from Nat.min_eq_left (by show n ≤ 64; omega),Int.one_mul]
 have h2:=pow_lt60 h
 rw [i64_small _ (by exact_mod_cast Nat.zero_le _) (by exact_mod_cast h2)]
 norm_cast
def bitsFrom (s:Nat) (l:List Int) (m:Nat):Nat:=l.foldl (fun m k => m ||| 2 ^ (s + k.toNat)) m
theorem bitsFrom_lt (s:Nat) (l:List Int):∀ m,m < 2 ^ 60 → (∀ k ∈ l,s + k.toNat < 60) → bitsFrom s l m < 2 ^ 60:=by
 induction l with
 | nil => intro m hm _; exact hm
 | cons a t ih =>
  intro m hm h
  exact ih _ (Nat.or_lt_two_pow hm (pow_lt60 (h a (by simp)))) (fun k hk => h k (by simp [hk]))
theorem bitsFrom_test (s:Nat) (l:List Int) (i:Nat):∀ m,(bitsFrom s l m).testBit i = (m.testBit i || l.any fun k => decide (s + k.toNat = i)):=by
 induction l with
 | nil => intro m; simp [bitsFrom]
 | cons a t ih =>
  intro m
  have:=ih (m ||| 2 ^ (s + a.toNat))
  unfold bitsFrom at this ⊢
  rw [List.foldl_cons,this,Nat.testBit_or,Nat.testBit_two_pow,List.any_cons,Bool.or_assoc]
theorem inB_mem {lo hi:Int} {l:List Int} (h:inB lo hi l = true) (x:Int) (hx:x ∈ l):lo ≤ x ∧ x ≤ hi:=by
 unfold inB at h
 rw [List.all_eq_true] at h
 have:=h x hx
 simpa using this
def figMask (w h:Int) (a u:List Int):Nat:=bitsFrom (w * (h + 1)).toNat u (bitsFrom 0 a 0)
theorem figMask_lt {w h:Int} {a u:List Int} (hf:figB w h a u = true):figMask w h a u < 2 ^ 60:=by
 unfold figB at hf
 simp only [Bool.and_eq_true] at hf
 obtain ⟨hg,-,-,hi1,hi2⟩:=hf
 obtain ⟨b1,b2,b3,b4⟩:=grid_bounds (by simp only [Bool.and_eq_true]; exact hg)
 obtain ⟨c1,c2,c3,c4⟩:=area_bounds b1 b2 b3 b4
 refine bitsFrom_lt _ _ _ (bitsFrom_lt _ _ _ (by decide) (fun k hk => ?_)) (fun k hk => ?_)
 ·have:=inB_mem hi1 k hk; omega
 ·have:=inB_mem hi2 k hk; omega
theorem figMask_level {w h:Int} {a u:List Int} (hf:figB w h a u = true) (e:Nat) (he:(e:Int) < w * (h + 1)):(figMask w h a u).testBit e = decide ((e:Int) ∈ a):=by
 unfold figB at hf
 simp only [Bool.and_eq_true] at hf
 obtain ⟨hg,-,-,hi1,hi2⟩:=hf
 unfold figMask
 rw [bitsFrom_test,bitsFrom_test,Nat.zero_testBit,Bool.false_or]
 rw [show (u.any fun k => decide ((w * (h + 1)).toNat + k.toNat = e)) = false from by
  rw [List.any_eq_false]; intro k hk; have:=inB_mem hi2 k hk; simp; omega]
 rw [Bool.or_false,Bool.eq_iff_iff,List.any_eq_true,decide_eq_true_iff]
 constructor
 ·rintro ⟨k,hk,hke⟩
  have:=inB_mem hi1 k hk
  simp at hke
  rw [show (e:Int) = k by omega]
  exact hk
 ·intro hm
  exact ⟨_,hm,by simp⟩
theorem figMask_upright {w h:Int} {a u:List Int} (hf:figB w h a u = true) (e:Nat):(figMask w h a u).testBit ((w * (h + 1)).toNat + e) = decide ((e:Int) ∈ u):=by
 unfold figB at hf
 simp only [Bool.and_eq_true] at hf
 obtain ⟨hg,-,-,hi1,hi2⟩:=hf
 obtain ⟨b1,b2,b3,b4⟩:=grid_bounds (by simp only [Bool.and_eq_true]; exact hg)
 obtain ⟨c1,c2,c3,c4⟩:=area_bounds b1 b2 b3 b4
 unfold figMask
 rw [bitsFrom_test,bitsFrom_test,Nat.zero_testBit,Bool.false_or]
 rw [show (a.any fun k => decide (0 + k.toNat = (w * (h + 1)).toNat + e)) = false from by
  rw [List.any_eq_false]; intro k hk; have:=inB_mem hi1 k hk; simp; omega]
 rw [Bool.false_or,Bool.eq_iff_iff,List.any_eq_true,decide_eq_true_iff]
 constructor
 ·rintro ⟨k,hk,hke⟩
  have:=inB_mem hi2 k hk
  simp at hke
  rw [show (e:Int) = k by omega]
  exact hk
 ·intro hm
  exact ⟨_,hm,by simp⟩
theorem set_l1 (w h:Int) (a u:List Int) (hL:u.length ≤ 4000000) (hw:wrap64 (w * wrap64 (h + 1)) = w * (h + 1)) (h0:0 ≤ w * (h + 1)) (h1:w * (h + 1) ≤ 20) (hu:∀ k ∈ u,0 ≤ k ∧ k ≤ 20):∀ (d k i:Nat) (m:Nat),u.length - i = d → i ≤ u.length → d < k → m < 2 ^ 60 →
  impl_Figure_set.l1 k (m:Int) u (u.length:Int) (i:Int) w h a u = some ((bitsFrom (w * (h + 1)).toNat (u.drop i) m:Nat):Int):=by
 intro d
 induction d with
 | zero =>
  intro k i m h2 h3 h4 h5
  obtain ⟨k,rfl⟩:∃ q,k = q + 1:=⟨k - 1,by omega⟩
  simp only [impl_Figure_set.l1]
  rw [if_neg (by omega),List.drop_of_length_le (by omega)]
  rfl
 | succ d ih =>
  intro k i m h2 h3 h4 h5
  obtain ⟨k,rfl⟩:∃ q,k = q + 1:=⟨k - 1,by omega⟩
  have hi:i < u.length:=by omega
  have hk:=hu u[i] (List.getElem_mem hi)
  have e2:wrap64 ((i:Int) + 1) = ((i + 1:Nat):Int):=by unfold wrap64; omega
  have e3:wrap64 (w * (h + 1) + u[i]) = (((w * (h + 1)).toNat + u[i].toNat:Nat):Int):=by unfold wrap64; omega
  have hlt:(w * (h + 1)).toNat + u[i].toNat < 60:=by omega
  simp only [impl_Figure_set.l1]
  unfold impl_Figure_grid.f impl_grid_levels.f
  rw [if_pos (by omega),if_pos (by omega),if_pos (by omega),rd_nat u i hi,Option.bind_some,Option.bind_some,hw,e3,if_pos (by omega),shl_u64 _ hlt,or_u64 _ _ h5 (pow_lt60 hlt),e2,
   ih k (i + 1) _ (by omega) (by omega) (by omega) (Nat.or_lt_two_pow h5 (pow_lt60 hlt)),List.drop_eq_getElem_cons hi]
  rfl
theorem set_l0 (w h:Int) (a u:List Int) (hL:a.length ≤ 4000000) (hLu:u.length ≤ 4000000) (hw:wrap64 (w * wrap64 (h + 1)) = w * (h + 1)) (h0:0 ≤ w * (h + 1)) (h1:w * (h + 1) ≤ 20) (ha:∀ k ∈ a,0 ≤ k ∧ k ≤ 20) (hu:∀ k ∈ u,0 ≤ k ∧ k ≤ 20):∀ (d k i:Nat) (m:Nat),a.length - i = d → i ≤ a.length → d + u.length + 2 < k → m < 2 ^ 60 →
  impl_Figure_set.l0 k (m:Int) a (a.length:Int) (i:Int) w h a u = some ((bitsFrom (w * (h + 1)).toNat u (bitsFrom 0 (a.drop i) m):Nat):Int):=by
 intro d
 induction d with
 | zero =>
  intro k i m h2 h3 h4 h5
  obtain ⟨k,rfl⟩:∃ q,k = q + 1:=⟨k - 1,by omega⟩
  simp only [impl_Figure_set.l0]
  rw [if_neg (by omega),List.drop_of_length_le (by omega)]
  exact set_l1 w h a u hLu hw h0 h1 hu u.length k 0 m (by omega) (by omega) (by omega) h5
 | succ d ih =>
  intro k i m h2 h3 h4 h5
  obtain ⟨k,rfl⟩:∃ q,k = q + 1:=⟨k - 1,by omega⟩
  have hi:i < a.length:=by omega
  have hk:=ha a[i] (List.getElem_mem hi)
  have e2:wrap64 ((i:Int) + 1) = ((i + 1:Nat):Int):=by unfold wrap64; omega
  have c1:(i:Int) < (a.length:Int):=Int.ofNat_lt.2 hi
  have c2:(0:Int) ≤ (i:Int):=Int.natCast_nonneg _
  have hr:=rd_nat a i hi
  have hd:=List.drop_eq_getElem_cons hi
  have n1:a.length - (i + 1) = d:=by clear hk hr hd c1 c2 ih h5 hw h0 h1 hu ha; omega
  have n2:i + 1 ≤ a.length:=hi
  have n3:d + u.length + 2 < k:=by clear hk hr hd c1 c2 ih h5 hw h0 h1 hu ha; omega
  have hih:=fun m hm => ih k (i + 1) m n1 n2 n3 hm
  generalize a[i] = x at hk hr hd
  obtain ⟨hk1,hk2⟩:=hk
  obtain ⟨y,rfl⟩:∃ y:Nat,x = (y:Int):=⟨x.toNat,(Int.toNat_of_nonneg hk1).symm⟩
  have hlt:y < 60:=by clear hr hd c1 c2 ih h5 hw h0 h1 hu ha hih; omega
  simp only [impl_Figure_set.l0]
  rw [if_pos c1,if_pos c2,if_pos c1,hr,if_pos hk1,shl_u64 _ hlt,or_u64 _ _ h5 (pow_lt60 hlt),e2,hih _ (Nat.or_lt_two_pow h5 (pow_lt60 hlt)),hd]
  unfold bitsFrom
  rw [List.foldl_cons,Nat.zero_add,Int.toNat_natCast]
theorem set_f {w h:Int} {a u:List Int} (hf:figB w h a u = true) (ha:a.length ≤ 1000000) (hu:u.length ≤ 1000000) (k:Nat) (hk:2000010 < k):impl_Figure_set.f k w h a u = some ((figMask w h a u:Nat):Int):=by
 unfold figB at hf
 simp only [Bool.and_eq_true] at hf
 obtain ⟨hg,-,-,hi1,hi2⟩:=hf
 obtain ⟨b1,b2,b3,b4⟩:=grid_bounds (by simp only [Bool.and_eq_true]; exact hg)
 obtain ⟨c1,c2,c3,c4⟩:=area_bounds b1 b2 b3 b4
 have e1:wrap64 (h + 1) = h + 1:=by unfold wrap64; omega
 have e3:wrap64 (w * (h + 1)) = w * (h + 1):=by unfold wrap64; omega
 unfold impl_Figure_set.f figMask
 have q:=set_l0 w h a u (by omega) (by omega) (by rw [e1,e3]) (by omega) (by omega) (fun k hk => by have:=inB_mem hi1 k hk; omega) (fun k hk => by have:=inB_mem hi2 k hk; omega) a.length k 0 0 (by omega) (by omega) (by clear hi1 hi2; omega) (by decide)
 rw [List.drop_zero] at q
 exact q


def diffN (s g:Nat):Nat:=s ^^^ (s &&& g)
theorem diffN_test (s g i:Nat):(diffN s g).testBit i = (s.testBit i && !g.testBit i):=by
  unfold diffN; rw [Nat.testBit_xor,Nat.testBit_and]; cases s.testBit i <;> cases g.testBit i <;> rfl
theorem diffN_lt {s:Nat} (g:Nat) {n:Nat} (h:s < 2 ^ n):diffN s g < 2 ^ n:=Nat.xor_lt_two_pow h (Nat.lt_of_le_of_lt Nat.and_le_left h)
theorem andNot_u64 (s g:Nat) (hs:s < 2 ^ 60) (hg:g < 2 ^ 60):bits .andNot .u64 (s:Int) (g:Int) = ((diffN s g:Nat):Int):=by
  have h1:(BitVec.ofInt 64 (s:Int)).toNat = s:=by
    rw [BitVec.ofInt_natCast,BitVec.toNat_ofNat]; exact Nat.mod_eq_of_lt (by omega)
  have h2:(BitVec.ofInt 64 (g:Int)).toNat = g:=by
    rw [BitVec.ofInt_natCast,BitVec.toNat_ofNat]; exact Nat.mod_eq_of_lt (by omega)
  have h3:s &&& (2 ^ 64 - (g + 1)) = diffN s g:=by
    apply Nat.eq_of_testBit_eq
    intro i
    rw [Nat.testBit_and,Nat.testBit_two_pow_sub_succ (by omega),diffN_test]
    rcases Nat.lt_or_ge i 64 with h | h
    · simp [h]
    · rw [Nat.testBit_lt_two_pow (Nat.lt_of_lt_of_le hs (Nat.pow_le_pow_right (by omega) (by omega)))]; simp
  have hd:=diffN_lt g hs
  show IntKind.u64.wrap ((BitVec.ofInt 64 (s:Int) &&& ~~~ BitVec.ofInt 64 (g:Int)).toNat:Int) = _
  rw [BitVec.toNat_and,BitVec.toNat_not,h1,h2,show 2 ^ 64 - 1 - g = 2 ^ 64 - (g + 1) by omega,h3]
  exact u64_small _ (Int.natCast_nonneg _) (by exact_mod_cast hd)
theorem andNot_i64 (s g:Nat) (hs:s < 2 ^ 60) (hg:g < 2 ^ 60):Go.bits .andNot .i64 (s:Int) (g:Int) = ((diffN s g:Nat):Int):=by
  have h1:(BitVec.ofInt 64 (s:Int)).toNat = s:=by
    rw [BitVec.ofInt_natCast,BitVec.toNat_ofNat]; exact Nat.mod_eq_of_lt (by omega)
  have h2:(BitVec.ofInt 64 (g:Int)).toNat = g:=by
    rw [BitVec.ofInt_natCast,BitVec.toNat_ofNat]; exact Nat.mod_eq_of_lt (by omega)
  have h3:s &&& (2 ^ 64 - (g + 1)) = diffN s g:=by
    apply Nat.eq_of_testBit_eq
    intro i
    rw [Nat.testBit_and,Nat.testBit_two_pow_sub_succ (by omega),diffN_test]
    rcases Nat.lt_or_ge i 64 with h | h
    · simp [h]
    · rw [Nat.testBit_lt_two_pow (Nat.lt_of_lt_of_le hs (Nat.pow_le_pow_right (by omega) (by omega)))]; simp
  have hd:=diffN_lt g hs
  show IntKind.i64.wrap ((BitVec.ofInt 64 (s:Int) &&& ~~~ BitVec.ofInt 64 (g:Int)).toNat:Int) = _
  rw [BitVec.toNat_and,BitVec.toNat_not,h1,h2,show 2 ^ 64 - 1 - g = 2 ^ 64 - (g + 1) by omega,h3]
  exact i64_small _ (Int.natCast_nonneg _) (by exact_mod_cast hd)


def TwoB (cs:List Value):Prop:=∀ u v,cs[2]? = some u → cs[3]? = some v → ∀ k:Nat,some k = (u:Value).ownBlock → some k ≠ (v:Value).ownBlock
def kF:Kd S36 where
  sz:=k36.sz
  E:=k36.E
  K:=k36.K
  M:=fun w base ok x cs => k36.M w base ok x cs ∧ TwoB cs
  K_len:=fun h => k36.K_len h
  K_one:=fun h => k36.K_one h
  K_below:=fun hb h => k36.K_below hb h
  K_of_M:=fun h => k36.K_of_M h.1
  M_mono:=fun hok h => ⟨k36.M_mono hok h.1,h.2⟩
  M_bound:=fun h => ⟨k36.M_bound h.1,h.2⟩
  M_move:=fun hm h => ⟨k36.M_move hm h.1,h.2⟩
  M_lower:=fun hb h => ⟨k36.M_lower hb h.1,h.2⟩
theorem kF_openM {w:World} {base:Nat} {ok:Nat → Prop} {x:S36} {cs:List Value} (h:kF.M w base ok x cs):∃ v2 v3:Value,cs = [.int .i64 x.f0,.int .i64 x.f1,v2,v3] ∧ (Kd.int .i64).R 3 w base ok v2 x.f2 ∧ (Kd.int .i64).R 3 w base ok v3 x.f3 ∧ ∀ k:Nat,some k = v2.ownBlock → some k ≠ v3.ownBlock:=by
  obtain ⟨v2,v3,rfl,h2,h3⟩:=k36_openM h.1
  exact ⟨v2,v3,rfl,h2,h3,h.2 v2 v3 rfl rfl⟩
theorem kF_mkM (w:World) (base:Nat) (ok:Nat → Prop) (x:S36) {v2 v3:Value} (gg2:(Kd.int .i64).R 3 w base ok v2 x.f2) (gg3:(Kd.int .i64).R 3 w base ok v3 x.f3) (hne:∀ k:Nat,some k = v2.ownBlock → some k ≠ v3.ownBlock):kF.M w base ok x [.int .i64 x.f0,.int .i64 x.f1,v2,v3] :=
  ⟨k36_mkM w base ok x gg2 gg3,fun u v hu hv => by
    cases hu
    cases hv
    exact hne⟩

end Go.Proofs.YtehjfaddhmdicaaDoor.P
namespace Go.Proofs.YtehjfaddhmdicaaDoor.P
open Go.RowKit Go.Proofs.YtehjfaddhmdicaaDoorW.PrintWords Go.Proofs.YtehjfaddhmdicaaDoorW.PrintLast Go.Proofs.YtehjfaddhmdicaaDoorW.PrintMore
attribute [local go_sem] max2_int min2_int max_two min_two max_three min_three max_four min_four   -- for this text's walks alone
set_option linter.unusedVariables false
set_option linter.unusedSimpArgs false

section
open Go.Maps
def heldR (v:Value):Option (DataW Value × List MemPlace):=some (.held v,[])
def MapIs {κ:Type} (w:World) (P:Program) (k b m:Nat) (en:κ → Value) (f:κ → Option Value):Prop :=
  ∃ D:DataW Value,w.ownsMap P k heldR b m D ∧ Maps.size D = m ∧ ∀ c kl,keyOf P k (en c) = some kl → Maps.has D kl = (f c).isSome ∧ ∀ z,D.atKey kl (.held z) = .held ((f c).getD z)
section
variable {κ:Type} {w w1:World} {P:Program} {k b m:Nat} {en:κ → Value} {f:κ → Option Value}
theorem MapIs.made (w:World) (P:Program) (k:Nat) (en:κ → Value):MapIs (w.alloc (.map #[] 0)) P k w.heap.size 0 en (fun _ => none) :=
  ⟨.map [],World.ownsMap_made w P k heldR,rfl,fun c kl _ => ⟨rfl,fun z => rfl⟩⟩
theorem MapIs.lt (h:MapIs w P k b m en f):b < w.heap.size:=by
  obtain ⟨D,h,_⟩:=h
  exact h.lt
theorem MapIs.move (h:MapIs w P k b m en f) (hm:w1.heap[b]? = w.heap[b]?):MapIs w1 P k b m en f:=by
  obtain ⟨D,⟨es,clock,hb,F,hs,hD⟩,h2⟩:=h
  exact ⟨D,⟨es,clock,hm.trans hb,F,hs,hD⟩,h2⟩
theorem MapIs.below (h:MapIs w P k b m en f) (hb:Below w.heap.size w w1):MapIs w1 P k b m en f:=h.move (hb.block b h.lt)
theorem MapIs.alloc (h:MapIs w P k b m en f) (o:Obj):MapIs (w.alloc o) P k b m en f:=h.below ((Below.refl _ _).alloc (Nat.le_refl _) o)
theorem MapIs.congr (h:MapIs w P k b m en f) {g:κ → Option Value} (hg:∀ c kl,keyOf P k (en c) = some kl → g c = f c):MapIs w P k b m en g:=by
  obtain ⟨D,h1,h2,h3⟩:=h
  exact ⟨D,h1,h2,fun c kl hk => by rw [hg c kl hk]; exact h3 c kl hk⟩
theorem MapIs.len (h:MapIs w P k b m en f) {t e:TypeId} (ht:P.underlying t = some (.map k e)) (ty:TypeId):(Builtin.len_ #[t] ty #[.map (some b)]).run P w = .ok (.int .i64 m) w:=by
  obtain ⟨D,h1,h2,_⟩:=h
  rw [h1.len ht ty,h2]
theorem MapIs.store [DecidableEq κ] (h:MapIs w P k b m en f) (K:Keyed P k) {t e:TypeId} (ht:P.underlying t = some (.map k e)) (hn:m < maxLen) (hinj:∀ a c,en a = en c → a = c) {c:κ} {kl:Lit} (hkey:keyOf P k (en c) = some kl) (v:Value) :
    ∃ w',(Instr.mapUpdate t (.map (some b)) (en c) v).run P w = .ok () w' ∧ MapIs w' P k b (if (f c).isSome then m else m + 1) en (fun a => if a = c then some v else f a) ∧ w.mapTurned w' b:=by
  obtain ⟨D,h1,h2,h3⟩:=h
  obtain ⟨w',hrun,ho,ht'⟩:=h1.store K ht hn hkey (d:=.held v) (ps:=[]) rfl
  have hsz:Maps.size (D.put kl (.held v)) = if (f c).isSome then m else m + 1:=by
    rw [size_put (h1.tidy K),(h3 c kl hkey).1,h2]
  refine ⟨w',hrun,⟨D.put kl (.held v),?_,hsz,fun a la hla => ?_⟩,ht'⟩
  · obtain ⟨es,clock,hb,F,hs,hD⟩:=ho
    refine ⟨es,clock,hb,F,?_,hD⟩
    have e1:Maps.size (D.put kl (.held v)) = es.size:=by rw [hD]; simp [Maps.size,length_sorted]
    rw [← hsz,e1]
    exact Nat.le_refl _
  · by_cases hac:a = c
    · subst hac
      have:la = kl:=Option.some.inj (hla.symm.trans hkey)
      subst this
      simp only [if_true]
      exact ⟨has_put_same h1.isMap (K.key hkey) _,fun z => atKey_put_same h1.isMap (K.key hkey) _ _⟩
    · simp only [if_neg hac]
      have hne:la ≠ kl:=fun e => hac (hinj _ _ (K.inj (e ▸ hla) hkey))
      exact ⟨(has_put_other hne _).trans (h3 a la hla).1,fun z => (atKey_put_other hne _ _).trans ((h3 a la hla).2 z)⟩
theorem MapIs.drop [DecidableEq κ] (h:MapIs w P k b m en f) (K:Keyed P k) {t e:TypeId} (ht:P.underlying t = some (.map k e)) (hinj:∀ a c,en a = en c → a = c) {c:κ} {kl:Lit} (hkey:keyOf P k (en c) = some kl) (ty:TypeId) :
    ∃ w',(Builtin.delete_ #[t,k] ty #[.map (some b),en c]).run P w = .ok (.tuple #[]) w' ∧ MapIs w' P k b (if (f c).isSome then m - 1 else m) en (fun a => if a = c then none else f a) ∧ w.mapTurned w' b:=by
  obtain ⟨D,h1,h2,h3⟩:=h
  obtain ⟨w',hrun,ho,ht'⟩:=h1.drop K ht hkey ty
  have hsz:Maps.size (D.del kl) = if (f c).isSome then m - 1 else m:=by
    have:=size_del (k:=kl) (h1.tidy K)
    rw [(h3 c kl hkey).1,h2] at this
    split at this <;> rename_i hx <;> simp [hx] <;> omega
  refine ⟨w',hrun,⟨D.del kl,?_,hsz,fun a la hla => ?_⟩,ht'⟩
  · obtain ⟨es,clock,hb,F,hs,hD⟩:=ho
    refine ⟨es,clock,hb,F,?_,hD⟩
    have e1:Maps.size (D.del kl) = es.size:=by rw [hD]; simp [Maps.size,length_sorted]
    rw [← hsz,e1]
    exact Nat.le_refl _
  · by_cases hac:a = c
    · subst hac
      have:la = kl:=Option.some.inj (hla.symm.trans hkey)
      subst this
      simp only [if_true]
      exact ⟨has_del_same,fun z => atKey_del_same _⟩
    · simp only [if_neg hac]
      have hne:la ≠ kl:=fun e => hac (hinj _ _ (K.inj (e ▸ hla) hkey))
      exact ⟨(has_del_other hne).trans (h3 a la hla).1,fun z => (atKey_del_other hne _).trans ((h3 a la hla).2 z)⟩
end
end

end Go.Proofs.YtehjfaddhmdicaaDoor.P
namespace Go.Proofs.YtehjfaddhmdicaaDoor.P
open Go.RowKit Go.Proofs.YtehjfaddhmdicaaDoorW.PrintWords Go.Proofs.YtehjfaddhmdicaaDoorW.PrintLast Go.Proofs.YtehjfaddhmdicaaDoorW.PrintMore
attribute [local go_sem] max2_int min2_int max_two min_two max_three min_three max_four min_four   -- for this text's walks alone
set_option linter.unusedVariables false
set_option linter.unusedSimpArgs false

def bits_OnesCount64.f (a0:Int):Option (Int):=some (Go.bits .and .i64 (wrap64 (IntKind.u64.wrap ((IntKind.u64.wrap ((IntKind.u64.wrap ((Go.bits .and .u64 (IntKind.u64.wrap (((IntKind.u64.wrap ((Go.bits .and .u64 ((IntKind.u64.wrap ((Go.bits .and .u64 (a0 / 2) 6148914691236517205) + (Go.bits .and .u64 a0 6148914691236517205))) / 4) 3689348814741910323) + (Go.bits .and .u64 (IntKind.u64.wrap ((Go.bits .and .u64 (a0 / 2) 6148914691236517205) + (Go.bits .and .u64 a0 6148914691236517205))) 3689348814741910323))) / 16) + (IntKind.u64.wrap ((Go.bits .and .u64 ((IntKind.u64.wrap ((Go.bits .and .u64 (a0 / 2) 6148914691236517205) + (Go.bits .and .u64 a0 6148914691236517205))) / 4) 3689348814741910323) + (Go.bits .and .u64 (IntKind.u64.wrap ((Go.bits .and .u64 (a0 / 2) 6148914691236517205) + (Go.bits .and .u64 a0 6148914691236517205))) 3689348814741910323))))) 1085102592571150095) + ((Go.bits .and .u64 (IntKind.u64.wrap (((IntKind.u64.wrap ((Go.bits .and .u64 ((IntKind.u64.wrap ((Go.bits .and .u64 (a0 / 2) 6148914691236517205) + (Go.bits .and .u64 a0 6148914691236517205))) / 4) 3689348814741910323) + (Go.bits .and .u64 (IntKind.u64.wrap ((Go.bits .and .u64 (a0 / 2) 6148914691236517205) + (Go.bits .and .u64 a0 6148914691236517205))) 3689348814741910323))) / 16) + (IntKind.u64.wrap ((Go.bits .and .u64 ((IntKind.u64.wrap ((Go.bits .and .u64 (a0 / 2) 6148914691236517205) + (Go.bits .and .u64 a0 6148914691236517205))) / 4) 3689348814741910323) + (Go.bits .and .u64 (IntKind.u64.wrap ((Go.bits .and .u64 (a0 / 2) 6148914691236517205) + (Go.bits .and .u64 a0 6148914691236517205))) 3689348814741910323))))) 1085102592571150095) / 256))) + ((IntKind.u64.wrap ((Go.bits .and .u64 (IntKind.u64.wrap (((IntKind.u64.wrap ((Go.bits .and .u64 ((IntKind.u64.wrap ((Go.bits .and .u64 (a0 / 2) 6148914691236517205) + (Go.bits .and .u64 a0 6148914691236517205))) / 4) 3689348814741910323) + (Go.bits .and .u64 (IntKind.u64.wrap ((Go.bits .and .u64 (a0 / 2) 6148914691236517205) + (Go.bits .and .u64 a0 6148914691236517205))) 3689348814741910323))) / 16) + (IntKind.u64.wrap ((Go.bits .and .u64 ((IntKind.u64.wrap ((Go.bits .and .u64 (a0 / 2) 6148914691236517205) + (Go.bits .and .u64 a0 6148914691236517205))) / 4) 3689348814741910323) + (Go.bits .and .u64 (IntKind.u64.wrap ((Go.bits .and .u64 (a0 / 2) 6148914691236517205) + (Go.bits .and .u64 a0 6148914691236517205))) 3689348814741910323))))) 1085102592571150095) + ((Go.bits .and .u64 (IntKind.u64.wrap (((IntKind.u64.wrap ((Go.bits .and .u64 ((IntKind.u64.wrap ((Go.bits .and .u64 (a0 / 2) 6148914691236517205) + (Go.bits .and .u64 a0 6148914691236517205))) / 4) 3689348814741910323) + (Go.bits .and .u64 (IntKind.u64.wrap ((Go.bits .and .u64 (a0 / 2) 6148914691236517205) + (Go.bits .and .u64 a0 6148914691236517205))) 3689348814741910323))) / 16) + (IntKind.u64.wrap ((Go.bits .and .u64 ((IntKind.u64.wrap ((Go.bits .and .u64 (a0 / 2) 6148914691236517205) + (Go.bits .and .u64 a0 6148914691236517205))) / 4) 3689348814741910323) + (Go.bits .and .u64 (IntKind.u64.wrap ((Go.bits .and .u64 (a0 / 2) 6148914691236517205) + (Go.bits .and .u64 a0 6148914691236517205))) 3689348814741910323))))) 1085102592571150095) / 256))) / 65536))) + ((IntKind.u64.wrap ((IntKind.u64.wrap ((Go.bits .and .u64 (IntKind.u64.wrap (((IntKind.u64.wrap ((Go.bits .and .u64 ((IntKind.u64.wrap ((Go.bits .and .u64 (a0 / 2) 6148914691236517205) + (Go.bits .and .u64 a0 6148914691236517205))) / 4) 3689348814741910323) + (Go.bits .and .u64 (IntKind.u64.wrap ((Go.bits .and .u64 (a0 / 2) 6148914691236517205) + (Go.bits .and .u64 a0 6148914691236517205))) 3689348814741910323))) / 16) + (IntKind.u64.wrap ((Go.bits .and .u64 ((IntKind.u64.wrap ((Go.bits .and .u64 (a0 / 2) 6148914691236517205) + (Go.bits .and .u64 a0 6148914691236517205))) / 4) 3689348814741910323) + (Go.bits .and .u64 (IntKind.u64.wrap ((Go.bits .and .u64 (a0 / 2) 6148914691236517205) + (Go.bits .and .u64 a0 6148914691236517205))) 3689348814741910323))))) 1085102592571150095) + ((Go.bits .and .u64 (IntKind.u64.wrap (((IntKind.u64.wrap ((Go.bits .and .u64 ((IntKind.u64.wrap ((Go.bits .and .u64 (a0 / 2) 6148914691236517205) + (Go.bits .and .u64 a0 6148914691236517205))) / 4) 3689348814741910323) + (Go.bits .and .u64 (IntKind.u64.wrap ((Go.bits .and .u64 (a0 / 2) 6148914691236517205) + (Go.bits .and .u64 a0 6148914691236517205))) 3689348814741910323))) / 16) + (IntKind.u64.wrap ((Go.bits .and .u64 ((IntKind.u64.wrap ((Go.bits .and .u64 (a0 / 2) 6148914691236517205) + (Go.bits .and .u64 a0 6148914691236517205))) / 4) 3689348814741910323) + (Go.bits .and .u64 (IntKind.u64.wrap ((Go.bits .and .u64 (a0 / 2) 6148914691236517205) + (Go.bits .and .u64 a0 6148914691236517205))) 3689348814741910323))))) 1085102592571150095) / 256))) + ((IntKind.u64.wrap ((Go.bits .and .u64 (IntKind.u64.wrap (((IntKind.u64.wrap ((Go.bits .and .u64 ((IntKind.u64.wrap ((Go.bits .and .u64 (a0 / 2) 6148914691236517205) + (Go.bits .and .u64 a0 6148914691236517205))) / 4) 3689348814741910323) + (Go.bits .and .u64 (IntKind.u64.wrap ((Go.bits .and .u64 (a0 / 2) 6148914691236517205) + (Go.bits .and .u64 a0 6148914691236517205))) 3689348814741910323))) / 16) + (IntKind.u64.wrap ((Go.bits .and .u64 ((IntKind.u64.wrap ((Go.bits .and .u64 (a0 / 2) 6148914691236517205) + (Go.bits .and .u64 a0 6148914691236517205))) / 4) 3689348814741910323) + (Go.bits .and .u64 (IntKind.u64.wrap ((Go.bits .and .u64 (a0 / 2) 6148914691236517205) + (Go.bits .and .u64 a0 6148914691236517205))) 3689348814741910323))))) 1085102592571150095) + ((Go.bits .and .u64 (IntKind.u64.wrap (((IntKind.u64.wrap ((Go.bits .and .u64 ((IntKind.u64.wrap ((Go.bits .and .u64 (a0 / 2) 6148914691236517205) + (Go.bits .and .u64 a0 6148914691236517205))) / 4) 3689348814741910323) + (Go.bits .and .u64 (IntKind.u64.wrap ((Go.bits .and .u64 (a0 / 2) 6148914691236517205) + (Go.bits .and .u64 a0 6148914691236517205))) 3689348814741910323))) / 16) + (IntKind.u64.wrap ((Go.bits .and .u64 ((IntKind.u64.wrap ((Go.bits .and .u64 (a0 / 2) 6148914691236517205) + (Go.bits .and .u64 a0 6148914691236517205))) / 4) 3689348814741910323) + (Go.bits .and .u64 (IntKind.u64.wrap ((Go.bits .and .u64 (a0 / 2) 6148914691236517205) + (Go.bits .and .u64 a0 6148914691236517205))) 3689348814741910323))))) 1085102592571150095) / 256))) / 65536))) / 4294967296)))) 127)

def popB:Nat → Nat → Nat
  | 0,_ => 0
  | n + 1,X => X % 2 + popB n (X / 2)
def t1 (b:Nat):Nat:=(b / 2 &&& 85) + (b &&& 85)
def t2 (b:Nat):Nat:=(b / 4 &&& 51) + (b &&& 51)
theorem popB_zero:∀ n,popB n 0 = 0
  | 0 => rfl
  | n + 1 => by rw [popB,popB_zero n]
theorem popB_le:∀ n X,popB n X ≤ n
  | 0,_ => Nat.le_refl _
  | n + 1,X => by have:=popB_le n (X / 2); rw [popB]; omega

theorem R_lit0 {α:Type} (d:Kd α) (e:Nat) (W:World) (base:Nat) (hb:base ≤ W.heap.size):d.R e (W.alloc (.cells #[] e)) base (fun k => k = W.heap.size) (.slice (some ⟨W.heap.size,0,none⟩) 0 0) ([]:List α):=by
  refine ⟨fun k hk => by simpa [Value.ownBlock] using hk.symm,[],?_,Reps.none _ _⟩
  have h:=World.ownsRow_lit (base:=base) (e:=e) (size:=d.sz) W #[] 0 hb (by simp [maxLen]) (by simp)
  simpa using h
theorem lit1_C {α:Type} (enc:α → Value) (h1:∀ x,(enc x).oneCell' = true) (e:Nat) (W:World) (x:α):(Kd.scalar enc h1).C (W.alloc (.cells #[enc x] e)) (some ⟨W.heap.size,0,none⟩) 1 [x]:=by
  refine Kd.C_of_reads (enc:=enc) (d:=x) (h1:=h1) ⟨rfl,by omega,fun _ => ⟨_,rfl,fun j hj => ?_⟩⟩
  obtain rfl:j = 0:=by omega
  exact World.cell?_alloc_at _ _ _ _ rfl
theorem equalIn_some_nil {P:Program} {t e:TypeId} (h:P.underlying t = some (.slice e)) (w:World) (d:Nat) (a:Addr) (n c n' c':Nat) :
    (Op.equalIn (d + 1) t (.slice (some a) n c) (.slice none n' c')).run P w = .ok false w:=by
  simp [Op.equalIn,run_underlying h]
theorem eql_some_nil {P:Program} {t e:TypeId} (h:P.underlying t = some (.slice e)) (w:World) (a:Addr) (n c:Nat) :
    (binOp .eql t (.slice (some a) n c) (.slice none 0 0)).run P w = .ok (.bool false) w:=by
  simp only [binOp]
  simp [Op.equal,Op.maxDepth,equalIn_some_nil h w 9999 a n c 0 0]
theorem equalIn_none_nil {P:Program} {t e:TypeId} (h:P.underlying t = some (.slice e)) (w:World) (d:Nat) (n c n' c':Nat) :
    (Op.equalIn (d + 1) t (.slice none n c) (.slice none n' c')).run P w = .ok true w:=by
  simp [Op.equalIn,run_underlying h]
theorem eql_none_nil {P:Program} {t e:TypeId} (h:P.underlying t = some (.slice e)) (w:World) (n c:Nat) :
    (binOp .eql t (.slice none n c) (.slice none 0 0)).run P w = .ok (.bool true) w:=by
  simp only [binOp]
  simp [Op.equal,Op.maxDepth,equalIn_none_nil h w 9999 n c 0 0]


def TBM (w:World):Prop:=True
theorem TBM.below {w w':World} (h:TBM w) (hb:Below w.heap.size w w'):TBM w':=by
  first
    | exact trivial
    | (obtain ⟨m,hm⟩:=h; exact ⟨m,pw_cell_below hb hm⟩)
def TB (w:World):Prop:=(∀ j,j < 64 → w.cell? ⟨0,j,none⟩ = some (.int .u8 (Lib.deBruijn64tab.getD j 0))) ∧ TBM w
theorem TB.below {w w':World} (h:TB w) (hb:Below w.heap.size w w'):TB w':=⟨fun j hj => pw_cell_below hb (h.1 j hj),h.2.below hb⟩
theorem TB.lt {w:World} (h:TB w):0 < w.heap.size:=wl_ w _ (h.1 0 (by omega))
theorem tz_key (x a:Nat) (hx:x < 18446744073709551616) (hx0:x ≠ 0) (hlow:x &&& (18446744073709551616 - x) = a) :
    IntKind.u64.wrap (bits BinOp.and IntKind.u64 (x:Int) (IntKind.u64.wrap (-(x:Int))) * 285870213051353865) / 288230376151711744 = ((a * 285870213051353865 % 18446744073709551616 / 288230376151711744:Nat):Int):=by
  have e1:IntKind.u64.wrap (-(x:Int)) = ((18446744073709551616 - x:Nat):Int):=by rw [IntKind.wrap_u64]; omega
  rw [e1,bits_and_u64_nat x _ hx (by omega),hlow,IntKind.wrap_u64]
  omega
set_option maxHeartbeats 1000000 in
theorem tz_core (x k idx:Nat) (w:World) (hx0:((x:Int) == 0) = false)
    (key:IntKind.u64.wrap (bits BinOp.and IntKind.u64 (x:Int) (IntKind.u64.wrap (-(x:Int))) * 285870213051353865) / 288230376151711744 = (idx:Int))
    (hi:idx < 64) (hk:k < 64) (hcell:w.cell? ⟨0,idx,none⟩ = some (.int .u8 k)) :
    Calls Tryd.prog 126 #[.int .u64 x] w fun e w' => e = .returned (.int .i64 k) ∧ w' = w:=by
  go_enter Tryd.func126,Tryd.ntmps126
  go_wp2_with (simp only [key])
  go_ret
  exact ⟨rfl,rfl⟩
theorem tz_any (x:Nat) (hx:x < 2 ^ 60) (hx0:x ≠ 0) (w:World) (hT:TB w) :
    Calls Tryd.prog 126 #[.int .u64 x] w fun e w' => e = .returned (.int .i64 (Lib.ctz 64 x)) ∧ w = w':=by
  have hx2:x < 18446744073709551616:=by omega
  obtain ⟨hlow,hk⟩:=Lib.lowest_bit 64 x hx0 hx2
  obtain ⟨hi,htab⟩:=Lib.deBruijn64_at _ hk
  have hcell:=hT.1 _ hi
  rw [htab] at hcell
  exact (tz_core x _ _ w (by simp; omega) (tz_key x _ hx2 hx0 hlow) hi hk hcell).mono fun _ _ h => ⟨h.1,h.2.symm⟩


def bitsN (s:Nat):List Nat:=(List.range 64).filter fun i => s.testBit i
theorem filter_first {p q:Nat → Bool} {k n:Nat} (hk:k < n) (hp:p k = true) (h0:∀ i,i < k → p i = false) (hq:∀ i,q i = (p i && !(i == k))):(List.range n).filter p = k :: (List.range n).filter q:=by
  have e:List.range n = List.range k ++ k :: List.range' (k + 1) (n - k - 1):=by
    rw [List.range_eq_range',List.range_eq_range',show k :: List.range' (k + 1) (n - k - 1) = List.range' k (n - k - 1 + 1) from (List.range'_succ (s:=k) (n:=n - k - 1) (step:=1)).symm]
    have:=List.range'_append_1 (s:=0) (m:=k) (n:=n - k - 1 + 1)
    rw [Nat.zero_add] at this
    rw [this]
    congr 1
    omega
  rw [e,List.filter_append,List.filter_append,List.filter_cons_of_pos hp,List.filter_cons_of_neg (by rw [hq]; simp)]
  have a1:(List.range k).filter p = []:=by
    rw [List.filter_eq_nil_iff]; intro i hi; rw [h0 i (List.mem_range.1 hi)]; simp
  have a2:(List.range k).filter q = []:=by
    rw [List.filter_eq_nil_iff]; intro i hi; rw [hq,h0 i (List.mem_range.1 hi)]; simp
  rw [a1,a2,List.nil_append,List.nil_append]
  congr 1
  apply List.filter_congr
  intro i hi
  rw [hq]
  have:i ≠ k:=by
    rw [List.mem_range'_1] at hi; omega
  simp [this]
theorem low_bits (s:Nat) (h0:s ≠ 0) (h:s < 2 ^ 60):Lib.ctz 64 s < 60 ∧ s.testBit (Lib.ctz 64 s) = true ∧ (∀ i,i < Lib.ctz 64 s → s.testBit i = false) ∧ (∀ i,(s &&& (s - 1)).testBit i = (s.testBit i && !(i == Lib.ctz 64 s))) ∧ s &&& (s - 1) < s:=by
  obtain ⟨m,hm,hk⟩:=Lib.ctzFrom_spec 64 s (by omega) (Nat.lt_of_lt_of_le h (by decide))
  have e:Lib.ctz 64 s = Lib.ctzFrom 64 s:=by unfold Lib.ctz; rw [if_neg h0]
  rw [e]
  generalize Lib.ctzFrom 64 s = k at hm hk
  have hp:0 < 2 ^ k:=Nat.two_pow_pos k
  have hs1:s - 1 = 2 ^ k * (2 * m) + (2 ^ k - 1):=by
    rw [hm,Nat.mul_add]; omega
  have t1:∀ i,s.testBit i = (decide (k ≤ i) && (2 * m + 1).testBit (i - k)):=fun i => by rw [hm,Nat.testBit_two_pow_mul]
  have t2:∀ i,(s - 1).testBit i = if i < k then (2 ^ k - 1).testBit i else (2 * m).testBit (i - k):=fun i => by rw [hs1,Nat.testBit_two_pow_mul_add _ (by omega)]
  have odd0:(2 * m + 1).testBit 0 = true:=by simp
  refine ⟨?_,?_,?_,?_,?_⟩
  · rcases Nat.lt_or_ge k 60 with hlt | hge
    · exact hlt
    · exfalso
      have h1:2 ^ 60 ≤ 2 ^ k:=Nat.pow_le_pow_right (by omega) hge
      have h2:2 ^ k * 1 ≤ 2 ^ k * (2 * m + 1):=Nat.mul_le_mul_left _ (by omega)
      omega
  · rw [t1]; simp
  · intro i hi; rw [t1]; simp; omega
  · intro i
    rw [Nat.testBit_and,t1,t2]
    rcases Nat.lt_trichotomy i k with hi | hi | hi
    · simp [show ¬ k ≤ i by omega]
    · subst hi; simp
    · obtain ⟨j,hj⟩:∃ j,i - k = j + 1:=⟨i - k - 1,by omega⟩
      rw [if_neg (by omega),hj,Nat.testBit_succ,Nat.testBit_succ,show (2 * m + 1) / 2 = m by omega,show 2 * m / 2 = m by omega]
      simp [show k ≤ i by omega,show i ≠ k by omega]
  · have:=Nat.and_le_right (n:=s) (m:=s - 1)
    omega
theorem bitsN_step (s:Nat) (h0:s ≠ 0) (h:s < 2 ^ 60):bitsN s = Lib.ctz 64 s :: bitsN (s &&& (s - 1)):=by
  obtain ⟨h1,h2,h3,h4,_⟩:=low_bits s h0 h
  exact filter_first (by omega) h2 h3 h4
theorem bitsN_zero:bitsN 0 = []:=by decide
theorem bitsN_len (s:Nat):(bitsN s).length ≤ 64:=Nat.le_trans (List.length_filter_le _ _) (by simp)
def bitsI (s:Nat):List Int:=(bitsN s).map fun n:Nat => (n:Int)
theorem bitsI_len (s:Nat):(bitsI s).length ≤ 64:=by unfold bitsI; rw [List.length_map]; exact bitsN_len s
set_option maxRecDepth 100000 in
set_option maxHeartbeats 4000000 in
theorem listed_any (s:Nat) (hs:s < 2 ^ 60) (w:World) (hT:TB w) :
    Calls Tryd.prog 89 #[.int .u64 s] w fun e w' => ∃ v,e = .returned v ∧ Kd.R (Kd.int .i64) 3 w' w.heap.size (fun _ => True) v (bitsI s) ∧ Below w.heap.size w w':=by
  have HT:=am_ hT
  have hi5:(Tryd.prog.info? 3).map (fun i => (i.zero,i.size,i.bytes)) = some (some (.int .i64 0),1,8):=by kernel_rfl
  have R0:Aside0 (Kd.R (Kd.int .i64) 3 (w.alloc (.cells #[] 3)) w.heap.size (fun _ => True) (.slice (some ⟨w.heap.size,0,none⟩) 0 0) []):=⟨Kd.R_mono (R_lit0 (Kd.int .i64) 3 w w.heap.size (Nat.le_refl _)) (fun _ _ => trivial)⟩
  have B0:=am_ (below_alloc (Below.refl w.heap.size w) (.cells #[] 3))
  have S0:Aside0 (([]:List Int) ++ bitsI s = bitsI s ∧ s < 2 ^ 60):=⟨rfl,hs⟩
  clear hT hs
  go_enter Tryd.func89,Tryd.ntmps89
  go_wp2_with fail
  go_loopg [0,3] s (fun gg u0 u3 wr => ∃ (t:Nat) (acc:List Int),t ≤ gg ∧ u0 = .int .u64 t ∧ Aside0 (acc ++ bitsI t = bitsI s ∧ t < 2 ^ 60) ∧ Aside0 (Kd.R (Kd.int .i64) 3 wr w.heap.size (fun _ => True) u3 acc) ∧ Aside0 (Below w.heap.size w wr))
  case atStart => exact ⟨s,[],Nat.le_refl _,rfl,S0,R0,B0⟩
  case round =>
    clear S0 R0 B0
    obtain ⟨t,acc,hgg,rfl,HS,HO,HB⟩:=hrel
    by_cases ht:t = 0
    · subst ht
      have HF:Aside0 (acc = bitsI s):=⟨by have h:=HS.out.1; rw [show bitsI 0 = [] from by unfold bitsI; rw [bitsN_zero]; rfl,List.append_nil] at h; exact h⟩
      go_wp2_with fail
      go_ret
      exact ⟨_,rfl,by rw [← HF.out]; exact HO.out,HB.out⟩
    · have ht60:=HS.out.2
      have hlen:acc.length ≤ 64:=by
        have h:=congrArg List.length HS.out.1
        have:=bitsI_len s
        simp at h
        omega
      obtain ⟨-,-,-,-,hlt⟩:=low_bits t ht ht60
      have hstep:=bitsN_step t ht ht60
      have hgt:decide (0 < (t:Int)) = true:=by simp; omega
      have hsub:IntKind.u64.wrap ((t:Int) - 1) = ((t - 1:Nat):Int):=by rw [IntKind.wrap_u64]; omega
      have hand:bits BinOp.and IntKind.u64 (t:Int) ((t - 1:Nat):Int) = ((t &&& (t - 1):Nat):Int):=bits_and_u64_nat t (t - 1) (by omega) (by omega)
      have HS2:Aside0 ((acc ++ [(Lib.ctz 64 t:Int)]) ++ bitsI (t &&& (t - 1)) = bitsI s ∧ t &&& (t - 1) < 2 ^ 60):=⟨by rw [← HS.out.1]; unfold bitsI; rw [hstep]; simp,by omega⟩
      have HTZ:=am_ (fun W (h:TB W) => tz_any t ht60 ht W h)
      have HL:=am_ hlen
      have HT1:=am_ (HT.out.below HB.out)
      clear ht60 hlen hstep HS
      generalize Lib.ctz 64 t = z at HS2 HTZ
      go_wp2_with (first
        | (go_at_call 126; refine (HTZ.out _ HT1.out).mono ?_; rintro e w' ⟨rfl,rfl⟩)
        | (at_builtin; refine Kd.R_append_row (w0:=w) (h1:=fun _ => rfl) (Value.int .i64) (0:Int) w.heap.size rfl _ _ _ _ _ 8 rfl Tryd.underlying22 hi5 rfl (by decide) u3 acc [(z:Int)] _ 1 _ (fun _ => True) rfl rfl (fun _ _ => trivial) ?xA ?xB ?xC ?xD ?xE ?_; (case xA => exact Kd.R_alloc HO.out _); (case xB => exact lit1_C (Value.int .i64) _ _ wr _); (case xC => exact below_alloc HB.out _); (case xD => have h_:=HB.out.size; simp; omega); (case xE => have h_:=HL.out; omega); intro v1 w1 ho hb hg hat; have HO1:=am_ ho; have HB1:=am_ hb; clear ho hb hg hat))
      go_roundg (t &&& (t - 1))
      case measure => omega
      case rel => exact ⟨t &&& (t - 1),acc ++ [(z:Int)],Nat.le_refl _,rfl,HS2,HO1,HB1⟩
def impl_set_listed.f (a0:Int):Option (List Int):=if 0 ≤ a0 ∧ a0 < 1152921504606846976 then some (bitsI a0.toNat) else none
theorem impl_set_listed.calls (a0:Int) (r:List Int) (w:World) (hT_:TB w) (h:impl_set_listed.f a0 = some r) :
    Calls Tryd.prog 89 #[.int .u64 a0] w fun e w' => ∃ v0_:Value,e = .returned v0_ ∧ Kd.R (Kd.int .i64) 3 w' w.heap.size (fun _ => True) v0_ r ∧ Below w.heap.size w w':=by
  unfold impl_set_listed.f at h
  split at h
  · rename_i h0
    obtain rfl:=Option.some.inj h
    obtain ⟨n,rfl⟩:=Int.eq_ofNat_of_zero_le h0.1
    rw [Int.toNat_natCast]
    exact listed_any n (by have h2:(2:Nat) ^ 60 = 1152921504606846976:=by decide
                           have:=h0.2; omega) w hT_
  · cases h

end Go.Proofs.YtehjfaddhmdicaaDoor.P
namespace Go.Proofs.YtehjfaddhmdicaaDoor.P
open Go.RowKit Go.Proofs.YtehjfaddhmdicaaDoorW.PrintWords Go.Proofs.YtehjfaddhmdicaaDoorW.PrintLast Go.Proofs.YtehjfaddhmdicaaDoorW.PrintMore
attribute [local go_sem] max2_int min2_int max_two min_two max_three min_three max_four min_four   -- for this text's walks alone
set_option linter.unusedVariables false
set_option linter.unusedSimpArgs false

section
open Go.Maps
def missF (Ls:List Nat) (ch:Nat):Option Nat:=Ls.find? fun s => decide (s &&& ch = 0)
def hitW (Ls:List Nat):Nat → Nat → List Nat
 | 0,ch => match missF Ls ch with
  | none => [ch]
  | some _ => []
 | m + 1,ch => match missF Ls ch with
  | none => [ch]
  | some s => (bitsI s).flatMap fun x => hitW Ls m (ch ||| 2 ^ x.toNat)
theorem hitW_none {Ls:List Nat} {ch:Nat} (h:missF Ls ch = none):∀ m,hitW Ls m ch = [ch]
 | 0 => by unfold hitW; rw [h]
 | m + 1 => by unfold hitW; rw [h]
theorem hitW_zero {Ls:List Nat} {ch s:Nat} (h:missF Ls ch = some s):hitW Ls 0 ch = []:=by unfold hitW; rw [h]
theorem hitW_succ {Ls:List Nat} {ch s:Nat} (h:missF Ls ch = some s) (m:Nat):hitW Ls (m + 1) ch = (bitsI s).flatMap fun x => hitW Ls m (ch ||| 2 ^ x.toNat):=by
 conv => lhs; unfold hitW
 rw [h]
theorem missF_mem {Ls:List Nat} {ch s:Nat} (h:missF Ls ch = some s):s ∈ Ls:=List.mem_of_find?_eq_some h
theorem bitsI_ltN (s N:Nat) (hs:s < 2 ^ N):∀ x ∈ bitsI s,0 ≤ x ∧ x < N:=by
 intro x hx
 obtain ⟨n,hn,rfl⟩:=List.mem_map.1 hx
 have h1:s.testBit n = true:=(List.mem_filter.1 hn).2
 have h2:n < N:=by
  rcases Nat.lt_or_ge n N with h | h
  ·exact h
  ·rw [Nat.testBit_lt_two_pow (Nat.lt_of_lt_of_le hs (Nat.pow_le_pow_right (by omega) h))] at h1; cases h1
 omega
theorem bitsI_lt60 (s:Nat) (hs:s < 2 ^ 60):∀ x ∈ bitsI s,0 ≤ x ∧ x < 60:=bitsI_ltN s 60 hs
theorem hitW_ltN {Ls:List Nat} {N:Nat} (hL:∀ s ∈ Ls,s < 2 ^ N):∀ (m ch:Nat),ch < 2 ^ N → ∀ z ∈ hitW Ls m ch,z < 2 ^ N:=by
 intro m
 induction m with
 | zero =>
  intro ch hc z hz
  rcases hm:missF Ls ch with _ | s
  ·rw [hitW_none hm,List.mem_singleton] at hz; rw [hz]; exact hc
  ·rw [hitW_zero hm] at hz; cases hz
 | succ m ih =>
  intro ch hc z hz
  rcases hm:missF Ls ch with _ | s
  ·rw [hitW_none hm,List.mem_singleton] at hz; rw [hz]; exact hc
  ·rw [hitW_succ hm,List.mem_flatMap] at hz
   obtain ⟨x,hx,hz⟩:=hz
   have hb:=bitsI_ltN s N (hL s (missF_mem hm)) x hx
   exact ih _ (Nat.or_lt_two_pow hc (Nat.pow_lt_pow_right (by omega) (by omega))) z hz
theorem hitW_lt {Ls:List Nat} (hL:∀ s ∈ Ls,s < 2 ^ 60):∀ (m ch:Nat),ch < 2 ^ 60 → ∀ z ∈ hitW Ls m ch,z < 2 ^ 60:=hitW_ltN hL
def addS (S ws:List Nat):List Nat:=ws.foldl (fun S c => if c ∈ S then S else c :: S) S
theorem addS_append (S a b:List Nat):addS S (a ++ b) = addS (addS S a) b:=by unfold addS; rw [List.foldl_append]
theorem addS_one (S:List Nat) (c:Nat):addS S [c] = if c ∈ S then S else c :: S:=rfl
theorem addS_mem (ws:List Nat):∀ (S:List Nat) (x:Nat),x ∈ addS S ws ↔ x ∈ S ∨ x ∈ ws:=by
 induction ws with
 | nil => intro S x; simp [addS]
 | cons c t ih =>
  intro S x
  have h:=ih (if c ∈ S then S else c :: S) x
  rw [show addS S (c :: t) = addS (if c ∈ S then S else c :: S) t from rfl,h]
  by_cases hc:c ∈ S
  ·rw [if_pos hc]
   constructor
   ·rintro (h | h)
    ·exact .inl h
    ·exact .inr (List.mem_cons_of_mem _ h)
   ·rintro (h | h)
    ·exact .inl h
    ·rcases List.mem_cons.1 h with rfl | h
     ·exact .inl hc
     ·exact .inr h
  ·rw [if_neg hc]; simp only [List.mem_cons]; constructor
   ·rintro ((h | h) | h)
    ·exact .inr (.inl h)
    ·exact .inl h
    ·exact .inr (.inr h)
   ·rintro (h | h | h)
    ·exact .inl (.inr h)
    ·exact .inl (.inl h)
    ·exact .inr h
theorem addS_nodup (ws:List Nat):∀ S:List Nat,S.Nodup → (addS S ws).Nodup:=by
 induction ws with
 | nil => intro S h; exact h
 | cons c t ih =>
  intro S h
  show (addS (if c ∈ S then S else c :: S) t).Nodup
  by_cases hc:c ∈ S
  ·rw [if_pos hc]; exact ih _ h
  ·rw [if_neg hc]; exact ih _ (List.nodup_cons.2 ⟨hc,h⟩)
theorem filter_two {α:Type} (p:α → Bool):∀ l:List α,(l.filter p).length + (l.filter fun x => !p x).length = l.length
 | [] => rfl
 | x :: t => by
  have h:=filter_two p t
  by_cases hx:p x = true
  ·simp [hx]; omega
  ·simp [hx]; omega
theorem nodup_len:∀ (n:Nat) (l:List Nat),l.Nodup → (∀ x ∈ l,x < n) → l.length ≤ n
 | 0,l,_,hb => by
  cases l with
  | nil => simp
  | cons a t => exact absurd (hb a List.mem_cons_self) (by omega)
 | n + 1,l,hn,hb => by
  have h1:=nodup_len n (l.filter fun x => decide (x < n)) (List.Pairwise.filter _ hn) (fun x hx => by simpa using (List.mem_filter.1 hx).2)
  have h2:(l.filter fun x => !decide (x < n)).length ≤ 1:=by
   have h3:∀ x ∈ l.filter fun x => !decide (x < n),x = n:=fun x hx => by
    have:=List.mem_filter.1 hx
    have h4:=hb x this.1
    have h5:¬ x < n:=by simpa using this.2
    omega
   have h4:(l.filter fun x => !decide (x < n)).Nodup:=List.Pairwise.filter _ hn
   generalize l.filter (fun x => !decide (x < n)) = q at h3 h4
   match q,h3,h4 with
   | [],_,_ => simp
   | [_],_,_ => simp
   | a :: b :: t,h3,h4 =>
    have e1:=h3 a (by simp)
    have e2:=h3 b (by simp)
    rw [List.nodup_cons] at h4
    exact absurd (by rw [e1,e2]; simp) h4.1
  have h3:=filter_two (fun x => decide (x < n)) l
  omega
theorem setKeyed:Keyed Tryd.prog 56:=int_keyed Tryd.underlying56
def setV (n:Nat):Value:=.int .u64 (n:Int)
theorem setV_inj (a c:Nat) (h:setV a = setV c):a = c:=by
 unfold setV at h
 injection h with _ h
 exact_mod_cast h
def inH (S:List Nat) (c:Nat):Option Value:=if c ∈ S then some (.bool true) else none
theorem lit_u64 {n:Nat} (hn:n < 2 ^ 60):(Lit.int .u64 (n:Int)).wf = true:=by
 have h1:IntKind.u64.min = 0:=by decide
 have h2:IntKind.u64.max = 18446744073709551615:=by decide
 show (decide (IntKind.u64.min ≤ (n:Int)) && decide ((n:Int) ≤ IntKind.u64.max)) = true
 rw [h1,h2,decide_eq_true (by omega),decide_eq_true (by omega)]
 rfl
theorem setKey (n:Nat) (hn:n < 2 ^ 60):keyOf Tryd.prog 56 (setV n) = some (.int .u64 (n:Int)):=keyOf_int_mk Tryd.underlying56 (lit_u64 hn)
theorem storeH {W:World} {bm:Nat} {S:List Nat} {n:Nat} (h:MapIs W Tryd.prog 56 bm S.length setV (inH S)) (hn:n < 2 ^ 60) (hS:S.length ≤ 2 ^ 60) :
  ∃ w',(Instr.mapUpdate 61 (.map (some bm)) (.int .u64 (n:Int)) (.bool true)).run Tryd.prog W = .ok () w' ∧ MapIs w' Tryd.prog 56 bm (addS S [n]).length setV (inH (addS S [n])) ∧ W.mapTurned w' bm:=by
 obtain ⟨w',hrun,hm,ht⟩:=h.store setKeyed Tryd.underlying61 (by unfold maxLen; omega) setV_inj (setKey n hn) (.bool true)
 refine ⟨w',hrun,?_,ht⟩
 rw [addS_one]
 by_cases hc:n ∈ S
 ·have e:(if (inH S n).isSome then S.length else S.length + 1) = S.length:=by unfold inH; simp [hc]
  rw [e] at hm
  rw [if_pos hc]
  exact hm.congr (fun a kl _ => by unfold inH; by_cases ha:a = n <;> simp [ha,hc])
 ·have e:(if (inH S n).isSome then S.length else S.length + 1) = S.length + 1:=by unfold inH; simp [hc]
  rw [e] at hm
  rw [if_neg hc,List.length_cons]
  exact hm.congr (fun a kl _ => by unfold inH; by_cases ha:a = n <;> simp [ha])
def idxH (p:Int → Bool):List Int → Nat → Int
 | [],_ => -1
 | x :: xs,k => if p x then (k:Int) else idxH p xs (k + 1)
theorem idxH_drop (p:Int → Bool) (l:List Int) (k:Nat) (h:k < l.length):idxH p (l.drop k) k = if p l[k] then (k:Int) else idxH p (l.drop (k + 1)) (k + 1):=by
 rw [List.drop_eq_getElem_cons h]; rfl
def ints (l:List Nat):List Int:=l.map (Int.ofNat ·)
theorem ints_len (l:List Nat):(ints l).length = l.length:=by unfold ints; simp
theorem idxH_miss (ch:Nat) (Ls:List Nat):∀ k,(missF Ls ch = none ∧ idxH (fun x => decide (x.toNat &&& ch = 0)) (ints Ls) k = -1) ∨ ∃ i s,i < Ls.length ∧ Ls[i]? = some s ∧ missF Ls ch = some s ∧ idxH (fun x => decide (x.toNat &&& ch = 0)) (ints Ls) k = ((k + i:Nat):Int):=by
 induction Ls with
 | nil => intro k; exact .inl ⟨rfl,rfl⟩
 | cons a t ih =>
  intro k
  by_cases ha:a &&& ch = 0
  ·refine .inr ⟨0,a,by simp,by simp,by unfold missF; simp [ha],?_⟩
   show (if decide ((Int.ofNat a).toNat &&& ch = 0) = true then ((k:Nat):Int) else idxH (fun x => decide (x.toNat &&& ch = 0)) (ints t) (k + 1)) = _
   rw [show (Int.ofNat a).toNat = a from rfl,if_pos (by simp [ha])]; rfl
  ·have e:idxH (fun x => decide (x.toNat &&& ch = 0)) (ints (a :: t)) k = idxH (fun x => decide (x.toNat &&& ch = 0)) (ints t) (k + 1):=by
    show (if decide ((Int.ofNat a).toNat &&& ch = 0) = true then ((k:Nat):Int) else idxH (fun x => decide (x.toNat &&& ch = 0)) (ints t) (k + 1)) = _
    rw [show (Int.ofNat a).toNat = a from rfl,if_neg (by simp [ha])]
   have e2:missF (a :: t) ch = missF t ch:=by unfold missF; rw [List.find?_cons_of_neg (by simp [ha])]
   rw [e,e2]
   rcases ih (k + 1) with h | ⟨i,s,h1,h2,h3,h4⟩
   ·exact .inl h
   ·exact .inr ⟨i + 1,s,by simp; omega,by simpa using h2,h3,by rw [h4]; congr 1; omega⟩
end

end Go.Proofs.YtehjfaddhmdicaaDoor.P
namespace Go.Proofs.YtehjfaddhmdicaaDoor.P
open Go.RowKit Go.Proofs.YtehjfaddhmdicaaDoorW.PrintWords Go.Proofs.YtehjfaddhmdicaaDoorW.PrintLast Go.Proofs.YtehjfaddhmdicaaDoorW.PrintMore
attribute [local go_sem] max2_int min2_int max_two min_two max_three min_three max_four min_four   -- for this text's walks alone
set_option linter.unusedVariables false
set_option linter.unusedSimpArgs false

def impl_isFew.f (k:Nat) (a0_0:Int) (a0_1:Int) (l0_2:List Int) (l0_3:List Int):Option (Bool):=(impl_IsFigure.f k a0_0 a0_1 l0_2 l0_3).bind fun t192 => (if t192 = true then (some (decide ((wrap64 (a0_0 * a0_1)) ≤ 9))) else (some false))
theorem impl_isFew.mono:∀ a0 a1 a2 a3 k,LeO (impl_isFew.f k a0 a1 a2 a3) (impl_isFew.f (k + 1) a0 a1 a2 a3):=by
  intro a0 a1 a2 a3 k
  unfold impl_isFew.f
  repeat' first | (with_reducible first | exact impl_IsFigure.mono _ _ _ _ _ | exact LeO.refl _ | exact LeO.none _ | refine LeO.ite ?_ ?_ | refine LeO.bind ?_ (fun _ => ?_)) | exact impl_IsFigure.mono _ _ _ _ _
set_option maxHeartbeats 8000000 in
set_option maxRecDepth 100000 in
theorem impl_isFew.calls (k:Nat) (a0_0:Int) (a0_1:Int) (A0_2:Option Addr) (c0_2:Nat) (l0_2:List Int) (A0_3:Option Addr) (c0_3:Nat) (l0_3:List Int) (r:Bool) (w:World) (hr0_2:Kd.C (Kd.int .i64) w A0_2 l0_2.length l0_2) (hc0_2:l0_2.length ≤ c0_2) (hr0_3:Kd.C (Kd.int .i64) w A0_3 l0_3.length l0_3) (hc0_3:l0_3.length ≤ c0_3) (h:impl_isFew.f k a0_0 a0_1 l0_2 l0_3 = some r) :
    Calls Tryd.prog 46 #[.agg #[.int .i64 a0_0,.int .i64 a0_1,.slice A0_2 l0_2.length c0_2,.slice A0_3 l0_3.length c0_3]] w fun e w' => e = .returned (.bool r) ∧ Below w.heap.size w w':=by
  have hu36:=Tryd.underlying36
  have HR0_2:=am_ hr0_2
  have HC0_2:=am_ hc0_2
  clear hr0_2 hc0_2
  have HR0_3:=am_ hr0_3
  have HC0_3:=am_ hc0_3
  clear hr0_3 hc0_3
  have HB:=am_ (Below.refl w.heap.size w)
  have H:((impl_IsFigure.f k a0_0 a0_1 l0_2 l0_3).bind fun t192 => (if t192 = true then (some (decide ((wrap64 (a0_0 * a0_1)) ≤ 9))) else (some false))) = some r:=h
  clear h
  replace H:=bi_ H
  obtain ⟨t192,A20,H⟩:=H
  replace H:(if t192 = true then (some (decide ((wrap64 (a0_0 * a0_1)) ≤ 9))) else (some false)) = some r:=H
  have A2:=am_ A20
  clear A20
  by_cases c3:t192 = true
  · subst c3
    have H1:(some (decide ((wrap64 (a0_0 * a0_1)) ≤ 9))) = some r:=by rw [if_pos rfl] at H; exact H
    clear H
    have H:=H1
    clear H1
    obtain rfl:=Option.some.inj H
    go_enter Tryd.func46,Tryd.ntmps46
    go_wp2_with (first | ((with_reducible refine gate_dst (N:=1) rfl ?_); refine boxE_ (N:=1) (cs:=#[.int .i64 a0_0,.int .i64 a0_1,.slice A0_2 l0_2.length c0_2,.slice A0_3 l0_3.length c0_3]) (t:=36) ?_; intro gb191 hg w4 hbox hb; have n0_:=am_ (below_step (bl0_ HB.out) hb); have n1_:=am_ (hbox); have n2_:=am_ ((bs0_ hg HB.out:w.heap.size ≤ gb191)); have n3_:=am_ ((bs0_ hg HB.out:w.heap.size ≤ gb191)); clear HB; have HB:=n0_; have BK191:=n1_; have GW191:=n2_; have GE191:=n3_; clear n0_ n1_ n2_ n3_; clear hb hbox hg; have hcz5_0:w4.cell? ⟨gb191,0,none⟩ = some (.int .i64 a0_0):=(bc_ BK191.out 0).trans rfl; have hcz5_1:w4.cell? ⟨gb191,1,none⟩ = some (.int .i64 a0_1):=(bc_ BK191.out 1).trans rfl; have hcz5_2:w4.cell? ⟨gb191,2,none⟩ = some (.slice A0_2 l0_2.length c0_2):=(bc_ BK191.out 2).trans rfl; have hcz5_3:w4.cell? ⟨gb191,3,none⟩ = some (.slice A0_3 l0_3.length c0_3):=(bc_ BK191.out 3).trans rfl; have hfz5_0:=bz_ BK191.out 0; have hfz5_1:=bz_ BK191.out 1; have hfz5_2:=bz_ BK191.out 2; have hfz5_3:=bz_ BK191.out 3) | ((with_reducible refine gate_callee (f:=93) rfl ?_); refine goesL_ (some 4) rfl rfl Tryd.func93 (by kernel_rfl) rfl #[.agg #[.int .i64 a0_0,.int .i64 a0_1,.slice A0_2 l0_2.length c0_2,.slice A0_3 l0_3.length c0_3]] rfl ob_ ?_; (with_reducible refine (impl_IsFigure.calls k a0_0 a0_1 _ _ l0_2 _ _ l0_3 true _ ?side1 ?side2 ?side3 ?side4 A2.out).mono ?_); (case side1 => exact kc_ (Kd.C_below HR0_2.out HB.out)); (case side2 => exact HC0_2.out); (case side3 => exact kc_ (Kd.C_below HR0_3.out HB.out)); (case side4 => exact HC0_3.out); rintro e w6 ⟨rfl,hb⟩; refine ⟨_,rfl,?_⟩; have n0_:=am_ (bb_ BK191.out hb); have n1_:=am_ (below_step (bl1_ HB.out GE191.out) hb); clear BK191; clear HB; have BK191:=n0_; have HB:=n1_; clear n0_ n1_; (try clear hb); (try clear hb2); (try clear hk); (try clear hi); have hcz7_0:w6.cell? ⟨gb191,0,none⟩ = some (.int .i64 a0_0):=(bc_ BK191.out 0).trans rfl; have hcz7_1:w6.cell? ⟨gb191,1,none⟩ = some (.int .i64 a0_1):=(bc_ BK191.out 1).trans rfl; have hcz7_2:w6.cell? ⟨gb191,2,none⟩ = some (.slice A0_2 l0_2.length c0_2):=(bc_ BK191.out 2).trans rfl; have hcz7_3:w6.cell? ⟨gb191,3,none⟩ = some (.slice A0_3 l0_3.length c0_3):=(bc_ BK191.out 3).trans rfl; have hfz7_0:=bz_ BK191.out 0; have hfz7_1:=bz_ BK191.out 1; have hfz7_2:=bz_ BK191.out 2; have hfz7_3:=bz_ BK191.out 3))
    go_ret
    exact ⟨er_,bl1_ HB.out GE191.out⟩
  · replace c3:=Bool.eq_false_iff.mpr c3
    subst c3
    have H1:(some false) = some r:=by rw [if_neg (show ¬ (false = true) by decide)] at H; exact H
    clear H
    have H:=H1
    clear H1
    obtain rfl:=Option.some.inj H
    go_enter Tryd.func46,Tryd.ntmps46
    go_wp2_with (first | ((with_reducible refine gate_dst (N:=1) rfl ?_); refine boxE_ (N:=1) (cs:=#[.int .i64 a0_0,.int .i64 a0_1,.slice A0_2 l0_2.length c0_2,.slice A0_3 l0_3.length c0_3]) (t:=36) ?_; intro gb191 hg w8 hbox hb; have n0_:=am_ (below_step (bl0_ HB.out) hb); have n1_:=am_ (hbox); have n2_:=am_ ((bs0_ hg HB.out:w.heap.size ≤ gb191)); have n3_:=am_ ((bs0_ hg HB.out:w.heap.size ≤ gb191)); clear HB; have HB:=n0_; have BK191:=n1_; have GW191:=n2_; have GE191:=n3_; clear n0_ n1_ n2_ n3_; clear hb hbox hg; have hcz9_0:w8.cell? ⟨gb191,0,none⟩ = some (.int .i64 a0_0):=(bc_ BK191.out 0).trans rfl; have hcz9_1:w8.cell? ⟨gb191,1,none⟩ = some (.int .i64 a0_1):=(bc_ BK191.out 1).trans rfl; have hcz9_2:w8.cell? ⟨gb191,2,none⟩ = some (.slice A0_2 l0_2.length c0_2):=(bc_ BK191.out 2).trans rfl; have hcz9_3:w8.cell? ⟨gb191,3,none⟩ = some (.slice A0_3 l0_3.length c0_3):=(bc_ BK191.out 3).trans rfl; have hfz9_0:=bz_ BK191.out 0; have hfz9_1:=bz_ BK191.out 1; have hfz9_2:=bz_ BK191.out 2; have hfz9_3:=bz_ BK191.out 3) | ((with_reducible refine gate_callee (f:=93) rfl ?_); refine goesL_ (some 4) rfl rfl Tryd.func93 (by kernel_rfl) rfl #[.agg #[.int .i64 a0_0,.int .i64 a0_1,.slice A0_2 l0_2.length c0_2,.slice A0_3 l0_3.length c0_3]] rfl ob_ ?_; (with_reducible refine (impl_IsFigure.calls k a0_0 a0_1 _ _ l0_2 _ _ l0_3 false _ ?side1 ?side2 ?side3 ?side4 A2.out).mono ?_); (case side1 => exact kc_ (Kd.C_below HR0_2.out HB.out)); (case side2 => exact HC0_2.out); (case side3 => exact kc_ (Kd.C_below HR0_3.out HB.out)); (case side4 => exact HC0_3.out); rintro e w10 ⟨rfl,hb⟩; refine ⟨_,rfl,?_⟩; have n0_:=am_ (bb_ BK191.out hb); have n1_:=am_ (below_step (bl1_ HB.out GE191.out) hb); clear BK191; clear HB; have BK191:=n0_; have HB:=n1_; clear n0_ n1_; (try clear hb); (try clear hb2); (try clear hk); (try clear hi)))
    go_ret
    exact ⟨er_,bl1_ HB.out GE191.out⟩


def PredS118 (g:Nat) (lb:Array Value) (p:S118 → Bool) (w:World):Prop:=∀ (W:World) (x:S118),Below w.heap.size w W → Calls Tryd.prog g (#[.agg #[.int .i64 x.f0,.int .i64 x.f1,.int .i64 x.f2,.int .u64 x.f3]] ++ lb) W fun e w' => e = .returned (.bool (p x)) ∧ Below W.heap.size W w'
theorem rdS118_nat (l:List S118) (k:Nat) (h:k < l.length):rd_T118 l (k:Int) = l[k]:=by
  unfold rd_T118; rw [Int.toNat_natCast,List.getD_eq_getElem?_getD,List.getElem?_eq_getElem h]; rfl
set_option maxHeartbeats 2000000 in
theorem indexS118_any (g:Nat) (lb:Array Value) (p:S118 → Bool) (eg:∀ args w,(callFunc g args).run Tryd.prog w = .ok (.enter g args) w) (A0:Option Addr) (c0:Nat) (l0:List S118) (w:World) (hr0:Kd.C k118 w A0 l0.length l0) (hp:PredS118 g lb p w) :
    Calls Tryd.prog 170 #[.slice A0 l0.length c0,.func (.func g) #[] lb] w fun e w' => e = .returned (.int .i64 (idxFrom p l0 0)) ∧ Below w.heap.size w w':=by
  have HR0:=am_ hr0
  have HP:=am_ hp
  have hbig:l0.length ≤ 9223372036854775807:=hr0.2.1
  clear hr0 hp
  generalize hn:l0.length = n at hbig
  have HN:=am_ hn
  clear hn
  have HR:Aside0 (Kd.C k118 w A0 n l0):=⟨by have h:=HR0.out; rw [HN.out] at h; exact h⟩
  clear HR0
  go_enter Tryd.func170,Tryd.ntmps170
  go_wp2
  go_loopg [5,8] n (fun gg _ s8 wr => ∃ kk:Nat,kk ≤ n ∧ n - kk ≤ gg ∧ s8 = .int .i64 kk ∧ Aside0 (Below w.heap.size w wr) ∧ Aside0 (idxFrom p l0 0 = idxFrom p (l0.drop kk) kk))
  case atStart => exact ⟨0,Nat.zero_le _,by omega,rfl,⟨Below.refl _ w⟩,⟨rfl⟩⟩
  case round =>
    obtain ⟨kk,hkk,hg,rfl,BW,A⟩:=hrel
    by_cases hlt:kk < n
    · have hltz:(kk:Int) < (n:Int):=by omega
      have hll:kk < l0.length:=by rw [HN.out]; exact hlt
      obtain ⟨ad,eA,hx,hx2,hx3,hx4⟩:=at_T118 (Kd.C_below HR.out BW.out) (kk:Int) (by omega) (by omega)
      cases eA
      rw [rdS118_nat l0 kk hll,Int.toNat_natCast] at hx hx2 hx3 hx4
      have hcall:=HP.out wr l0[kk] BW.out
      have hs:=idxFrom_drop p l0 kk hll
      have A2:Aside0 (idxFrom p l0 0 = if p l0[kk] then (kk:Int) else idxFrom p (l0.drop (kk + 1)) (kk + 1)):=⟨by rw [A.out,hs]⟩
      clear A hs
      generalize hy:l0[kk] = y at hx hx2 hx3 hx4 hcall A2
      clear hy hll
      cases hq:p y with
      | true =>
        rw [hq] at hcall
        have A3:Aside0 (idxFrom p l0 0 = (kk:Int)):=⟨by rw [A2.out,if_pos hq]⟩
        clear A2 hq
        go_wp2_with (go_at_fn g; refine hcall.mono ?_; rintro e w' ⟨rfl,hb'⟩)
        go_ret
        exact ⟨by rw [A3.out]; rfl,BW.out.trans (hb'.mono BW.out.size)⟩
      | false =>
        rw [hq] at hcall
        have A3:Aside0 (idxFrom p l0 0 = idxFrom p (l0.drop (kk + 1)) (kk + 1)):=⟨by rw [A2.out,if_neg (by rw [hq]; simp)]⟩
        clear A2 hq
        go_wp2_with (go_at_fn g; refine hcall.mono ?_; rintro e w' ⟨rfl,hb'⟩)
        go_roundg (n - (kk + 1))
        case measure => omega
        case rel => exact ⟨kk + 1,by omega,by omega,by go_num,⟨BW.out.trans (hb'.mono BW.out.size)⟩,A3⟩
    · have hltz:¬ (kk:Int) < (n:Int):=by omega
      have:kk = n:=by omega
      subst this
      go_wp2
      go_ret
      exact ⟨by rw [A.out,List.drop_of_length_le (by rw [HN.out]; exact Nat.le_refl _)]; rfl,BW.out⟩


theorem del_skip {α:Type} {p:α → Bool} {l L:List α} {n ii jj:Nat} {x:α} (h:L.length = n ∧ L.take ii = (l.take jj).filter (fun x => !p x) ∧ L.drop jj = l.drop jj) (hx:∃ h:jj < L.length,x = L[jj]) (hq:p x = true) :
    L.length = n ∧ L.take ii = (l.take (jj + 1)).filter (fun x => !p x) ∧ L.drop (jj + 1) = l.drop (jj + 1):=by
  obtain ⟨h1,h2,h3⟩:=h
  obtain ⟨hj,rfl⟩:=hx
  have h4:L.drop (jj + 1) = l.drop (jj + 1):=by rw [← List.drop_drop,h3,List.drop_drop]
  have hj2:jj < l.length:=by
    have:=congrArg List.length h3
    simp at this
    omega
  have h5:l[jj] = L[jj]:=by
    rw [List.drop_eq_getElem_cons hj,List.drop_eq_getElem_cons hj2] at h3
    injection h3 with h3 _
    exact h3.symm
  refine ⟨h1,?_,h4⟩
  rw [List.take_succ_eq_append_getElem hj2,List.filter_append,← h2,h5]
  simp [hq]
theorem del_keep {α:Type} {p:α → Bool} {l L:List α} {n ii jj:Nat} {x:α} (h:L.length = n ∧ L.take ii = (l.take jj).filter (fun x => !p x) ∧ L.drop jj = l.drop jj) (hij:ii < jj) (hx:∃ h:jj < L.length,x = L[jj]) (hq:p x = false) :
    (L.set ii x).length = n ∧ (L.set ii x).take (ii + 1) = (l.take (jj + 1)).filter (fun x => !p x) ∧ (L.set ii x).drop (jj + 1) = l.drop (jj + 1):=by
  obtain ⟨h1,h2,h3⟩:=h
  obtain ⟨hj,rfl⟩:=hx
  have h4:L.drop (jj + 1) = l.drop (jj + 1):=by rw [← List.drop_drop,h3,List.drop_drop]
  have hj2:jj < l.length:=by
    have:=congrArg List.length h3
    simp at this
    omega
  have h5:l[jj] = L[jj]:=by
    rw [List.drop_eq_getElem_cons hj,List.drop_eq_getElem_cons hj2] at h3
    injection h3 with h3 _
    exact h3.symm
  refine ⟨by simp [h1],?_,by rw [List.drop_set_of_lt (by omega),h4]⟩
  rw [List.take_succ_eq_append_getElem hj2,List.filter_append,← h2,h5,List.take_succ_eq_append_getElem (by simp; omega)]
  have e:(L.set ii L[jj]).take ii = L.take ii:=by
    apply List.ext_getElem?
    intro k
    rw [List.getElem?_take,List.getElem?_take]
    by_cases hk:k < ii
    · rw [if_pos hk,if_pos hk,List.getElem?_set_ne (by omega)]
    · rw [if_neg hk,if_neg hk]
  rw [e]
  simp [hq]
theorem del_end {α:Type} {p:α → Bool} {l L:List α} {n ii:Nat} (h:L.length = n ∧ L.take ii = (l.take n).filter (fun x => !p x) ∧ L.drop n = l.drop n) (hl:l.length = n):L.take ii = l.filter (fun x => !p x):=by
  rw [h.2.1,List.take_of_length_le (by omega)]


/- new variables in memory,read behind later ones -/
/- clear(s[i:]) on a row of the call's own -/
theorem zeroCells_len (c:Array Value) (n:Nat):(Builtin.zeroCells c n).toList.length = n * c.size:=by
  simp [Builtin.zeroCells]
theorem R_clear {P:Program} {α:Type} (d:Kd α) {W:World} {e base g n cap:Nat} {ok:Nat → Prop} {xs:List α} (h:d.R e W base ok (.slice (some ⟨g,0,none⟩) n cap) xs) (m:Nat) (hm:m ≤ n) (t ty:Nat) (z:Value) (ht:P.underlying t = some (.slice e))
    (hv:∀ w,(zeroValue e).run P w = .ok z w) (hz:z.cells.size = d.sz) (h1:∀ q ∈ (Builtin.zeroCells z.cells (n - m)).toList,q.oneCell' = true) :
    ∃ W1,(Builtin.clear_ #[t] ty #[.slice (some ⟨g,m * d.sz,none⟩) (n - m) (cap - m)]).run P W = .ok (.tuple #[]) W1 ∧ d.R e W1 base ok (.slice (some ⟨g,0,none⟩) m cap) (xs.take m) ∧ W.grownBy W1 (some g):=by
  have hn:n = xs.length:=(Kd.R_reads' h).1
  by_cases h0:n - m = 0
  · refine ⟨W,?_,Kd.R_take h (by omega),⟨rfl,rfl,rfl,Nat.le_refl _,fun _ _ _ => rfl⟩⟩
    rw [h0]
    simp [Builtin.clear_,run_underlying ht]
  · obtain ⟨hok,inner,ho,hr⟩:=Kd.R_take h (m:=m) (by omega)
    obtain ⟨hl,hrow⟩:=ho
    have hml:(xs.take m).length = m:=by rw [List.length_take]; omega
    rw [hml] at hl hrow
    obtain ⟨_,inner0,ho0,_⟩:=h
    rcases ho0.2 with ⟨hx,_⟩ | ⟨g0,cap0,cur,hx,hbg,hg,hnc,hcm,hsz,htk⟩
    · cases hx
    injection hx with ha hb hc
    injection ha with ha
    injection ha with ha
    subst ha hc
    rcases hrow with ⟨hx,_⟩ | ⟨g1,cap1,cur1,hx,hbg1,hg1,hnc1,hcm1,hsz1,htk1⟩
    · cases hx
    injection hx with ha hb' hc
    injection ha with ha
    injection ha with ha
    subst ha hc
    rw [hg] at hg1
    injection hg1 with hg1
    injection hg1 with hg1
    subst hg1
    have hzl:=zeroCells_len z.cells (n - m)
    rw [hz] at hzl
    have hfit:m * d.sz + 0 + (Builtin.zeroCells z.cells (n - m)).toList.length ≤ cur.size:=by
      rw [hzl,hsz,Nat.add_zero,← Nat.add_mul]
      exact Nat.mul_le_mul_right _ (by omega)
    have hst:=run_storeCells_at (P:=P) g (m * d.sz) e (Builtin.zeroCells z.cells (n - m)).toList 0 cur W hg hfit h1
    obtain ⟨cur',hc'⟩:∃ c,c = (cur.toList.take (m * d.sz + 0) ++ (Builtin.zeroCells z.cells (n - m)).toList ++ cur.toList.drop (m * d.sz + 0 + (Builtin.zeroCells z.cells (n - m)).toList.length)).toArray:=⟨_,rfl⟩
    rw [← hc'] at hst
    have hgw:W.grownBy (W.setRow g cur') (some g):=by
      refine ⟨rfl,rfl,rfl,by simp [World.setRow],fun k _ hk => ?_⟩
      simp only [World.setRow,Array.getElem?_modify]
      rw [if_neg (fun e => hk (by rw [e]))]
    refine ⟨W.setRow g cur',?_,⟨hok,inner,⟨by rw [hml]; exact hl,.inr ⟨g,cap,cur',by rw [hml],hbg,?_,by rw [hml]; omega,hcm,?_,?_⟩⟩,hr.imp_ (fun p c hp => d.M_move (fun k hk => ?_) hp)⟩,hgw⟩
    · obtain ⟨q,hq⟩:∃ q,n - m = q + 1:=⟨n - m - 1,by omega⟩
      rw [hq] at hst ⊢
      simp [Builtin.clear_,run_underlying ht,hv]
      rw [hst]
      rfl
    · simp only [World.setRow,Array.getElem?_modify,if_pos rfl,hg]
      rfl
    · rw [hc',List.size_toArray,List.length_append,List.length_append,List.length_take,List.length_drop,Array.length_toList]
      rw [hsz] at hfit ⊢
      omega
    · rw [hml,hc']
      simp only [Nat.add_zero]
      rw [← htk1,List.append_assoc,List.take_left' (by rw [List.length_take,Array.length_toList,hsz]; exact Nat.min_eq_left (Nat.mul_le_mul_right _ (by omega)))]
    · by_cases hkg:k = g
      · exact absurd hk.2 (by subst hkg; simp [Value.ownBlock])
      · rcases Nat.lt_or_ge k W.heap.size with hk2 | hk2
        · exact hgw.block k hk2 (by simpa using hkg)
        · rw [Array.getElem?_eq_none (by simpa [World.setRow] using hk2),Array.getElem?_eq_none hk2]
theorem zeroCells_one (c:Array Value) (n:Nat) (h:∀ q ∈ c,q.oneCell' = true):∀ q ∈ (Builtin.zeroCells c n).toList,q.oneCell' = true:=by
  intro q hq
  simp only [Builtin.zeroCells,Array.toList_map,List.mem_map,Array.mem_toList_iff,Array.mem_range] at hq
  obtain ⟨i,hi,rfl⟩:=hq
  have hlt : i % c.size < c.size := Nat.mod_lt _ (by rcases Nat.eq_zero_or_pos c.size with h0 | h0; · rw [h0] at hi; simp at hi
                                                     · exact h0)
  rw [getElem!_pos c _ hlt]
  exact h _ (Array.getElem_mem hlt)


theorem del_cells118 {w:World} {base g n cap ii:Nat} {ok:Nat → Prop} {L:List S118} (h:Kd.R k118 118 w base ok (.slice (some ⟨g,0,none⟩) n cap) L) (h1:(ii:Int) < L.length) :
    ∀ j u,[Value.int .i64 (rd_T118 L ii).f0,Value.int .i64 (rd_T118 L ii).f1,Value.int .i64 (rd_T118 L ii).f2,Value.int .u64 (rd_T118 L ii).f3][j]? = some u → w.cell? ⟨g,(ii:Int).toNat * k118.sz + j,none⟩ = some u:=by
  obtain ⟨ad,eA,hy,hy2,hy3,hy4⟩:=at_T118 (Kd.R_reads' h).2.2 (ii:Int) (by omega) h1
  cases eA
  simp only [add_plain] at hy hy2 hy3 hy4
  intro j u hj
  match j,hj with
  | 0,hj => simp at hj; subst hj; exact hy
  | 1,hj => simp at hj; subst hj; exact hy2
  | 2,hj => simp at hj; subst hj; exact hy3
  | 3,hj => simp at hj; subst hj; exact hy4
set_option maxRecDepth 100000 in
set_option maxHeartbeats 2000000 in
theorem deleteS118_any (g:Nat) (lb:Array Value) (p:S118 → Bool) (eg:∀ args w,(callFunc g args).run Tryd.prog w = .ok (.enter g args) w) (w1 w:World) (v:Value) (l:List S118) (hB:Below w1.heap.size w1 w) (ho:Kd.R k118 118 w w1.heap.size (fun _ => True) v l) (hp:PredS118 g lb p w1) :
    Calls Tryd.prog 154 #[v,.func (.func g) #[] lb] w fun e w' => ∃ v',e = .returned v' ∧ Kd.R k118 118 w' w1.heap.size (fun _ => True) v' (l.filter fun x => !p x) ∧ Below w1.heap.size w1 w':=by
  obtain ⟨A,c,rfl⟩:=Kd.R_slice ho
  have hidx:=indexS118_any g lb p eg A c l w (Kd.R_reads' ho).2.2 (fun W x hb => hp W x (hB.trans (hb.mono hB.size)))
  have hbig:l.length ≤ 9223372036854775807:=(Kd.R_reads' ho).2.2.2.1
  have hcap:l.length ≤ c:=(Kd.R_reads' ho).2.1
  rcases idxFrom_cases p l with ⟨hn,hi⟩ | ⟨i0,hi0,hi,hf⟩
  · rw [hi] at hidx
    have HB:=am_ hB
    have HO:=am_ ho
    have HF:Aside0 (l.filter (fun x => !p x) = l):=⟨hn⟩
    clear hB ho hp hn hi eg
    go_enter Tryd.func154,Tryd.ntmps154
    go_wp2_with (go_at_call 170; refine hidx.mono ?_; rintro e w2 ⟨rfl,hb2⟩)
    go_ret
    exact ⟨_,rfl,by rw [HF.out]; exact Kd.R_below HO.out hb2,HB.out.trans (hb2.mono HB.out.size)⟩
  · rw [hi] at hidx
    obtain ⟨ad,eA,-⟩:=at_T118 (Kd.R_reads' ho).2.2 0 (by omega) (by omega)
    cases eA
    obtain ⟨gb,rfl⟩:=Kd.R_head ho
    have HB:=am_ hB
    have HO:=am_ ho
    have HP:=am_ hp
    have HF:=am_ hf
    clear hB ho hp hf hi
    generalize hn:l.length = n at hbig hcap hi0 hidx HO ⊢
    have HN:=am_ hn
    clear hn
    have hne:((i0:Int) == -1) = false:=by rw [beq_eq_false_iff_ne]; omega
    go_enter Tryd.func154,Tryd.ntmps154
    go_wp2_with (go_at_call 170; refine hidx.mono ?_; rintro e w2 ⟨rfl,hb2⟩; have HO2:=am_ (Kd.R_below HO.out hb2); have HB2:=am_ (HB.out.trans (hb2.mono HB.out.size)); clear hb2 HO HB hidx)
    have hst:Aside0 (l.length = n ∧ l.take i0 = (l.take (i0 + 1)).filter (fun x => !p x) ∧ l.drop (i0 + 1) = l.drop (i0 + 1)):=⟨HN.out,HF.out.symm,rfl⟩
    clear HF
    go_loopg [5,6] n (fun gg u5 u6 wr => ∃ (ii jj:Nat) (L:List S118),u5 = .int .i64 ii ∧ u6 = .int .i64 jj ∧ ii < jj ∧ jj ≤ n ∧ n - jj ≤ gg ∧ Aside0 (L.length = n ∧ L.take ii = (l.take jj).filter (fun x => !p x) ∧ L.drop jj = l.drop jj) ∧ Aside0 (Kd.R k118 118 wr w1.heap.size (fun _ => True) (.slice (some ⟨gb,0,none⟩) n c) L) ∧ Aside0 (Below w1.heap.size w1 wr))
    case atStart => exact ⟨i0,i0 + 1,l,rfl,by go_num,by omega,by omega,by omega,hst,HO2,HB2⟩
    case round =>
      clear hst HO2 HB2
      obtain ⟨ii,jj,L,rfl,rfl,h1,h2,h3,HS,HO,HB⟩:=hrel
      by_cases hlt:jj < n
      · have hltz:(jj:Int) < (n:Int):=by omega
        obtain ⟨ad,eA,hx,hx2,hx3,hx4⟩:=at_T118 (Kd.R_reads' HO.out).2.2 (jj:Int) (by omega) (by have:=HS.out.1; omega)
        cases eA
        have hLj:jj < L.length:=by have:=HS.out.1; omega
        rw [rdS118_nat L jj hLj,Int.toNat_natCast] at hx hx2 hx3 hx4
        obtain ⟨x,hxe⟩:∃ x,x = L[jj]:=⟨_,rfl⟩
        rw [← hxe] at hx hx2 hx3 hx4
        simp only [add_plain] at hx hx2 hx3 hx4
        have HX:Aside0 (∃ h:jj < L.length,x = L[jj]):=⟨⟨hLj,hxe⟩⟩
        clear hxe hLj
        have hii:(ii:Int) < (n:Int):=by omega
        obtain ⟨ad',eA',hy,hy2,hy3,hy4⟩:=at_T118 (Kd.R_reads' HO.out).2.2 (ii:Int) (by omega) (by have:=HS.out.1; omega)
        cases eA'
        rw [Int.toNat_natCast] at hy hy2 hy3 hy4
        simp only [add_plain] at hy hy2 hy3 hy4
        have hcall:=HP.out (wr.alloc (.cells #[.int .i64 x.f0,.int .i64 x.f1,.int .i64 x.f2,.int .u64 x.f3] 118)) x (HB.out.alloc HB.out.size _)
        have HO1:=am_ (Kd.R_alloc HO.out (.cells #[.int .i64 x.f0,.int .i64 x.f1,.int .i64 x.f2,.int .u64 x.f3] 118))
        have HB1:=am_ (HB.out.alloc HB.out.size (.cells #[.int .i64 x.f0,.int .i64 x.f1,.int .i64 x.f2,.int .u64 x.f3] 118))
        clear hy hy2 hy3 hy4
        cases hq:p x with
        | true =>
          rw [hq] at hcall
          have HQ:=am_ hq
          clear hq
          go_wp2_with (go_at_fn g; refine hcall.mono ?_; rintro e w3 ⟨rfl,hb3⟩)
          go_roundg (n - (jj + 1))
          case measure => omega
          case rel => exact ⟨ii,jj + 1,L,rfl,by go_num,by omega,by omega,by omega,⟨del_skip HS.out HX.out HQ.out⟩,⟨Kd.R_below HO1.out hb3⟩,⟨HB1.out.trans (hb3.mono HB1.out.size)⟩⟩
        | false =>
          rw [hq] at hcall
          have HQ:=am_ hq
          clear hq
          go_wp2_with (first
            | (go_at_fn g; refine hcall.mono ?_; rintro e w3 ⟨rfl,hb3⟩; have k0:w3.cell? ⟨wr.heap.size,0,none⟩ = some (.int .i64 x.f0):=(hb3.cell (p:=⟨wr.heap.size,0,none⟩) (by simp)).trans (World.cell?_alloc_at _ _ _ _ rfl); have k1:w3.cell? ⟨wr.heap.size,1,none⟩ = some (.int .i64 x.f1):=(hb3.cell (p:=⟨wr.heap.size,1,none⟩) (by simp)).trans (World.cell?_alloc_at _ _ _ _ rfl); have k2:w3.cell? ⟨wr.heap.size,2,none⟩ = some (.int .i64 x.f2):=(hb3.cell (p:=⟨wr.heap.size,2,none⟩) (by simp)).trans (World.cell?_alloc_at _ _ _ _ rfl); have k3:w3.cell? ⟨wr.heap.size,3,none⟩ = some (.int .u64 x.f3):=(hb3.cell (p:=⟨wr.heap.size,3,none⟩) (by simp)).trans (World.cell?_alloc_at _ _ _ _ rfl);
               have HO3:=am_ (Kd.R_below HO1.out hb3); have HB3:=am_ (HB1.out.trans (hb3.mono HB1.out.size)); clear hb3 HO1 HB1)
            | ((with_reducible refine gate_store (t:=118) (p:=33) rfl ?_); refine Kd.R_store k118 w1.heap.size rfl rfl 118 (.tmp 33) (.tmp 32) rfl 118 (w0:=w1) (ii:Int) 0 L x (.agg #[.int .i64 x.f0,.int .i64 x.f1,.int .i64 x.f2,.int .u64 x.f3]) [.int .i64 x.f0,.int .i64 x.f1,.int .i64 x.f2,.int .u64 x.f3] [.int .i64 (rd_T118 L ii).f0,.int .i64 (rd_T118 L ii).f1,.int .i64 (rd_T118 L ii).f2,.int .u64 (rd_T118 L ii).f3] (fun _ => True) (fun _ => False) rfl ?s1 rfl rfl ?s2 ?s3 HO3.out ?s4 hii rfl ?s5 ?s6 ?s7 ?s8 HB3.out ?_;
               (case s1 => first | rfl | simp); (case s2 => kernel_rfl); (case s3 => simp [Value.oneCell']); (case s4 => omega); (case s5 => exact del_cells118 HO3.out (by have:=HS.out.1; omega)); (case s6 => exact Nat.le_refl 4); (case s7 => exact k118_mkM _ _ _ x); (case s8 => exact fun _ hk => hk.elim); intro w4 ho4 hb4 hg4; have HO4:=am_ ho4; have HB4:=am_ hb4; clear ho4 hb4 hg4 HO3 HB3))
          go_roundg (n - (jj + 1))
          case measure => omega
          case rel => exact ⟨ii + 1,jj + 1,L.set ii x,by go_num,by go_num,by omega,by omega,by omega,⟨del_keep HS.out h1 HX.out HQ.out⟩,by have h:=HO4.out; rw [Int.toNat_natCast] at h; exact ⟨h⟩,HB4⟩
      · have e:jj = n:=by omega
        have HE:Aside0 (L.take ii = l.filter (fun x => !p x)):=⟨by have:=HS.out; subst e; exact del_end this HN.out⟩
        have hj0:(0:Int) ≤ (ii:Int):=by omega
        have hj1:(ii:Int) ≤ (jj:Int):=by omega
        have hj2:ii < c:=by omega
        obtain ⟨W5,hrun0,ho5,hg5⟩:=R_clear (P:=Tryd.prog) k118 HO.out ii (by omega) 115 0 (.agg #[.int .i64 0,.int .i64 0,.int .i64 0,.int .u64 0]) Tryd.underlying115 (fun _ => by kernel_rfl) rfl (zeroCells_one _ _ (by simp [Value.cells,Value.oneCell']))
        have hrun:(Builtin.clear_ #[115] 0 #[.slice (some ⟨gb,ii * 4,none⟩) (n - ii) (c - ii)]).run Tryd.prog wr = .ok (.tuple #[]) W5:=hrun0
        have HO5:=am_ ho5
        have HB5:=am_ (HB.out.grown hg5 HB.out.size (fun k hk => by cases hk; exact Kd.R_base HO.out gb (by simp [Value.ownBlock])))
        clear hlt h1 h2 h3 hi0 hne hrun0 ho5 hg5 HO HB
        subst e
        go_wp2_with fail
        go_ret
        exact ⟨_,rfl,by rw [← HE.out]; exact HO5.out,HB5.out⟩


set_option maxHeartbeats 2000000 in
theorem cloneSq_any (A0:Option Addr) (c0:Nat) (l0:List S118) (w:World) (hr0:Kd.C k118 w A0 l0.length l0) (hl:l0.length ≤ 1000000) :
    Calls Tryd.prog 155 #[.slice A0 l0.length c0] w fun e w' => ∃ v,e = .returned v ∧ Kd.R k118 118 w' w.heap.size (fun _ => True) v l0 ∧ Below w.heap.size w w':=by
  have hi5:(Tryd.prog.info? 118).map (fun i => (i.zero,i.size,i.bytes)) = some (some (.agg #[.int .i64 0,.int .i64 0,.int .i64 0,.int .u64 0]),4,32):=by kernel_rfl
  have HR:=am_ hr0
  have HL:=am_ hl
  rcases A0 with _ | a0
  · have h0:l0 = []:=by
      rcases Nat.eq_zero_or_pos l0.length with h | h
      · exact List.eq_nil_of_length_eq_zero h
      · obtain ⟨ad,h,_⟩:=hr0.2.2 h
        cases h
    subst h0
    clear hr0 hl HR HL
    have heq:=fun w n c => eql_none_nil (P:=Tryd.prog) Tryd.underlying115 w n c
    go_enter Tryd.func155,Tryd.ntmps155
    go_wp2_with fail
    go_ret
    exact ⟨_,rfl,Kd.R_nil _ _ _ _ _,Below.refl _ _⟩
  · clear hr0 hl
    have heq:=fun w n c => eql_some_nil (P:=Tryd.prog) Tryd.underlying115 w a0 n c
    go_enter Tryd.func155,Tryd.ntmps155
    go_wp2_with ((at_builtin; refine Kd.R_append_rows k118 (Rr:=k118.K w) (w0:=w) w.heap.size rfl _ _ _ _ _ 32 rfl Tryd.underlying115 hi5 rfl (by decide) (by decide) (.slice (some ⟨w.heap.size,0,none⟩) 0 0) [] l0 _ _ _ (fun _ => True) (fun _ => False) rfl rfl ?xA ?xB ?xK (fun _ h => h.elim) (fun _ _ => trivial) ?xC ?xD ?xE ?_; (case xA => exact Kd.R_mono (R_lit0 k118 118 w w.heap.size (Nat.le_refl _)) (fun _ _ => trivial)); (case xB => exact ReadsRow.imp_ HR.out (below_alloc (Below.refl _ _) _) (fun _ _ h => h)); (case xK => intro x cs h; obtain rfl:=k118_open h; exact k118_mkM _ _ _ x); (case xC => exact below_alloc (Below.refl _ _) _); (case xD => simp); (case xE => have h_:=HL.out; simp; omega); intro v1 w1 ho hb hg hat; have HO:=am_ ho; have HB:=am_ hb; clear ho hb hg hat))
    go_ret
    exact ⟨_,rfl,HO.out,HB.out⟩


def ofP (s:Int) (q:S118):Bool:=Go.bits .andNot .u64 q.f3 s == 0
def impl_of.f (l0:List S118) (a1:Int):Option (List S118):=if l0.length ≤ 1000000 then some (l0.filter (ofP a1)) else none
theorem of_lit (a1:Int) (B:Nat) (W:World) (x:S118) (h1:W.cell? ⟨B,0,none⟩ = some (.int .u64 a1)) :
    Calls Tryd.prog 156 (#[.agg #[.int .i64 x.f0,.int .i64 x.f1,.int .i64 x.f2,.int .u64 x.f3]] ++ #[.pointer (some ⟨B,0,none⟩)]) W fun e w' => e = .returned (.bool (!(ofP a1 x))) ∧ Below W.heap.size W w':=by
  have hb:=wl_ W _ h1
  show Calls Tryd.prog 156 #[.agg #[.int .i64 x.f0,.int .i64 x.f1,.int .i64 x.f2,.int .u64 x.f3],.pointer (some ⟨B,0,none⟩)] W _
  go_enter Tryd.func156,Tryd.ntmps156
  go_wp2
  go_ret
  exact ⟨by unfold ofP; rfl,below_alloc (Below.refl _ _) _⟩
theorem impl_of.calls (A0:Option Addr) (c0:Nat) (l0:List S118) (a1:Int) (r:List S118) (w:World) (hr0:Kd.C k118 w A0 l0.length l0) (hc0:l0.length ≤ c0) (h:impl_of.f l0 a1 = some r) :
    Calls Tryd.prog 128 #[.slice A0 l0.length c0,.int .u64 a1] w fun e w' => ∃ v0_:Value,e = .returned v0_ ∧ Kd.R k118 118 w' w.heap.size (fun _ => True) v0_ r ∧ Below w.heap.size w w':=by
  have hmf:∀ (fn:Fn) (first cap:Array Value) (w:World),(Instr.makeFunc fn first cap).run Tryd.prog w = .ok (.func fn first cap) w:=fun _ _ _ _ => rfl
  have eg:∀ args w,(callFunc 156 args).run Tryd.prog w = .ok (.enter 156 args) w:=Go.Proofs.enters_of Tryd.func156 (by kernel_rfl) rfl
  unfold impl_of.f at h
  by_cases hl:l0.length ≤ 1000000
  · rw [if_pos hl] at h
    obtain rfl:=Option.some.inj h
    have HC:=am_ (cloneSq_any A0 c0 l0 (w.alloc (.cells #[.int .u64 a1] 56)) (Kd.C_alloc hr0 _) hl)
    have HD:Aside0 (∀ W v,Below (w.alloc (.cells #[.int .u64 a1] 56)).heap.size (w.alloc (.cells #[.int .u64 a1] 56)) W → Kd.R k118 118 W (w.alloc (.cells #[.int .u64 a1] 56)).heap.size (fun _ => True) v l0 →
        Calls Tryd.prog 154 #[v,.func (.func 156) #[] #[.pointer (some ⟨w.heap.size,0,none⟩)]] W fun e w' => ∃ v',e = .returned v' ∧ Kd.R k118 118 w' w.heap.size (fun _ => True) v' (l0.filter (ofP a1)) ∧ Below w.heap.size w w'):=⟨fun W v hB hr => by
      have hp:PredS118 156 #[.pointer (some ⟨w.heap.size,0,none⟩)] (fun x => !(ofP a1 x)) (w.alloc (.cells #[.int .u64 a1] 56)):=fun W2 x hb =>
        of_lit a1 w.heap.size W2 x (pw_cell_below hb (World.cell?_alloc_at _ _ _ _ rfl))
      refine (deleteS118_any _ _ _ eg _ W v l0 hB hr hp).mono ?_
      rintro e w' ⟨v',rfl,h1,h2⟩
      refine ⟨v',rfl,?_,below_step (below_alloc (Below.refl _ _) _) h2⟩
      rw [show l0.filter (ofP a1) = l0.filter fun x => !(!(ofP a1 x)) from by simp only [Bool.not_not]]
      exact Kd.R_lower h1 (by simp)⟩
    clear hr0 hc0 hl h eg
    generalize l0.filter (ofP a1) = R at HD ⊢
    go_enter Tryd.func128,Tryd.ntmps128
    go_wp2_with (first
      | (go_at_call 155; refine HC.out.mono ?_; rintro e w1 ⟨v,rfl,hr,hb⟩; have HR:=am_ hr; have HB:=am_ hb; clear hr hb)
      | (go_at_call 154; refine (HD.out _ _ HB.out HR.out).mono ?_; rintro e w2 ⟨v2,rfl,hr2,hb2⟩; have HR2:=am_ hr2; have HB2:=am_ hb2; clear hr2 hb2))
    go_ret
    exact ⟨_,rfl,HR2.out,HB2.out⟩
  · rw [if_neg hl] at h
    cases h


def impl_grid_level.f (a0_0:Int) (a0_1:Int) (a1:Int) (a2:Int):Option (Int):=if 0 ≤ (wrap64 ((wrap64 (a2 * a0_0)) + a1)) then (some (shl .u64 1 (wrap64 ((wrap64 (a2 * a0_0)) + a1)))) else (none)
set_option maxHeartbeats 8000000 in
set_option maxRecDepth 100000 in
theorem impl_grid_level.calls (a0_0:Int) (a0_1:Int) (a1:Int) (a2:Int) (r:Int) (w:World) (h:impl_grid_level.f a0_0 a0_1 a1 a2 = some r) :
    Calls Tryd.prog 54 #[.agg #[.int .i64 a0_0,.int .i64 a0_1],.int .i64 a1,.int .i64 a2] w fun e w' => e = .returned (.int .u64 r) ∧ Below w.heap.size w w':=by
  have hu75:=Tryd.underlying75
  have HB:=am_ (Below.refl w.heap.size w)
  have H:(if 0 ≤ (wrap64 ((wrap64 (a2 * a0_0)) + a1)) then (some (shl .u64 1 (wrap64 ((wrap64 (a2 * a0_0)) + a1)))) else (none)) = some r:=h
  clear h
  obtain ⟨ji4,hji4⟩:∃ j_:Int,(wrap64 ((wrap64 (a2 * a0_0)) + a1)) = j_:=⟨_,rfl⟩
  replace H:(if 0 ≤ (ji4) then (some (shl .u64 1 (ji4))) else (none)) = some r:=by first | (rw [hji4] at H; exact H) | (simp only [hji4] at H ⊢; exact H)
  have hji4w:(IntKind.i64.wrap ((wrap64 (a2 * a0_0)) + a1)) = ji4:=(i64_w _).trans hji4
  by_cases c5:0 ≤ (ji4)
  · rw [if_pos c5] at H
    have c5b0:=eq_true c5
    have c5b1:decide (0 ≤ (ji4)) = true:=decide_eq_true c5
    clear c5
    obtain ⟨ji6,hji6⟩:∃ j_:Int,(shl .u64 1 (ji4)) = j_:=⟨_,rfl⟩
    replace H:(some ji6) = some r:=by first | (rw [hji6] at H; exact H) | (simp only [hji6] at H ⊢; exact H)
    have hji6_:(IntKind.u64.wrap (1 * 2 ^ min (ji4).toNat 64)) = ji6:=hji6
    have hji6z:(ji4) ≤ 64 → (IntKind.u64.wrap (1 * 2 ^ (ji4).toNat)) = ji6:=shl_small hji6
    have hji6u:(IntKind.u64.wrap (2 ^ min (ji4).toNat 64)) = ji6:=by have h_:=hji6_; rw [Int.one_mul] at h_; exact h_
    have hji6v:(ji4) ≤ 64 → (IntKind.u64.wrap (2 ^ (ji4).toNat)) = ji6:=fun hle_ => by have h_:=hji6z hle_; rw [Int.one_mul] at h_; exact h_
    obtain rfl:=Option.some.inj H
    go_enter Tryd.func54,Tryd.ntmps54
    go_wp2_with (first | ((with_reducible refine gate_dst (N:=3) rfl ?_); refine boxE_ (N:=3) (cs:=#[.int .i64 a0_0,.int .i64 a0_1]) (t:=75) ?_; intro gb199 hg w7 hbox hb; have n0_:=am_ (below_step (bl0_ HB.out) hb); have n1_:=am_ (hbox); have n2_:=am_ ((bs0_ hg HB.out:w.heap.size ≤ gb199)); have n3_:=am_ ((bs0_ hg HB.out:w.heap.size ≤ gb199)); clear HB; have HB:=n0_; have BK199:=n1_; have GW199:=n2_; have GE199:=n3_; clear n0_ n1_ n2_ n3_; clear hb hbox hg; have hcz8_0:w7.cell? ⟨gb199,0,none⟩ = some (.int .i64 a0_0):=(bc_ BK199.out 0).trans rfl; have hcz8_1:w7.cell? ⟨gb199,1,none⟩ = some (.int .i64 a0_1):=(bc_ BK199.out 1).trans rfl; have hfz8_0:=bz_ BK199.out 0; have hfz8_1:=bz_ BK199.out 1))
    go_ret
    exact ⟨by first | rfl | (simp [errW_none,errW_some] <;> rfl) | (simp only [← hji4,← hji6]; first | rfl | (simp [errW_none,errW_some] <;> rfl)) | (simp [*,errW_none,errW_some] <;> rfl),bl1_ HB.out GE199.out⟩
  · rw [if_neg c5] at H
    exact absurd H (by simp)


def impl_grid_upright.f (a0_0:Int) (a0_1:Int) (a1:Int) (a2:Int):Option (Int):=(impl_grid_levels.f a0_0 a0_1).bind fun t201 => (if 0 ≤ (wrap64 ((wrap64 (t201 + (wrap64 (a2 * (wrap64 (a0_0 + 1)))))) + a1)) then (some (shl .u64 1 (wrap64 ((wrap64 (t201 + (wrap64 (a2 * (wrap64 (a0_0 + 1)))))) + a1)))) else (none))
def impl_grid_upright.T1:Bool × List (List Nat × List Nat):=(true,[([],[]),([0],[0]),([],[]),([],[]),([3],[3]),([4],[4]),([2,5],[2,5]),([1,6],[1,6]),([],[]),([7,8],[7,8]),([9],[9]),([10,1,0,1,2,3,4,5,6,7,8,9,10],[10])])
def impl_grid_upright.B1:List Nat:=[0,1,0,0,8,24,60,127,0,511,1023,2047]
theorem impl_grid_upright.tab1:rtab .any (opsOf Tryd.f55 1) = impl_grid_upright.T1:=by kernel_rfl
theorem impl_grid_upright.bits1:waitsOk impl_grid_upright.T1.2 impl_grid_upright.B1 = true:=by kernel_rfl
set_option maxHeartbeats 8000000 in
set_option maxRecDepth 100000 in
theorem impl_grid_upright.calls (a0_0:Int) (a0_1:Int) (a1:Int) (a2:Int) (r:Int) (w:World) (h:impl_grid_upright.f a0_0 a0_1 a1 a2 = some r) :
  Calls Tryd.prog 55 #[.agg #[.int .i64 a0_0,.int .i64 a0_1],.int .i64 a1,.int .i64 a2] w fun e w' => e = .returned (.int .u64 r) ∧ Below w.heap.size w w':=by
 have hu75:=Tryd.underlying75
 have HB:=am_ (Below.refl w.heap.size w)
 have H:((impl_grid_levels.f a0_0 a0_1).bind fun t201 => (if 0 ≤ (wrap64 ((wrap64 (t201 + (wrap64 (a2 * (wrap64 (a0_0 + 1)))))) + a1)) then (some (shl .u64 1 (wrap64 ((wrap64 (t201 + (wrap64 (a2 * (wrap64 (a0_0 + 1)))))) + a1)))) else (none))) = some r:=h
 clear h
 replace H:=bi_ H
 obtain ⟨t201,A40,H⟩:=H
 replace H:(if 0 ≤ (wrap64 ((wrap64 (t201 + (wrap64 (a2 * (wrap64 (a0_0 + 1)))))) + a1)) then (some (shl .u64 1 (wrap64 ((wrap64 (t201 + (wrap64 (a2 * (wrap64 (a0_0 + 1)))))) + a1)))) else (none)) = some r:=H
 have A4:=am_ A40
 clear A40
 obtain ⟨ji5,hji5⟩:∃ j_:Int,(wrap64 ((wrap64 (t201 + (wrap64 (a2 * (wrap64 (a0_0 + 1)))))) + a1)) = j_:=⟨_,rfl⟩
 replace H:(if 0 ≤ (ji5) then (some (shl .u64 1 (ji5))) else (none)) = some r:=by first | (rw [hji5] at H; exact H) | (simp only [hji5] at H ⊢; exact H)
 (try rw [hji5] at A4)
 have hji5w:(IntKind.i64.wrap ((wrap64 (t201 + (wrap64 (a2 * (wrap64 (a0_0 + 1)))))) + a1)) = ji5:=(i64_w _).trans hji5
 by_cases c6:0 ≤ (ji5)
 ·rw [if_pos c6] at H
  have c6b0:=eq_true c6
  have c6b1:decide (0 ≤ (ji5)) = true:=decide_eq_true c6
  clear c6
  obtain ⟨ji7,hji7⟩:∃ j_:Int,(shl .u64 1 (ji5)) = j_:=⟨_,rfl⟩
  replace H:(some ji7) = some r:=by first | (rw [hji7] at H; exact H) | (simp only [hji7] at H ⊢; exact H)
  (try rw [hji7] at A4)
  have hji7_:(IntKind.u64.wrap (1 * 2 ^ min (ji5).toNat 64)) = ji7:=hji7
  have hji7z:(ji5) ≤ 64 → (IntKind.u64.wrap (1 * 2 ^ (ji5).toNat)) = ji7:=shl_small hji7
  have hji7u:(IntKind.u64.wrap (2 ^ min (ji5).toNat 64)) = ji7:=by have h_:=hji7_; rw [Int.one_mul] at h_; exact h_
  have hji7v:(ji5) ≤ 64 → (IntKind.u64.wrap (2 ^ (ji5).toNat)) = ji7:=fun hle_ => by have h_:=hji7z hle_; rw [Int.one_mul] at h_; exact h_
  obtain rfl:=Option.some.inj H
  go_enter Tryd.func55,Tryd.ntmps55
  try go_wp2_with (first | ((with_reducible refine gate_dst (N:=3) rfl ?_); refine boxE_ (N:=3) (cs:=#[.int .i64 a0_0,.int .i64 a0_1]) (t:=75) ?_; intro gb200 hg w8 hbox hb; have n0_:=am_ (below_step (bl0_ HB.out) hb); have n1_:=am_ (hbox); have n2_:=am_ ((bs0_ hg HB.out:w.heap.size ≤ gb200)); have n3_:=am_ ((bs0_ hg HB.out:w.heap.size ≤ gb200)); clear HB; have HB:=n0_; have BK200:=n1_; have GW200:=n2_; have GE200:=n3_; clear n0_ n1_ n2_ n3_; clear hb hbox hg))
  have n0_:=am_ (blk_drew BK200.out)
  have n1_:=am_ (below_drew1 HB.out)
  clear BK200
  clear HB
  have BK200:=n0_
  have HB:=n1_
  clear n0_ n1_
  refine start_ (n:=12) (S:=fun w' => w'.cell? ⟨gb200,0,none⟩ = some (.int .i64 a0_0) ∧ w'.cell? ⟨gb200,1,none⟩ = some (.int .i64 a0_1)) (ds:=[]) #[false,false,false,false,false,false,false,false,false,false,false,false] (by kernel_rfl) rfl rfl ⟨(bc_ BK200.out 0).trans rfl,(bc_ BK200.out 1).trans rfl⟩ (fun hHeld => ?_); refine with_tabW impl_grid_upright.tab1 impl_grid_upright.bits1 (fun HT_ HW_ => ?_)
  generalize w8.drew = w9 at BK200 HB hHeld ⊢
  refine pure_ (i:=2) (N:=some 9) (v:=?_) (a':=?_) #[false,false,true,false,false,false,false,false,false,false,false,false] rfl rfl (any_of HT_.out (by kernel_rfl)) (fun _ _ _ h => h) (Or.inl ⟨by rfl,?_⟩) ?_ ?_
  rotate_left
  ·intro w'
   go_simp
   with_reducible rfl
  rotate_left
  ·simp only [Act.put,List.setIfInBounds_toArray,List.set_cons_zero,List.set_cons_succ,i64_w,i32_w]
   rfl
  refine pure_ (i:=3) (N:=some 10) (v:=?_) (a':=?_) #[false,false,true,true,false,false,false,false,false,false,false,false] rfl rfl (any_of HT_.out (by kernel_rfl)) (fun _ _ _ h => h) (Or.inl ⟨by rfl,?_⟩) ?_ ?_
  rotate_left
  ·intro w'
   go_simp
   with_reducible rfl
  rotate_left
  ·simp only [Act.put,List.setIfInBounds_toArray,List.set_cons_zero,List.set_cons_succ,i64_w,i32_w]
   rfl
  refine pure_ (i:=8) (N:=some 15) (v:=?_) (a':=?_) #[false,false,true,true,false,false,false,false,true,false,false,false] rfl rfl (any_of HT_.out (by kernel_rfl)) (fun _ _ _ h => h) (Or.inl ⟨by rfl,?_⟩) ?_ ?_
  rotate_left
  ·intro w'
   go_simp
   with_reducible rfl
  rotate_left
  ·simp only [Act.put,List.setIfInBounds_toArray,List.set_cons_zero,List.set_cons_succ,i64_w,i32_w]
   rfl
  refine take_ (i:=0) (N:=some 7) (v:=?_) (a':=?_) #[true,false,true,true,false,false,false,false,true,false,false,false] rfl rfl (take_ofW HT_.out HW_.out (by kernel_rfl)) (fun _ _ _ h => h) (Or.inl ⟨by rfl,?_⟩) hHeld ?_ ?_
  rotate_left
  ·rintro w' ⟨s0,s1⟩
   go_simp
   with_reducible rfl
  rotate_left
  ·simp only [Act.put,List.setIfInBounds_toArray,List.set_cons_zero,List.set_cons_succ,i64_w,i32_w]
   rfl
  refine take_ (i:=4) (N:=some 11) (v:=?_) (a':=?_) #[true,false,true,true,true,false,false,false,true,false,false,false] rfl rfl (take_ofW HT_.out HW_.out (by kernel_rfl)) (fun _ _ _ h => h) (Or.inl ⟨by rfl,?_⟩) hHeld ?_ ?_
  rotate_left
  ·rintro w' ⟨s0,s1⟩
   go_simp
   with_reducible rfl
  rotate_left
  ·simp only [Act.put,List.setIfInBounds_toArray,List.set_cons_zero,List.set_cons_succ,i64_w,i32_w]
   rfl
  refine pure_ (i:=5) (N:=some 12) (v:=?_) (a':=?_) #[true,false,true,true,true,true,false,false,true,false,false,false] rfl rfl (any_of HT_.out (by kernel_rfl)) (fun _ _ _ h => h) (Or.inl ⟨by rfl,?_⟩) ?_ ?_
  rotate_left
  ·intro w'
   go_simp
   with_reducible rfl
  rotate_left
  ·simp only [Act.put,List.setIfInBounds_toArray,List.set_cons_zero,List.set_cons_succ,i64_w,i32_w]
   rfl
  refine pure_ (i:=6) (N:=some 13) (v:=?_) (a':=?_) #[true,false,true,true,true,true,true,false,true,false,false,false] rfl rfl (any_of HT_.out (by kernel_rfl)) (fun _ _ _ h => h) (Or.inl ⟨by rfl,?_⟩) ?_ ?_
  rotate_left
  ·intro w'
   go_simp
   with_reducible rfl
  rotate_left
  ·simp only [Act.put,List.setIfInBounds_toArray,List.set_cons_zero,List.set_cons_succ,i64_w,i32_w]
   rfl
  refine one_ (i:=1) (N:=some 8) #[true,true,true,true,true,true,true,false,true,false,false,false] rfl rfl (one_of HT_.out (by kernel_rfl)) (by decide) (fun K hK => ?_)
  refine goes_ Tryd.func101 (by kernel_rfl) rfl #[.agg #[.int .i64 a0_0,.int .i64 a0_1]] (by rfl) rfl rfl ob_ ?_
  with_reducible refine (impl_grid_levels.calls a0_0 a0_1 t201 _ A4.out).mono ?_
  rintro e w10 ⟨rfl,hb⟩
  refine ⟨_,rfl,?_⟩
  have n0_:=am_ (bb_ BK200.out hb)
  have n1_:=am_ (below_step (bl1_ HB.out GE200.out) hb)
  clear BK200
  clear HB
  have BK200:=n0_
  have HB:=n1_
  clear n0_ n1_
  (try clear hb)
  (try clear hb2)
  (try clear hk)
  (try clear hi)
  refine hK.out _ _ ⟨(bc_ BK200.out 0).trans rfl,(bc_ BK200.out 1).trans rfl⟩ (fun hHeld => ?_)
  clear hK K
  refine norm_ (a':=?_) ?_ ?_
  rotate_left
  ·show Act.put _ (some 8) _ = _
   simp only [Act.put,List.setIfInBounds_toArray,List.set_cons_zero,List.set_cons_succ,i64_w,i32_w]
   rfl
  refine pure_ (i:=7) (N:=some 14) (v:=?_) (a':=?_) #[true,true,true,true,true,true,true,true,true,false,false,false] rfl rfl (any_of HT_.out (by kernel_rfl)) (fun _ _ _ h => h) (Or.inl ⟨by rfl,?_⟩) ?_ ?_
  rotate_left
  ·intro w'
   go_simp
   with_reducible rfl
  rotate_left
  ·simp only [Act.put,List.setIfInBounds_toArray,List.set_cons_zero,List.set_cons_succ,i64_w,i32_w]
   rfl
  refine pure_ (i:=9) (N:=some 16) (v:=?_) (a':=?_) #[true,true,true,true,true,true,true,true,true,true,false,false] rfl rfl (any_of HT_.out (by kernel_rfl)) (fun _ _ _ h => h) (Or.inl ⟨by rfl,?_⟩) ?_ ?_
  rotate_left
  ·intro w'
   go_simp
   with_reducible rfl
  rotate_left
  ·simp only [Act.put,List.setIfInBounds_toArray,List.set_cons_zero,List.set_cons_succ,i64_w,i32_w]
   rfl
  refine pure_ (i:=10) (N:=some 17) (v:=?_) (a':=?_) #[true,true,true,true,true,true,true,true,true,true,true,false] rfl rfl (any_of HT_.out (by kernel_rfl)) (fun _ _ _ h => h) (Or.inl ⟨by rfl,?_⟩) ?_ ?_
  rotate_left
  ·intro w'
   go_simp
   with_reducible rfl
  rotate_left
  ·simp only [Act.put,List.setIfInBounds_toArray,List.set_cons_zero,List.set_cons_succ,i64_w,i32_w]
   rfl
  refine pure_ (i:=11) (N:=some 6) (v:=?_) (a':=?_) #[true,true,true,true,true,true,true,true,true,true,true,true] rfl rfl (any_of HT_.out (by kernel_rfl)) (fun _ _ _ h => h) (Or.inl ⟨by rfl,?_⟩) ?_ ?_
  rotate_left
  ·intro w'
   go_simp
   with_reducible rfl
  rotate_left
  ·simp only [Act.put,List.setIfInBounds_toArray,List.set_cons_zero,List.set_cons_succ,i64_w,i32_w]
   rfl
  refine done_ (done_of HT_.out (by kernel_rfl)) ?_
  try go_wp2
  go_ret
  exact ⟨by first | rfl | (simp [errW_none,errW_some] <;> rfl) | (simp only [← hji5,← hji7]; first | rfl | (simp [errW_none,errW_some] <;> rfl)) | (simp [*,errW_none,errW_some] <;> rfl),bl1_ HB.out GE200.out⟩
 ·rw [if_neg c6] at H
  exact absurd H (by simp)


mutual
def impl_grid_around.l0:Nat → Int → Int → Int → Int → Int → Int → Int → Int → Int → Option (Int)
 | 0,_,_,_,_,_,_,_,_,_ => none
 | k + 1,x1,x2,x3,x4,x11,x14,x15,x203000,x203001 => if x15 < x14 then ((impl_grid_level.f x203000 x203001 (wrap64 (x1 + x15)) x2).bind fun t203 => ((impl_grid_level.f x203000 x203001 (wrap64 (x1 + x15)) (wrap64 (x2 + x4))).bind fun t204 => (impl_grid_around.l0 k x1 x2 x3 x4 (Go.bits .or .u64 x11 (Go.bits .or .u64 t203 t204)) x14 (wrap64 (x15 + 1)) x203000 x203001))) else (impl_grid_around.l1 k x1 x2 x3 x11 x4 0 x203000 x203001)
def impl_grid_around.l1:Nat → Int → Int → Int → Int → Int → Int → Int → Int → Option (Int)
 | 0,_,_,_,_,_,_,_,_ => none
 | k + 1,x1,x2,x3,x11,x36,x37,x203000,x203001 => if x37 < x36 then ((impl_grid_upright.f x203000 x203001 x1 (wrap64 (x2 + x37))).bind fun t205 => ((impl_grid_upright.f x203000 x203001 (wrap64 (x1 + x3)) (wrap64 (x2 + x37))).bind fun t206 => (impl_grid_around.l1 k x1 x2 x3 (Go.bits .or .u64 x11 (Go.bits .or .u64 t205 t206)) x36 (wrap64 (x37 + 1)) x203000 x203001))) else (some x11)
end
def impl_grid_around.f (k:Nat) (a0_0:Int) (a0_1:Int) (a1:Int) (a2:Int) (a3:Int) (a4:Int):Option (Int):=impl_grid_around.l0 k a1 a2 a3 a4 0 a3 0 a0_0 a0_1
theorem impl_grid_around.mono_l:∀ k,(∀ y0 y1 y2 y3 y4 y5 y6 y7 y8,LeO (impl_grid_around.l0 k y0 y1 y2 y3 y4 y5 y6 y7 y8) (impl_grid_around.l0 (k + 1) y0 y1 y2 y3 y4 y5 y6 y7 y8)) ∧ (∀ y0 y1 y2 y3 y4 y5 y6 y7,LeO (impl_grid_around.l1 k y0 y1 y2 y3 y4 y5 y6 y7) (impl_grid_around.l1 (k + 1) y0 y1 y2 y3 y4 y5 y6 y7))
 | 0 => ⟨fun _ _ _ _ _ _ _ _ _ r h => by simp [impl_grid_around.l0] at h,fun _ _ _ _ _ _ _ _ r h => by simp [impl_grid_around.l1] at h⟩
 | k + 1 => by
  obtain ⟨ih0,ih1⟩:=impl_grid_around.mono_l k
  refine ⟨?_,?_⟩
  ·intro y0 y1 y2 y3 y4 y5 y6 y7 y8
   unfold impl_grid_around.l0
   repeat' first | (with_reducible first | exact ih0 _ _ _ _ _ _ _ _ _ | exact ih1 _ _ _ _ _ _ _ _ | exact LeO.refl _ | exact LeO.none _ | refine LeO.ite ?_ ?_ | refine LeO.bind ?_ (fun _ => ?_)) | exact ih0 _ _ _ _ _ _ _ _ _ | exact ih1 _ _ _ _ _ _ _ _
  ·intro y0 y1 y2 y3 y4 y5 y6 y7
   unfold impl_grid_around.l1
   repeat' first | (with_reducible first | exact ih0 _ _ _ _ _ _ _ _ _ | exact ih1 _ _ _ _ _ _ _ _ | exact LeO.refl _ | exact LeO.none _ | refine LeO.ite ?_ ?_ | refine LeO.bind ?_ (fun _ => ?_)) | exact ih0 _ _ _ _ _ _ _ _ _ | exact ih1 _ _ _ _ _ _ _ _
theorem impl_grid_around.mono:∀ a0 a1 a2 a3 a4 a5 k,LeO (impl_grid_around.f k a0 a1 a2 a3 a4 a5) (impl_grid_around.f (k + 1) a0 a1 a2 a3 a4 a5):=by
 intro a0 a1 a2 a3 a4 a5 k
 obtain ⟨ih0,ih1⟩:=impl_grid_around.mono_l k
 unfold impl_grid_around.f
 repeat' first | (with_reducible first | exact ih0 _ _ _ _ _ _ _ _ _ | exact ih1 _ _ _ _ _ _ _ _ | exact LeO.refl _ | exact LeO.none _ | refine LeO.ite ?_ ?_ | refine LeO.bind ?_ (fun _ => ?_)) | exact ih0 _ _ _ _ _ _ _ _ _ | exact ih1 _ _ _ _ _ _ _ _
def impl_grid_around.T5:Bool × List (List Nat × List Nat):=(true,[([],[]),([],[]),([],[]),([],[]),([2,3],[2,3]),([],[]),([1,4,5],[1,4,5]),([],[]),([],[]),([],[]),([8,9],[8,9]),([],[]),([],[]),([11,12],[11,12]),([7,10,13,6],[7,10,13]),([6,14],[6,14]),([0,15],[0,15]),([16,14,0,1,2,3,4,5,6,7,8,9,10,11,12,13,14,15,16],[0,16])])
def impl_grid_around.B5:List Nat:=[0,0,0,0,12,0,62,0,0,0,768,0,0,6144,16382,32766,65535,131071]
theorem impl_grid_around.tab5:rtab .any (opsOf Tryd.f157 5) = impl_grid_around.T5:=by kernel_rfl
theorem impl_grid_around.bits5:waitsOk impl_grid_around.T5.2 impl_grid_around.B5 = true:=by kernel_rfl
def impl_grid_around.T10:Bool × List (List Nat × List Nat):=(true,[([],[]),([],[]),([],[]),([],[]),([],[]),([3,4],[3,4]),([1,2,5],[1,2,5]),([],[]),([],[]),([],[]),([8,9],[8,9]),([],[]),([],[]),([11,12],[11,12]),([7,10,13,6],[7,10,13]),([6,14],[6,14]),([0,15],[0,15]),([16,14,0,1,2,3,4,5,6,7,8,9,10,11,12,13,14,15,16],[0,16])])
def impl_grid_around.B10:List Nat:=[0,0,0,0,0,24,62,0,0,0,768,0,0,6144,16382,32766,65535,131071]
theorem impl_grid_around.tab10:rtab .any (opsOf Tryd.f157 10) = impl_grid_around.T10:=by kernel_rfl
theorem impl_grid_around.bits10:waitsOk impl_grid_around.T10.2 impl_grid_around.B10 = true:=by kernel_rfl
set_option maxHeartbeats 8000000 in
set_option maxRecDepth 100000 in
theorem impl_grid_around.calls (k:Nat) (a0_0:Int) (a0_1:Int) (a1:Int) (a2:Int) (a3:Int) (a4:Int) (r:Int) (w:World) (h:impl_grid_around.f k a0_0 a0_1 a1 a2 a3 a4 = some r) :
  Calls Tryd.prog 157 #[.agg #[.int .i64 a0_0,.int .i64 a0_1],.int .i64 a1,.int .i64 a2,.int .i64 a3,.int .i64 a4] w fun e w' => e = .returned (.int .u64 r) ∧ Below w.heap.size w w':=by
 have hu75:=Tryd.underlying75
 have HB:=am_ (Below.refl w.heap.size w)
 have H:(impl_grid_around.l0 k a1 a2 a3 a4 0 a3 0 a0_0 a0_1) = some r:=h
 clear h
 have H':=am_ H
 clear H
 go_enter Tryd.func157,Tryd.ntmps157
 go_wp2_with (first | ((with_reducible refine gate_dst (N:=5) rfl ?_); refine boxE_ (N:=5) (cs:=#[.int .i64 a0_0,.int .i64 a0_1]) (t:=75) ?_; intro gb202 hg w6 hbox hb; have n0_:=am_ (below_step (bl0_ HB.out) hb); have n1_:=am_ (hbox); have n2_:=am_ ((bs0_ hg HB.out:w.heap.size ≤ gb202)); have n3_:=am_ ((bs0_ hg HB.out:w.heap.size ≤ gb202)); clear HB; have HB:=n0_; have BK202:=n1_; have GW202:=n2_; have GE202:=n3_; clear n0_ n1_ n2_ n3_; clear hb hbox hg))
 go_loopg [11,15] k (fun kq v11 v15 w' => ∃ (x11_1:Int) (x15_1:Int),v11 = .int .u64 x11_1 ∧ v15 = .int .i64 x15_1 ∧ Aside0 (impl_grid_around.l0 kq a1 a2 a3 a4 x11_1 a3 x15_1 a0_0 a0_1 = some r) ∧ Aside0 (kq ≤ k) ∧ Aside0 (w'.heap[gb202]? = some (.cells #[.int .i64 a0_0,.int .i64 a0_1] 75 (0,0))) ∧ Aside0 (Below w.heap.size w w'))
 case atStart => exact ⟨(0),(0),rs_,rs_,H',⟨Nat.le_refl _⟩,⟨bk_ BK202.out⟩,⟨bl1_ HB.out GE202.out⟩⟩
 case round =>
  clear H'
  try clear c1
  try clear p2
  obtain ⟨x11_1,x15_1,rfl,rfl,HA,HK1,BK202,HB⟩:=hrel
  cases gk with
  | zero => exact absurd HA.out (by simp [impl_grid_around.l0])
  | succ k1 =>
   have H:=HA.out
   clear HA
   simp only [impl_grid_around.l0] at H
   by_cases c7:x15_1 < a3
   ·rw [if_pos c7] at H
    have c7b0:decide (x15_1 < a3) = true:=decide_eq_true c7
    clear c7
    replace H:=bi_ H
    obtain ⟨t203,A80,H⟩:=H
    replace H:((impl_grid_level.f a0_0 a0_1 (wrap64 (a1 + x15_1)) (wrap64 (a2 + a4))).bind fun t204 => (impl_grid_around.l0 k1 a1 a2 a3 a4 (Go.bits .or .u64 x11_1 (Go.bits .or .u64 t203 t204)) a3 (wrap64 (x15_1 + 1)) a0_0 a0_1)) = some r:=H
    have A8:=am_ A80
    clear A80
    replace H:=bi_ H
    obtain ⟨t204,A90,H⟩:=H
    replace H:(impl_grid_around.l0 k1 a1 a2 a3 a4 (Go.bits .or .u64 x11_1 (Go.bits .or .u64 t203 t204)) a3 (wrap64 (x15_1 + 1)) a0_0 a0_1) = some r:=H
    have A9:=am_ A90
    clear A90
    have H':=am_ H
    clear H
    try go_wp2
    have n0_:=am_ (blk_drew BK202.out)
    have n1_:=am_ (below_drew1 HB.out)
    clear BK202
    clear HB
    have BK202:=n0_
    have HB:=n1_
    clear n0_ n1_
    refine start_ (n:=18) (S:=fun w' => w'.cell? ⟨gb202,0,none⟩ = some (.int .i64 a0_0) ∧ w'.cell? ⟨gb202,1,none⟩ = some (.int .i64 a0_1)) (ds:=[]) #[false,false,false,false,false,false,false,false,false,false,false,false,false,false,false,false,false,false] (by kernel_rfl) rfl rfl ⟨(bc_ BK202.out 0).trans rfl,(bc_ BK202.out 1).trans rfl⟩ (fun hHeld => ?_); refine with_tabW impl_grid_around.tab5 impl_grid_around.bits5 (fun HT_ HW_ => ?_)
    generalize wr.drew = w10 at BK202 HB hHeld ⊢
    refine pure_ (i:=0) (N:=some 18) (v:=?_) (a':=?_) #[true,false,false,false,false,false,false,false,false,false,false,false,false,false,false,false,false,false] rfl rfl (any_of HT_.out (by kernel_rfl)) (fun _ _ _ h => h) (Or.inl ⟨by rfl,?_⟩) ?_ ?_
    rotate_left
    ·intro w'
     go_simp
     with_reducible rfl
    rotate_left
    ·simp only [Act.put,List.setIfInBounds_toArray,List.set_cons_zero,List.set_cons_succ,i64_w,i32_w]
     rfl
    refine pure_ (i:=2) (N:=some 20) (v:=?_) (a':=?_) #[true,false,true,false,false,false,false,false,false,false,false,false,false,false,false,false,false,false] rfl rfl (any_of HT_.out (by kernel_rfl)) (fun _ _ _ h => h) (Or.inl ⟨by rfl,?_⟩) ?_ ?_
    rotate_left
    ·intro w'
     go_simp
     with_reducible rfl
    rotate_left
    ·simp only [Act.put,List.setIfInBounds_toArray,List.set_cons_zero,List.set_cons_succ,i64_w,i32_w]
     rfl
    refine pure_ (i:=3) (N:=some 21) (v:=?_) (a':=?_) #[true,false,true,true,false,false,false,false,false,false,false,false,false,false,false,false,false,false] rfl rfl (any_of HT_.out (by kernel_rfl)) (fun _ _ _ h => h) (Or.inl ⟨by rfl,?_⟩) ?_ ?_
    rotate_left
    ·intro w'
     go_simp
     with_reducible rfl
    rotate_left
    ·simp only [Act.put,List.setIfInBounds_toArray,List.set_cons_zero,List.set_cons_succ,i64_w,i32_w]
     rfl
    refine pure_ (i:=4) (N:=some 22) (v:=?_) (a':=?_) #[true,false,true,true,true,false,false,false,false,false,false,false,false,false,false,false,false,false] rfl rfl (any_of HT_.out (by kernel_rfl)) (fun _ _ _ h => h) (Or.inl ⟨by rfl,?_⟩) ?_ ?_
    rotate_left
    ·intro w'
     go_simp
     with_reducible rfl
    rotate_left
    ·simp only [Act.put,List.setIfInBounds_toArray,List.set_cons_zero,List.set_cons_succ,i64_w,i32_w]
     rfl
    refine pure_ (i:=5) (N:=some 23) (v:=?_) (a':=?_) #[true,false,true,true,true,true,false,false,false,false,false,false,false,false,false,false,false,false] rfl rfl (any_of HT_.out (by kernel_rfl)) (fun _ _ _ h => h) (Or.inl ⟨by rfl,?_⟩) ?_ ?_
    rotate_left
    ·intro w'
     go_simp
     with_reducible rfl
    rotate_left
    ·simp only [Act.put,List.setIfInBounds_toArray,List.set_cons_zero,List.set_cons_succ,i64_w,i32_w]
     rfl
    refine pure_ (i:=8) (N:=some 26) (v:=?_) (a':=?_) #[true,false,true,true,true,true,false,false,true,false,false,false,false,false,false,false,false,false] rfl rfl (any_of HT_.out (by kernel_rfl)) (fun _ _ _ h => h) (Or.inl ⟨by rfl,?_⟩) ?_ ?_
    rotate_left
    ·intro w'
     go_simp
     with_reducible rfl
    rotate_left
    ·simp only [Act.put,List.setIfInBounds_toArray,List.set_cons_zero,List.set_cons_succ,i64_w,i32_w]
     rfl
    refine pure_ (i:=9) (N:=some 27) (v:=?_) (a':=?_) #[true,false,true,true,true,true,false,false,true,true,false,false,false,false,false,false,false,false] rfl rfl (any_of HT_.out (by kernel_rfl)) (fun _ _ _ h => h) (Or.inl ⟨by rfl,?_⟩) ?_ ?_
    rotate_left
    ·intro w'
     go_simp
     with_reducible rfl
    rotate_left
    ·simp only [Act.put,List.setIfInBounds_toArray,List.set_cons_zero,List.set_cons_succ,i64_w,i32_w]
     rfl
    refine pure_ (i:=10) (N:=some 28) (v:=?_) (a':=?_) #[true,false,true,true,true,true,false,false,true,true,true,false,false,false,false,false,false,false] rfl rfl (any_of HT_.out (by kernel_rfl)) (fun _ _ _ h => h) (Or.inl ⟨by rfl,?_⟩) ?_ ?_
    rotate_left
    ·intro w'
     go_simp
     with_reducible rfl
    rotate_left
    ·simp only [Act.put,List.setIfInBounds_toArray,List.set_cons_zero,List.set_cons_succ,i64_w,i32_w]
     rfl
    refine pure_ (i:=11) (N:=some 29) (v:=?_) (a':=?_) #[true,false,true,true,true,true,false,false,true,true,true,true,false,false,false,false,false,false] rfl rfl (any_of HT_.out (by kernel_rfl)) (fun _ _ _ h => h) (Or.inl ⟨by rfl,?_⟩) ?_ ?_
    rotate_left
    ·intro w'
     go_simp
     with_reducible rfl
    rotate_left
    ·simp only [Act.put,List.setIfInBounds_toArray,List.set_cons_zero,List.set_cons_succ,i64_w,i32_w]
     rfl
    refine pure_ (i:=12) (N:=some 30) (v:=?_) (a':=?_) #[true,false,true,true,true,true,false,false,true,true,true,true,true,false,false,false,false,false] rfl rfl (any_of HT_.out (by kernel_rfl)) (fun _ _ _ h => h) (Or.inl ⟨by rfl,?_⟩) ?_ ?_
    rotate_left
    ·intro w'
     go_simp
     with_reducible rfl
    rotate_left
    ·simp only [Act.put,List.setIfInBounds_toArray,List.set_cons_zero,List.set_cons_succ,i64_w,i32_w]
     rfl
    refine pure_ (i:=13) (N:=some 31) (v:=?_) (a':=?_) #[true,false,true,true,true,true,false,false,true,true,true,true,true,true,false,false,false,false] rfl rfl (any_of HT_.out (by kernel_rfl)) (fun _ _ _ h => h) (Or.inl ⟨by rfl,?_⟩) ?_ ?_
    rotate_left
    ·intro w'
     go_simp
     with_reducible rfl
    rotate_left
    ·simp only [Act.put,List.setIfInBounds_toArray,List.set_cons_zero,List.set_cons_succ,i64_w,i32_w]
     rfl
    refine take_ (i:=1) (N:=some 19) (v:=?_) (a':=?_) #[true,true,true,true,true,true,false,false,true,true,true,true,true,true,false,false,false,false] rfl rfl (take_ofW HT_.out HW_.out (by kernel_rfl)) (fun _ _ _ h => h) (Or.inl ⟨by rfl,?_⟩) hHeld ?_ ?_
    rotate_left
    ·rintro w' ⟨s0,s1⟩
     go_simp
     with_reducible rfl
    rotate_left
    ·simp only [Act.put,List.setIfInBounds_toArray,List.set_cons_zero,List.set_cons_succ,i64_w,i32_w]
     rfl
    refine take_ (i:=7) (N:=some 25) (v:=?_) (a':=?_) #[true,true,true,true,true,true,false,true,true,true,true,true,true,true,false,false,false,false] rfl rfl (take_ofW HT_.out HW_.out (by kernel_rfl)) (fun _ _ _ h => h) (Or.inl ⟨by rfl,?_⟩) hHeld ?_ ?_
    rotate_left
    ·rintro w' ⟨s0,s1⟩
     go_simp
     with_reducible rfl
    rotate_left
    ·simp only [Act.put,List.setIfInBounds_toArray,List.set_cons_zero,List.set_cons_succ,i64_w,i32_w]
     rfl
    refine one_ (i:=6) (N:=some 24) #[true,true,true,true,true,true,true,true,true,true,true,true,true,true,false,false,false,false] rfl rfl (one_of HT_.out (by kernel_rfl)) (by decide) (fun K hK => ?_)
    refine goes_ Tryd.func54 (by kernel_rfl) rfl #[.agg #[.int .i64 a0_0,.int .i64 a0_1],.int .i64 (wrap64 (a1 + x15_1)),.int .i64 a2] (by rfl) rfl rfl ob_ ?_
    with_reducible refine (impl_grid_level.calls a0_0 a0_1 (wrap64 (a1 + x15_1)) a2 t203 _ A8.out).mono ?_
    rintro e w11 ⟨rfl,hb⟩
    refine ⟨_,rfl,?_⟩
    have n0_:=am_ (bb_ BK202.out hb)
    have n1_:=am_ (below_step (bl1_ HB.out GE202.out) hb)
    clear BK202
    clear HB
    have BK202:=n0_
    have HB:=n1_
    clear n0_ n1_
    (try clear hb)
    (try clear hb2)
    (try clear hk)
    (try clear hi)
    refine hK.out _ _ ⟨(bc_ BK202.out 0).trans rfl,(bc_ BK202.out 1).trans rfl⟩ (fun hHeld => ?_)
    clear hK K
    refine norm_ (a':=?_) ?_ ?_
    rotate_left
    ·show Act.put _ (some 24) _ = _
     simp only [Act.put,List.setIfInBounds_toArray,List.set_cons_zero,List.set_cons_succ,i64_w,i32_w]
     rfl
    refine one_ (i:=14) (N:=some 32) #[true,true,true,true,true,true,true,true,true,true,true,true,true,true,true,false,false,false] rfl rfl (one_of HT_.out (by kernel_rfl)) (by decide) (fun K hK => ?_)
    refine goes_ Tryd.func54 (by kernel_rfl) rfl #[.agg #[.int .i64 a0_0,.int .i64 a0_1],.int .i64 (wrap64 (a1 + x15_1)),.int .i64 (wrap64 (a2 + a4))] (by rfl) rfl rfl ob_ ?_
    with_reducible refine (impl_grid_level.calls a0_0 a0_1 (wrap64 (a1 + x15_1)) (wrap64 (a2 + a4)) t204 _ A9.out).mono ?_
    rintro e w12 ⟨rfl,hb⟩
    refine ⟨_,rfl,?_⟩
    have n0_:=am_ (bb_ BK202.out hb)
    have n1_:=am_ (below_step (bl1_ HB.out GE202.out) hb)
    clear BK202
    clear HB
    have BK202:=n0_
    have HB:=n1_
    clear n0_ n1_
    (try clear hb)
    (try clear hb2)
    (try clear hk)
    (try clear hi)
    refine hK.out _ _ ⟨(bc_ BK202.out 0).trans rfl,(bc_ BK202.out 1).trans rfl⟩ (fun hHeld => ?_)
    clear hK K
    refine norm_ (a':=?_) ?_ ?_
    rotate_left
    ·show Act.put _ (some 32) _ = _
     simp only [Act.put,List.setIfInBounds_toArray,List.set_cons_zero,List.set_cons_succ,i64_w,i32_w]
     rfl
    refine pure_ (i:=15) (N:=some 33) (v:=?_) (a':=?_) #[true,true,true,true,true,true,true,true,true,true,true,true,true,true,true,true,false,false] rfl rfl (any_of HT_.out (by kernel_rfl)) (fun _ _ _ h => h) (Or.inl ⟨by rfl,?_⟩) ?_ ?_
    rotate_left
    ·intro w'
     go_simp
     with_reducible rfl
    rotate_left
    ·simp only [Act.put,List.setIfInBounds_toArray,List.set_cons_zero,List.set_cons_succ,i64_w,i32_w]
     rfl
    refine pure_ (i:=16) (N:=some 34) (v:=?_) (a':=?_) #[true,true,true,true,true,true,true,true,true,true,true,true,true,true,true,true,true,false] rfl rfl (any_of HT_.out (by kernel_rfl)) (fun _ _ _ h => h) (Or.inl ⟨by rfl,?_⟩) ?_ ?_
    rotate_left
    ·intro w'
     go_simp
     with_reducible rfl
    rotate_left
    ·simp only [Act.put,List.setIfInBounds_toArray,List.set_cons_zero,List.set_cons_succ,i64_w,i32_w]
     rfl
    refine pure_ (i:=17) (N:=some 11) (v:=?_) (a':=?_) #[true,true,true,true,true,true,true,true,true,true,true,true,true,true,true,true,true,true] rfl rfl (any_of HT_.out (by kernel_rfl)) (fun _ _ _ h => h) (Or.inl ⟨by rfl,?_⟩) ?_ ?_
    rotate_left
    ·intro w'
     go_simp
     with_reducible rfl
    rotate_left
    ·simp only [Act.put,List.setIfInBounds_toArray,List.set_cons_zero,List.set_cons_succ,i64_w,i32_w]
     rfl
    refine done_ (done_of HT_.out (by kernel_rfl)) ?_
    try go_wp2
    go_roundg k1
    case measure => have:=HK1.out; omega
    case rel => exact ⟨(Go.bits .or .u64 x11_1 (Go.bits .or .u64 t203 t204)),(wrap64 (x15_1 + 1)),rs_,rs_,H',⟨by have:=HK1.out; omega⟩,⟨bk_ BK202.out⟩,⟨bl1_ HB.out GE202.out⟩⟩
   ·rw [if_neg c7] at H
    have c7b0:decide (x15_1 < a3) = false:=decide_eq_false c7
    clear c7
    have H':=am_ H
    clear H
    go_wp2
    go_loopg [11,37] k1 (fun kq v11 v37 w' => ∃ (x11_2:Int) (x37_2:Int),v11 = .int .u64 x11_2 ∧ v37 = .int .i64 x37_2 ∧ Aside0 (impl_grid_around.l1 kq a1 a2 a3 x11_2 a4 x37_2 a0_0 a0_1 = some r) ∧ Aside0 (kq ≤ k1) ∧ Aside0 (w'.heap[gb202]? = some (.cells #[.int .i64 a0_0,.int .i64 a0_1] 75 (0,0))) ∧ Aside0 (Below w.heap.size w w'))
    case atStart => exact ⟨(x11_1),(0),rs_,rs_,H',⟨Nat.le_refl _⟩,⟨bk_ BK202.out⟩,⟨bl1_ HB.out GE202.out⟩⟩
    case round =>
     clear H'
     try clear c1
     try clear p2
     try clear c5
     try clear p6
     try clear c7
     try clear c7b0
     try clear p2
     obtain ⟨x11_2,x37_2,rfl,rfl,HA,HK2,BK202,HB⟩:=hrel
     cases gk with
     | zero => exact absurd HA.out (by simp [impl_grid_around.l1])
     | succ k2 =>
      have H:=HA.out
      clear HA
      simp only [impl_grid_around.l1] at H
      by_cases c13:x37_2 < a4
      ·rw [if_pos c13] at H
       have c13b0:decide (x37_2 < a4) = true:=decide_eq_true c13
       clear c13
       replace H:=bi_ H
       obtain ⟨t205,A140,H⟩:=H
       replace H:((impl_grid_upright.f a0_0 a0_1 (wrap64 (a1 + a3)) (wrap64 (a2 + x37_2))).bind fun t206 => (impl_grid_around.l1 k2 a1 a2 a3 (Go.bits .or .u64 x11_2 (Go.bits .or .u64 t205 t206)) a4 (wrap64 (x37_2 + 1)) a0_0 a0_1)) = some r:=H
       have A14:=am_ A140
       clear A140
       replace H:=bi_ H
       obtain ⟨t206,A150,H⟩:=H
       replace H:(impl_grid_around.l1 k2 a1 a2 a3 (Go.bits .or .u64 x11_2 (Go.bits .or .u64 t205 t206)) a4 (wrap64 (x37_2 + 1)) a0_0 a0_1) = some r:=H
       have A15:=am_ A150
       clear A150
       have H':=am_ H
       clear H
       try go_wp2
       have n0_:=am_ (blk_drew BK202.out)
       have n1_:=am_ (below_drew1 HB.out)
       clear BK202
       clear HB
       have BK202:=n0_
       have HB:=n1_
       clear n0_ n1_
       refine start_ (n:=18) (S:=fun w' => w'.cell? ⟨gb202,0,none⟩ = some (.int .i64 a0_0) ∧ w'.cell? ⟨gb202,1,none⟩ = some (.int .i64 a0_1)) (ds:=[]) #[false,false,false,false,false,false,false,false,false,false,false,false,false,false,false,false,false,false] (by kernel_rfl) rfl rfl ⟨(bc_ BK202.out 0).trans rfl,(bc_ BK202.out 1).trans rfl⟩ (fun hHeld => ?_); refine with_tabW impl_grid_around.tab10 impl_grid_around.bits10 (fun HT_ HW_ => ?_)
       generalize wr.drew = w16 at BK202 HB hHeld ⊢
       refine pure_ (i:=0) (N:=some 40) (v:=?_) (a':=?_) #[true,false,false,false,false,false,false,false,false,false,false,false,false,false,false,false,false,false] rfl rfl (any_of HT_.out (by kernel_rfl)) (fun _ _ _ h => h) (Or.inl ⟨by rfl,?_⟩) ?_ ?_
       rotate_left
       ·intro w'
        go_simp
        with_reducible rfl
       rotate_left
       ·simp only [Act.put,List.setIfInBounds_toArray,List.set_cons_zero,List.set_cons_succ,i64_w,i32_w]
        rfl
       refine pure_ (i:=2) (N:=some 42) (v:=?_) (a':=?_) #[true,false,true,false,false,false,false,false,false,false,false,false,false,false,false,false,false,false] rfl rfl (any_of HT_.out (by kernel_rfl)) (fun _ _ _ h => h) (Or.inl ⟨by rfl,?_⟩) ?_ ?_
       rotate_left
       ·intro w'
        go_simp
        with_reducible rfl
       rotate_left
       ·simp only [Act.put,List.setIfInBounds_toArray,List.set_cons_zero,List.set_cons_succ,i64_w,i32_w]
        rfl
       refine pure_ (i:=3) (N:=some 43) (v:=?_) (a':=?_) #[true,false,true,true,false,false,false,false,false,false,false,false,false,false,false,false,false,false] rfl rfl (any_of HT_.out (by kernel_rfl)) (fun _ _ _ h => h) (Or.inl ⟨by rfl,?_⟩) ?_ ?_
       rotate_left
       ·intro w'
        go_simp
        with_reducible rfl
       rotate_left
       ·simp only [Act.put,List.setIfInBounds_toArray,List.set_cons_zero,List.set_cons_succ,i64_w,i32_w]
        rfl
       refine pure_ (i:=4) (N:=some 44) (v:=?_) (a':=?_) #[true,false,true,true,true,false,false,false,false,false,false,false,false,false,false,false,false,false] rfl rfl (any_of HT_.out (by kernel_rfl)) (fun _ _ _ h => h) (Or.inl ⟨by rfl,?_⟩) ?_ ?_
       rotate_left
       ·intro w'
        go_simp
        with_reducible rfl
       rotate_left
       ·simp only [Act.put,List.setIfInBounds_toArray,List.set_cons_zero,List.set_cons_succ,i64_w,i32_w]
        rfl
       refine pure_ (i:=5) (N:=some 45) (v:=?_) (a':=?_) #[true,false,true,true,true,true,false,false,false,false,false,false,false,false,false,false,false,false] rfl rfl (any_of HT_.out (by kernel_rfl)) (fun _ _ _ h => h) (Or.inl ⟨by rfl,?_⟩) ?_ ?_
       rotate_left
       ·intro w'
        go_simp
        with_reducible rfl
       rotate_left
       ·simp only [Act.put,List.setIfInBounds_toArray,List.set_cons_zero,List.set_cons_succ,i64_w,i32_w]
        rfl
       refine pure_ (i:=8) (N:=some 48) (v:=?_) (a':=?_) #[true,false,true,true,true,true,false,false,true,false,false,false,false,false,false,false,false,false] rfl rfl (any_of HT_.out (by kernel_rfl)) (fun _ _ _ h => h) (Or.inl ⟨by rfl,?_⟩) ?_ ?_
       rotate_left
       ·intro w'
        go_simp
        with_reducible rfl
       rotate_left
       ·simp only [Act.put,List.setIfInBounds_toArray,List.set_cons_zero,List.set_cons_succ,i64_w,i32_w]
        rfl
       refine pure_ (i:=9) (N:=some 49) (v:=?_) (a':=?_) #[true,false,true,true,true,true,false,false,true,true,false,false,false,false,false,false,false,false] rfl rfl (any_of HT_.out (by kernel_rfl)) (fun _ _ _ h => h) (Or.inl ⟨by rfl,?_⟩) ?_ ?_
       rotate_left
       ·intro w'
        go_simp
        with_reducible rfl
       rotate_left
       ·simp only [Act.put,List.setIfInBounds_toArray,List.set_cons_zero,List.set_cons_succ,i64_w,i32_w]
        rfl
       refine pure_ (i:=10) (N:=some 50) (v:=?_) (a':=?_) #[true,false,true,true,true,true,false,false,true,true,true,false,false,false,false,false,false,false] rfl rfl (any_of HT_.out (by kernel_rfl)) (fun _ _ _ h => h) (Or.inl ⟨by rfl,?_⟩) ?_ ?_
       rotate_left
       ·intro w'
        go_simp
        with_reducible rfl
       rotate_left
       ·simp only [Act.put,List.setIfInBounds_toArray,List.set_cons_zero,List.set_cons_succ,i64_w,i32_w]
        rfl
       refine pure_ (i:=11) (N:=some 51) (v:=?_) (a':=?_) #[true,false,true,true,true,true,false,false,true,true,true,true,false,false,false,false,false,false] rfl rfl (any_of HT_.out (by kernel_rfl)) (fun _ _ _ h => h) (Or.inl ⟨by rfl,?_⟩) ?_ ?_
       rotate_left
       ·intro w'
        go_simp
        with_reducible rfl
       rotate_left
       ·simp only [Act.put,List.setIfInBounds_toArray,List.set_cons_zero,List.set_cons_succ,i64_w,i32_w]
        rfl
       refine pure_ (i:=12) (N:=some 52) (v:=?_) (a':=?_) #[true,false,true,true,true,true,false,false,true,true,true,true,true,false,false,false,false,false] rfl rfl (any_of HT_.out (by kernel_rfl)) (fun _ _ _ h => h) (Or.inl ⟨by rfl,?_⟩) ?_ ?_
       rotate_left
       ·intro w'
        go_simp
        with_reducible rfl
       rotate_left
       ·simp only [Act.put,List.setIfInBounds_toArray,List.set_cons_zero,List.set_cons_succ,i64_w,i32_w]
        rfl
       refine pure_ (i:=13) (N:=some 53) (v:=?_) (a':=?_) #[true,false,true,true,true,true,false,false,true,true,true,true,true,true,false,false,false,false] rfl rfl (any_of HT_.out (by kernel_rfl)) (fun _ _ _ h => h) (Or.inl ⟨by rfl,?_⟩) ?_ ?_
       rotate_left
       ·intro w'
        go_simp
        with_reducible rfl
       rotate_left
       ·simp only [Act.put,List.setIfInBounds_toArray,List.set_cons_zero,List.set_cons_succ,i64_w,i32_w]
        rfl
       refine take_ (i:=1) (N:=some 41) (v:=?_) (a':=?_) #[true,true,true,true,true,true,false,false,true,true,true,true,true,true,false,false,false,false] rfl rfl (take_ofW HT_.out HW_.out (by kernel_rfl)) (fun _ _ _ h => h) (Or.inl ⟨by rfl,?_⟩) hHeld ?_ ?_
       rotate_left
       ·rintro w' ⟨s0,s1⟩
        go_simp
        with_reducible rfl
       rotate_left
       ·simp only [Act.put,List.setIfInBounds_toArray,List.set_cons_zero,List.set_cons_succ,i64_w,i32_w]
        rfl
       refine take_ (i:=7) (N:=some 47) (v:=?_) (a':=?_) #[true,true,true,true,true,true,false,true,true,true,true,true,true,true,false,false,false,false] rfl rfl (take_ofW HT_.out HW_.out (by kernel_rfl)) (fun _ _ _ h => h) (Or.inl ⟨by rfl,?_⟩) hHeld ?_ ?_
       rotate_left
       ·rintro w' ⟨s0,s1⟩
        go_simp
        with_reducible rfl
       rotate_left
       ·simp only [Act.put,List.setIfInBounds_toArray,List.set_cons_zero,List.set_cons_succ,i64_w,i32_w]
        rfl
       refine one_ (i:=6) (N:=some 46) #[true,true,true,true,true,true,true,true,true,true,true,true,true,true,false,false,false,false] rfl rfl (one_of HT_.out (by kernel_rfl)) (by decide) (fun K hK => ?_)
       refine goes_ Tryd.func55 (by kernel_rfl) rfl #[.agg #[.int .i64 a0_0,.int .i64 a0_1],.int .i64 a1,.int .i64 (wrap64 (a2 + x37_2))] (by rfl) rfl rfl ob_ ?_
       with_reducible refine (impl_grid_upright.calls a0_0 a0_1 a1 (wrap64 (a2 + x37_2)) t205 _ A14.out).mono ?_
       rintro e w17 ⟨rfl,hb⟩
       refine ⟨_,rfl,?_⟩
       have n0_:=am_ (bb_ BK202.out hb)
       have n1_:=am_ (below_step (bl1_ HB.out GE202.out) hb)
       clear BK202
       clear HB
       have BK202:=n0_
       have HB:=n1_
       clear n0_ n1_
       (try clear hb)
       (try clear hb2)
       (try clear hk)
       (try clear hi)
       refine hK.out _ _ ⟨(bc_ BK202.out 0).trans rfl,(bc_ BK202.out 1).trans rfl⟩ (fun hHeld => ?_)
       clear hK K
       refine norm_ (a':=?_) ?_ ?_
       rotate_left
       ·show Act.put _ (some 46) _ = _
        simp only [Act.put,List.setIfInBounds_toArray,List.set_cons_zero,List.set_cons_succ,i64_w,i32_w]
        rfl
       refine one_ (i:=14) (N:=some 54) #[true,true,true,true,true,true,true,true,true,true,true,true,true,true,true,false,false,false] rfl rfl (one_of HT_.out (by kernel_rfl)) (by decide) (fun K hK => ?_)
       refine goes_ Tryd.func55 (by kernel_rfl) rfl #[.agg #[.int .i64 a0_0,.int .i64 a0_1],.int .i64 (wrap64 (a1 + a3)),.int .i64 (wrap64 (a2 + x37_2))] (by rfl) rfl rfl ob_ ?_
       with_reducible refine (impl_grid_upright.calls a0_0 a0_1 (wrap64 (a1 + a3)) (wrap64 (a2 + x37_2)) t206 _ A15.out).mono ?_
       rintro e w18 ⟨rfl,hb⟩
       refine ⟨_,rfl,?_⟩
       have n0_:=am_ (bb_ BK202.out hb)
       have n1_:=am_ (below_step (bl1_ HB.out GE202.out) hb)
       clear BK202
       clear HB
       have BK202:=n0_
       have HB:=n1_
       clear n0_ n1_
       (try clear hb)
       (try clear hb2)
       (try clear hk)
       (try clear hi)
       refine hK.out _ _ ⟨(bc_ BK202.out 0).trans rfl,(bc_ BK202.out 1).trans rfl⟩ (fun hHeld => ?_)
       clear hK K
       refine norm_ (a':=?_) ?_ ?_
       rotate_left
       ·show Act.put _ (some 54) _ = _
        simp only [Act.put,List.setIfInBounds_toArray,List.set_cons_zero,List.set_cons_succ,i64_w,i32_w]
        rfl
       refine pure_ (i:=15) (N:=some 55) (v:=?_) (a':=?_) #[true,true,true,true,true,true,true,true,true,true,true,true,true,true,true,true,false,false] rfl rfl (any_of HT_.out (by kernel_rfl)) (fun _ _ _ h => h) (Or.inl ⟨by rfl,?_⟩) ?_ ?_
       rotate_left
       ·intro w'
        go_simp
        with_reducible rfl
       rotate_left
       ·simp only [Act.put,List.setIfInBounds_toArray,List.set_cons_zero,List.set_cons_succ,i64_w,i32_w]
        rfl
       refine pure_ (i:=16) (N:=some 56) (v:=?_) (a':=?_) #[true,true,true,true,true,true,true,true,true,true,true,true,true,true,true,true,true,false] rfl rfl (any_of HT_.out (by kernel_rfl)) (fun _ _ _ h => h) (Or.inl ⟨by rfl,?_⟩) ?_ ?_
       rotate_left
       ·intro w'
        go_simp
        with_reducible rfl
       rotate_left
       ·simp only [Act.put,List.setIfInBounds_toArray,List.set_cons_zero,List.set_cons_succ,i64_w,i32_w]
        rfl
       refine pure_ (i:=17) (N:=some 11) (v:=?_) (a':=?_) #[true,true,true,true,true,true,true,true,true,true,true,true,true,true,true,true,true,true] rfl rfl (any_of HT_.out (by kernel_rfl)) (fun _ _ _ h => h) (Or.inl ⟨by rfl,?_⟩) ?_ ?_
       rotate_left
       ·intro w'
        go_simp
        with_reducible rfl
       rotate_left
       ·simp only [Act.put,List.setIfInBounds_toArray,List.set_cons_zero,List.set_cons_succ,i64_w,i32_w]
        rfl
       refine done_ (done_of HT_.out (by kernel_rfl)) ?_
       try go_wp2
       go_roundg k2
       case measure => have:=HK1.out; have:=HK2.out; omega
       case rel => exact ⟨(Go.bits .or .u64 x11_2 (Go.bits .or .u64 t205 t206)),(wrap64 (x37_2 + 1)),rs_,rs_,H',⟨by have:=HK1.out; have:=HK2.out; omega⟩,⟨bk_ BK202.out⟩,⟨bl1_ HB.out GE202.out⟩⟩
      ·rw [if_neg c13] at H
       have c13b0:decide (x37_2 < a4) = false:=decide_eq_false c13
       clear c13
       obtain rfl:=Option.some.inj H
       go_wp2
       go_ret
       exact ⟨er_,bl1_ HB.out GE202.out⟩


mutual
def impl_grid_squares.l0:Nat → List (S118) → Int → Int → Int → Option ((List (S118)))
 | 0,_,_,_,_ => none
 | k + 1,x3,x4,x208000,x208001 => if x4 ≤ (mn x208000 x208001) then (impl_grid_squares.l1 k x3 x4 0 x208000 x208001) else (some x3)
def impl_grid_squares.l1:Nat → List (S118) → Int → Int → Int → Int → Option ((List (S118)))
 | 0,_,_,_,_,_ => none
 | k + 1,x3,x4,x5,x208000,x208001 => if (wrap64 (x5 + x4)) ≤ x208001 then (impl_grid_squares.l2 k x3 x4 x5 0 x208000 x208001) else (impl_grid_squares.l0 k x3 (wrap64 (x4 + 1)) x208000 x208001)
def impl_grid_squares.l2:Nat → List (S118) → Int → Int → Int → Int → Int → Option ((List (S118)))
 | 0,_,_,_,_,_,_ => none
 | k + 1,x3,x4,x5,x6,x208000,x208001 => if (wrap64 (x6 + x4)) ≤ x208000 then ((impl_grid_around.f k x208000 x208001 x6 x5 x4 x4).bind fun t211 => (if x3.length < 4398046511104 then (impl_grid_squares.l2 k (x3 ++ [(⟨x6,x5,x4,t211⟩:S118)]) x4 x5 (wrap64 (x6 + 1)) x208000 x208001) else (none))) else (impl_grid_squares.l1 k x3 x4 (wrap64 (x5 + 1)) x208000 x208001)
end
def impl_grid_squares.f (k:Nat) (a0_0:Int) (a0_1:Int):Option ((List (S118))):=impl_grid_squares.l0 k (([]:List (S118))) 1 a0_0 a0_1
theorem impl_grid_squares.mono_l:∀ k,(∀ y0 y1 y2 y3,LeO (impl_grid_squares.l0 k y0 y1 y2 y3) (impl_grid_squares.l0 (k + 1) y0 y1 y2 y3)) ∧ (∀ y0 y1 y2 y3 y4,LeO (impl_grid_squares.l1 k y0 y1 y2 y3 y4) (impl_grid_squares.l1 (k + 1) y0 y1 y2 y3 y4)) ∧ (∀ y0 y1 y2 y3 y4 y5,LeO (impl_grid_squares.l2 k y0 y1 y2 y3 y4 y5) (impl_grid_squares.l2 (k + 1) y0 y1 y2 y3 y4 y5))
 | 0 => ⟨fun _ _ _ _ r h => by simp [impl_grid_squares.l0] at h,fun _ _ _ _ _ r h => by simp [impl_grid_squares.l1] at h,fun _ _ _ _ _ _ r h => by simp [impl_grid_squares.l2] at h⟩
 | k + 1 => by
  obtain ⟨ih0,ih1,ih2⟩:=impl_grid_squares.mono_l k
  refine ⟨?_,?_,?_⟩
  ·intro y0 y1 y2 y3
   unfold impl_grid_squares.l0
   repeat' first | (with_reducible first | exact ih0 _ _ _ _ | exact ih1 _ _ _ _ _ | exact ih2 _ _ _ _ _ _ | exact impl_grid_around.mono _ _ _ _ _ _ _ | exact LeO.refl _ | exact LeO.none _ | refine LeO.ite ?_ ?_ | refine LeO.bind ?_ (fun _ => ?_)) | exact ih0 _ _ _ _ | exact ih1 _ _ _ _ _ | exact ih2 _ _ _ _ _ _ | exact impl_grid_around.mono _ _ _ _ _ _ _
  ·intro y0 y1 y2 y3 y4
   unfold impl_grid_squares.l1
   repeat' first | (with_reducible first | exact ih0 _ _ _ _ | exact ih1 _ _ _ _ _ | exact ih2 _ _ _ _ _ _ | exact impl_grid_around.mono _ _ _ _ _ _ _ | exact LeO.refl _ | exact LeO.none _ | refine LeO.ite ?_ ?_ | refine LeO.bind ?_ (fun _ => ?_)) | exact ih0 _ _ _ _ | exact ih1 _ _ _ _ _ | exact ih2 _ _ _ _ _ _ | exact impl_grid_around.mono _ _ _ _ _ _ _
  ·intro y0 y1 y2 y3 y4 y5
   unfold impl_grid_squares.l2
   repeat' first | (with_reducible first | exact ih0 _ _ _ _ | exact ih1 _ _ _ _ _ | exact ih2 _ _ _ _ _ _ | exact impl_grid_around.mono _ _ _ _ _ _ _ | exact LeO.refl _ | exact LeO.none _ | refine LeO.ite ?_ ?_ | refine LeO.bind ?_ (fun _ => ?_)) | exact ih0 _ _ _ _ | exact ih1 _ _ _ _ _ | exact ih2 _ _ _ _ _ _ | exact impl_grid_around.mono _ _ _ _ _ _ _
theorem impl_grid_squares.mono:∀ a0 a1 k,LeO (impl_grid_squares.f k a0 a1) (impl_grid_squares.f (k + 1) a0 a1):=by
 intro a0 a1 k
 obtain ⟨ih0,ih1,ih2⟩:=impl_grid_squares.mono_l k
 unfold impl_grid_squares.f
 repeat' first | (with_reducible first | exact ih0 _ _ _ _ | exact ih1 _ _ _ _ _ | exact ih2 _ _ _ _ _ _ | exact impl_grid_around.mono _ _ _ _ _ _ _ | exact LeO.refl _ | exact LeO.none _ | refine LeO.ite ?_ ?_ | refine LeO.bind ?_ (fun _ => ?_)) | exact ih0 _ _ _ _ | exact ih1 _ _ _ _ _ | exact ih2 _ _ _ _ _ _ | exact impl_grid_around.mono _ _ _ _ _ _ _
set_option maxHeartbeats 8000000 in
set_option maxRecDepth 100000 in
theorem impl_grid_squares.calls (k:Nat) (a0_0:Int) (a0_1:Int) (r:List (S118)) (w:World) (h:impl_grid_squares.f k a0_0 a0_1 = some r) :
  Calls Tryd.prog 129 #[.agg #[.int .i64 a0_0,.int .i64 a0_1]] w fun e w' => ∃ v0_:Value,e = .returned (v0_) ∧ Kd.R k118 118 w' w.heap.size (fun _ => True) v0_ r ∧ Below w.heap.size w w':=by
 have hu75:=Tryd.underlying75
 have hu118:=Tryd.underlying118
 have HB:=am_ (Below.refl w.heap.size w)
 have H:(impl_grid_squares.l0 k (([]:List (S118))) 1 a0_0 a0_1) = some r:=h
 clear h
 obtain ⟨y208,hy208⟩:∃ y_:List (S118),y_ = (([]:List (S118))):=⟨_,rfl⟩
 replace H:(impl_grid_squares.l0 k y208 1 a0_0 a0_1) = some r:=by first | (rw [hy208]; with_reducible exact H) | (have H2_:=(Option.bind_some _ _).symm.trans H; rw [hy208]; with_reducible exact H2_) | (have H2_:=(Option.bind_some _ _).symm.trans H; with_reducible exact H2_) | with_reducible exact H | (rw [hy208]; exact H) | exact H
 have Ny208:=am_ hy208
 clear hy208
 have H':=am_ H
 clear H
 go_enter Tryd.func129,Tryd.ntmps129
 go_wp2_with (first | ((with_reducible refine gate_dst (N:=1) rfl ?_); refine boxE_ (N:=1) (cs:=#[.int .i64 a0_0,.int .i64 a0_1]) (t:=75) ?_; intro gb207 hg w2 hbox hb; have n0_:=am_ (below_step (bl0_ HB.out) hb); have n1_:=am_ (hbox); have n2_:=am_ ((bs0_ hg HB.out:w.heap.size ≤ gb207)); have n3_:=am_ ((bs0_ hg HB.out:w.heap.size ≤ gb207)); clear HB; have HB:=n0_; have BK207:=n1_; have GW207:=n2_; have GE207:=n3_; clear n0_ n1_ n2_ n3_; clear hb hbox hg) | ((with_reducible refine gate_dst (N:=7) rfl ?_); refine Kd.R_lit k118 _ 118 ?hg (N:=7) ?hd (xs:=([]:List (S118))) (inner:=[]) (ok:=fun _ => True) (okp:=fun _ => True) ?hr ?hp (fun _ hk => hk) trivial (Below.refl _ _) (Nat.le_refl _) (by simp) ?_; (case hd => rfl); (case hg => rfl); (case hr => first | (go_simp; done) | (go_simp; rfl)); (case hp => exact (Reps.none _ _)); intro v209 w3 ho4 hb hg_ hnew_; clear hg_ hnew_; (first | rw [← Ny208.out] at ho4 | (simp only [Int.reduceToNat] at ho4; rw [← Ny208.out] at ho4)); have n0_:=am_ (Kd.R_lower ho4 (below_size (bl1_ HB.out GE207.out))); have n1_:=am_ (bb_ BK207.out hb); have n2_:=am_ (below_step (bl1_ HB.out GE207.out) hb); clear BK207; clear HB; have HO210:=n0_; have BK207:=n1_; have HB:=n2_; clear n0_ n1_ n2_; clear hb ho4))
 go_loopg [3,4] k (fun kq v3 v4 w' => ∃ (x3_1:List (S118)) (x4_1:Int),v4 = .int .i64 x4_1 ∧ Aside0 (impl_grid_squares.l0 kq x3_1 x4_1 a0_0 a0_1 = some r) ∧ Aside0 (kq ≤ k) ∧ Aside0 (Kd.R k118 118 w' w.heap.size (fun _ => True) v3 x3_1) ∧ Aside0 (w'.heap[gb207]? = some (.cells #[.int .i64 a0_0,.int .i64 a0_1] 75 (0,0))) ∧ Aside0 (Below w.heap.size w w'))
 case atStart => exact ⟨(y208),(1),rs_,H',⟨Nat.le_refl _⟩,⟨kr_ HO210.out⟩,⟨bk_ BK207.out⟩,⟨bl1_ HB.out GE207.out⟩⟩
 case round =>
  clear H'
  try clear c1
  try clear p2
  obtain ⟨x3_1,x4_1,rfl,HA,HK1,HO_3,BK207,HB⟩:=hrel
  cases gk with
  | zero => exact absurd HA.out (by simp [impl_grid_squares.l0])
  | succ k1 =>
   have H:=HA.out
   clear HA
   simp only [impl_grid_squares.l0] at H
   obtain ⟨ji5,hji5⟩:∃ j_:Int,(mn a0_0 a0_1) = j_:=⟨_,rfl⟩
   replace H:(if x4_1 ≤ (ji5) then (impl_grid_squares.l1 k1 x3_1 x4_1 0 a0_0 a0_1) else (some x3_1)) = some r:=by first | (rw [hji5] at H; exact H) | (simp only [hji5] at H ⊢; exact H)
   have hji5_:(if a0_1 < a0_0 then a0_1 else a0_0) = ji5:=hji5
   by_cases c6:x4_1 ≤ (ji5)
   ·rw [if_pos c6] at H
    have c6b0:decide (x4_1 ≤ (ji5)) = true:=decide_eq_true c6
    clear c6
    have H':=am_ H
    clear H
    have hcz7_0:wr.cell? ⟨gb207,0,none⟩ = some (.int .i64 a0_0):=(bc_ BK207.out 0).trans rfl
    have hcz7_1:wr.cell? ⟨gb207,1,none⟩ = some (.int .i64 a0_1):=(bc_ BK207.out 1).trans rfl
    have hfz7_0:=bz_ BK207.out 0
    have hfz7_1:=bz_ BK207.out 1
    go_wp2
    go_loopg [3,5] k1 (fun kq v3 v5 w' => ∃ (x3_2:List (S118)) (x5_2:Int),v5 = .int .i64 x5_2 ∧ Aside0 (impl_grid_squares.l1 kq x3_2 x4_1 x5_2 a0_0 a0_1 = some r) ∧ Aside0 (kq ≤ k1) ∧ Aside0 (Kd.R k118 118 w' w.heap.size (fun _ => True) v3 x3_2) ∧ Aside0 (w'.heap[gb207]? = some (.cells #[.int .i64 a0_0,.int .i64 a0_1] 75 (0,0))) ∧ Aside0 (Below w.heap.size w w'))
    case atStart => exact ⟨(x3_1),(0),rs_,H',⟨Nat.le_refl _⟩,⟨kr_ HO_3.out⟩,⟨bk_ BK207.out⟩,⟨bl1_ HB.out GE207.out⟩⟩
    case round =>
     clear H'
     try clear c1
     try clear p2
     try clear c6
     try clear c6b0
     try clear hcz7_0
     try clear hcz7_1
     try clear hfz7_0
     try clear hfz7_1
     try clear p2
     obtain ⟨x3_2,x5_2,rfl,HA,HK2,HO_3,BK207,HB⟩:=hrel
     cases gk with
     | zero => exact absurd HA.out (by simp [impl_grid_squares.l1])
     | succ k2 =>
      have H:=HA.out
      clear HA
      simp only [impl_grid_squares.l1] at H
      by_cases c8:(wrap64 (x5_2 + x4_1)) ≤ a0_1
      ·rw [if_pos c8] at H
       have c8b0:decide ((wrap64 (x5_2 + x4_1)) ≤ a0_1) = true:=decide_eq_true c8
       clear c8
       have H':=am_ H
       clear H
       have hcz9_0:wr.cell? ⟨gb207,0,none⟩ = some (.int .i64 a0_0):=(bc_ BK207.out 0).trans rfl
       have hcz9_1:wr.cell? ⟨gb207,1,none⟩ = some (.int .i64 a0_1):=(bc_ BK207.out 1).trans rfl
       have hfz9_0:=bz_ BK207.out 0
       have hfz9_1:=bz_ BK207.out 1
       go_wp2
       go_loopg [3,6] k2 (fun kq v3 v6 w' => ∃ (x3_3:List (S118)) (x6_3:Int),v6 = .int .i64 x6_3 ∧ Aside0 (impl_grid_squares.l2 kq x3_3 x4_1 x5_2 x6_3 a0_0 a0_1 = some r) ∧ Aside0 (kq ≤ k2) ∧ Aside0 (Kd.R k118 118 w' w.heap.size (fun _ => True) v3 x3_3) ∧ Aside0 (w'.heap[gb207]? = some (.cells #[.int .i64 a0_0,.int .i64 a0_1] 75 (0,0))) ∧ Aside0 (Below w.heap.size w w'))
       case atStart => exact ⟨(x3_2),(0),rs_,H',⟨Nat.le_refl _⟩,⟨kr_ HO_3.out⟩,⟨bk_ BK207.out⟩,⟨bl1_ HB.out GE207.out⟩⟩
       case round =>
        clear H'
        try clear c1
        try clear p2
        try clear c6
        try clear c6b0
        try clear p6
        try clear c8
        try clear c8b0
        try clear hcz7_0
        try clear hcz7_1
        try clear hcz9_0
        try clear hcz9_1
        try clear hfz7_0
        try clear hfz7_1
        try clear hfz9_0
        try clear hfz9_1
        try clear p2
        obtain ⟨x3_3,x6_3,rfl,HA,HK3,HO_3,BK207,HB⟩:=hrel
        cases gk with
        | zero => exact absurd HA.out (by simp [impl_grid_squares.l2])
        | succ k3 =>
         have H:=HA.out
         clear HA
         simp only [impl_grid_squares.l2] at H
         by_cases c10:(wrap64 (x6_3 + x4_1)) ≤ a0_0
         ·rw [if_pos c10] at H
          have c10b0:decide ((wrap64 (x6_3 + x4_1)) ≤ a0_0) = true:=decide_eq_true c10
          clear c10
          replace H:=bi_ H
          obtain ⟨t211,A110,H⟩:=H
          replace H:(if x3_3.length < 4398046511104 then (impl_grid_squares.l2 k3 (x3_3 ++ [(⟨x6_3,x5_2,x4_1,t211⟩:S118)]) x4_1 x5_2 (wrap64 (x6_3 + 1)) a0_0 a0_1) else (none)) = some r:=H
          have A11:=am_ A110
          clear A110
          by_cases c12:x3_3.length < 4398046511104
          ·rw [if_pos c12] at H
           have LMc12:=am_ c12
           clear c12
           obtain ⟨y212,hy212⟩:∃ y_:List (S118),y_ = (x3_3 ++ [(⟨x6_3,x5_2,x4_1,t211⟩:S118)]):=⟨_,rfl⟩
           replace H:(impl_grid_squares.l2 k3 y212 x4_1 x5_2 (wrap64 (x6_3 + 1)) a0_0 a0_1) = some r:=by first | (rw [hy212]; with_reducible exact H) | (have H2_:=(Option.bind_some _ _).symm.trans H; rw [hy212]; with_reducible exact H2_) | (have H2_:=(Option.bind_some _ _).symm.trans H; with_reducible exact H2_) | with_reducible exact H | (rw [hy212]; exact H) | exact H
           have Ny212:=am_ hy212
           clear hy212
           have H':=am_ H
           clear H
           have hcz13_0:wr.cell? ⟨gb207,0,none⟩ = some (.int .i64 a0_0):=(bc_ BK207.out 0).trans rfl
           have hcz13_1:wr.cell? ⟨gb207,1,none⟩ = some (.int .i64 a0_1):=(bc_ BK207.out 1).trans rfl
           have hfz13_0:=bz_ BK207.out 0
           have hfz13_1:=bz_ BK207.out 1
           go_wp2_with (first | ((with_reducible refine gate_callee (f:=157) rfl ?_); refine goesL_ (some 42) rfl rfl Tryd.func157 (by kernel_rfl) rfl #[.agg #[.int .i64 a0_0,.int .i64 a0_1],.int .i64 x6_3,.int .i64 x5_2,.int .i64 x4_1,.int .i64 x4_1] rfl ob_ ?_; (with_reducible refine (impl_grid_around.calls k3 a0_0 a0_1 x6_3 x5_2 x4_1 x4_1 t211 _ A11.out).mono ?_); rintro e w14 ⟨rfl,hb⟩; refine ⟨_,rfl,?_⟩; have n0_:=am_ (Kd.R_below (kr_ HO_3.out) hb); have n1_:=am_ (bb_ BK207.out hb); have n2_:=am_ (below_step (bl1_ HB.out GE207.out) hb); clear HO_3; clear BK207; clear HB; have HO_3:=n0_; have BK207:=n1_; have HB:=n2_; clear n0_ n1_ n2_; (try clear hb); (try clear hb2); (try clear hk); (try clear hi)) | ((with_reducible refine gate_builtin (b:=.append) (xs:=#[.tmp 33,.tmp 44]) rfl ?_); at_builtin; refine Kd.R_append k118 (w0:=w) w.heap.size rfl (.tmp 33) (.tmp 44) 115 118 (.agg #[(.int .i64 0),(.int .i64 0),(.int .i64 0),(.int .u64 0)]) 32 rfl Tryd.underlying115 info118 rfl (by decide) (by omega) u3 x3_3 (⟨x6_3,x5_2,x4_1,t211⟩:S118) [.int .i64 x6_3,.int .i64 x5_2,.int .i64 x4_1,.int .u64 t211] (fun _ => True) (fun _ => False) rfl rfl ?aP (fun _ hk => hk.elim) ?aF ?aO ?aB ?aS ?aL ?_; (case aP => exact k118_mkM _ _ _ (⟨x6_3,x5_2,x4_1,t211⟩:S118)); (case aB => exact (bl1_ HB.out GE207.out)); (case aF => exact (fun _ _ => trivial)); (case aO => exact (kr_ HO_3.out)); (case aS => exact (below_size (bl1_ HB.out GE207.out))); (case aL => have:=LMc12.out; omega); intro v213 w15 ho hb hg hat; rw [← Ny212.out] at ho; have n0_:=am_ (blk_grown (g:=gb207) (o:=.cells #[.int .i64 a0_0,.int .i64 a0_1] 75 (0,0)) (bk_ BK207.out) hg (Kd.R_ne HO_3.out BK207.out (by decide))); have n1_:=am_ (hb); have n2_:=am_ (ho); clear BK207; clear HB; clear HO_3; have BK207:=n0_; have HB:=n1_; have HO214:=n2_; clear n0_ n1_ n2_; clear ho hb hg hat))
           go_roundg k3
           case measure => have:=HK1.out; have:=HK2.out; have:=HK3.out; omega
           case rel => exact ⟨(y212),(wrap64 (x6_3 + 1)),rs_,H',⟨by have:=HK1.out; have:=HK2.out; have:=HK3.out; omega⟩,⟨kr_ HO214.out⟩,⟨bk_ BK207.out⟩,⟨bl1_ HB.out GE207.out⟩⟩
          ·rw [if_neg c12] at H
           exact absurd H (by simp)
         ·rw [if_neg c10] at H
          have c10b0:decide ((wrap64 (x6_3 + x4_1)) ≤ a0_0) = false:=decide_eq_false c10
          clear c10
          have H':=am_ H
          clear H
          have hcz16_0:wr.cell? ⟨gb207,0,none⟩ = some (.int .i64 a0_0):=(bc_ BK207.out 0).trans rfl
          have hcz16_1:wr.cell? ⟨gb207,1,none⟩ = some (.int .i64 a0_1):=(bc_ BK207.out 1).trans rfl
          have hfz16_0:=bz_ BK207.out 0
          have hfz16_1:=bz_ BK207.out 1
          go_wp2
          go_roundg k3
          case measure => have:=HK1.out; have:=HK2.out; have:=HK3.out; omega
          case rel => exact ⟨(x3_3),(wrap64 (x5_2 + 1)),rs_,H',⟨by have:=HK1.out; have:=HK2.out; have:=HK3.out; omega⟩,⟨kr_ HO_3.out⟩,⟨bk_ BK207.out⟩,⟨bl1_ HB.out GE207.out⟩⟩
      ·rw [if_neg c8] at H
       have c8b0:decide ((wrap64 (x5_2 + x4_1)) ≤ a0_1) = false:=decide_eq_false c8
       clear c8
       have H':=am_ H
       clear H
       have hcz17_0:wr.cell? ⟨gb207,0,none⟩ = some (.int .i64 a0_0):=(bc_ BK207.out 0).trans rfl
       have hcz17_1:wr.cell? ⟨gb207,1,none⟩ = some (.int .i64 a0_1):=(bc_ BK207.out 1).trans rfl
       have hfz17_0:=bz_ BK207.out 0
       have hfz17_1:=bz_ BK207.out 1
       go_wp2
       go_roundg k2
       case measure => have:=HK1.out; have:=HK2.out; omega
       case rel => exact ⟨(x3_2),(wrap64 (x4_1 + 1)),rs_,H',⟨by have:=HK1.out; have:=HK2.out; omega⟩,⟨kr_ HO_3.out⟩,⟨bk_ BK207.out⟩,⟨bl1_ HB.out GE207.out⟩⟩
   ·rw [if_neg c6] at H
    have c6b0:decide (x4_1 ≤ (ji5)) = false:=decide_eq_false c6
    clear c6
    obtain rfl:=Option.some.inj H
    have hcz18_0:wr.cell? ⟨gb207,0,none⟩ = some (.int .i64 a0_0):=(bc_ BK207.out 0).trans rfl
    have hcz18_1:wr.cell? ⟨gb207,1,none⟩ = some (.int .i64 a0_1):=(bc_ BK207.out 1).trans rfl
    have hfz18_0:=bz_ BK207.out 0
    have hfz18_1:=bz_ BK207.out 1
    go_wp2
    go_ret
    exact ⟨_,by first | rfl | (simp [errW_none,errW_some] <;> rfl) | (simp only [← hji5]; first | rfl | (simp [errW_none,errW_some] <;> rfl)) | (simp [*,errW_none,errW_some] <;> rfl),by (with_reducible repeat (first | apply Kd.R_alloc | apply Kd.R_drewN | apply Kd.R_drew)); exact HO_3.out,bl1_ HB.out GE207.out⟩


def impl_Figure_squares.f (k:Nat) (a0_0:Int) (a0_1:Int) (l0_2:List Int) (l0_3:List Int):Option ((List (S118))):=(impl_Figure_grid.f a0_0 a0_1 l0_2 l0_3).bind fun bt216 => ((impl_grid_squares.f k bt216.1 bt216.2).bind fun t218 => ((impl_Figure_set.f k a0_0 a0_1 l0_2 l0_3).bind fun t221 => ((impl_of.f t218 t221).bind fun t222 => (some t222))))
theorem impl_Figure_squares.mono:∀ a0 a1 a2 a3 k,LeO (impl_Figure_squares.f k a0 a1 a2 a3) (impl_Figure_squares.f (k + 1) a0 a1 a2 a3):=by
 intro a0 a1 a2 a3 k
 unfold impl_Figure_squares.f
 repeat' first | (with_reducible first | exact impl_Figure_set.mono _ _ _ _ _ | exact impl_grid_squares.mono _ _ _ | exact LeO.refl _ | exact LeO.none _ | refine LeO.ite ?_ ?_ | refine LeO.bind ?_ (fun _ => ?_)) | exact impl_Figure_set.mono _ _ _ _ _ | exact impl_grid_squares.mono _ _ _
set_option maxHeartbeats 8000000 in
set_option maxRecDepth 100000 in
theorem impl_Figure_squares.calls (k:Nat) (a0_0:Int) (a0_1:Int) (A0_2:Option Addr) (c0_2:Nat) (l0_2:List Int) (A0_3:Option Addr) (c0_3:Nat) (l0_3:List Int) (r:List (S118)) (w:World) (hr0_2:Kd.C (Kd.int .i64) w A0_2 l0_2.length l0_2) (hc0_2:l0_2.length ≤ c0_2) (hr0_3:Kd.C (Kd.int .i64) w A0_3 l0_3.length l0_3) (hc0_3:l0_3.length ≤ c0_3) (h:impl_Figure_squares.f k a0_0 a0_1 l0_2 l0_3 = some r) :
  Calls Tryd.prog 94 #[.agg #[.int .i64 a0_0,.int .i64 a0_1,.slice A0_2 l0_2.length c0_2,.slice A0_3 l0_3.length c0_3]] w fun e w' => ∃ v0_:Value,e = .returned (v0_) ∧ Kd.R k118 118 w' w.heap.size (fun _ => True) v0_ r ∧ Below w.heap.size w w':=by
 have hu36:=Tryd.underlying36
 have HR0_2:=am_ hr0_2
 have HC0_2:=am_ hc0_2
 clear hr0_2 hc0_2
 have HR0_3:=am_ hr0_3
 have HC0_3:=am_ hc0_3
 clear hr0_3 hc0_3
 have HB:=am_ (Below.refl w.heap.size w)
 have H:((impl_Figure_grid.f a0_0 a0_1 l0_2 l0_3).bind fun bt216 => ((impl_grid_squares.f k bt216.1 bt216.2).bind fun t218 => ((impl_Figure_set.f k a0_0 a0_1 l0_2 l0_3).bind fun t221 => ((impl_of.f t218 t221).bind fun t222 => (some t222))))) = some r:=h
 clear h
 replace H:=bi_ H
 obtain ⟨⟨t216,t217⟩,A20,H⟩:=H
 replace H:((impl_grid_squares.f k t216 t217).bind fun t218 => ((impl_Figure_set.f k a0_0 a0_1 l0_2 l0_3).bind fun t221 => ((impl_of.f t218 t221).bind fun t222 => (some t222)))) = some r:=H
 have A2:=am_ A20
 clear A20
 replace H:=bi_ H
 obtain ⟨t218,A30,H⟩:=H
 replace H:((impl_Figure_set.f k a0_0 a0_1 l0_2 l0_3).bind fun t221 => ((impl_of.f t218 t221).bind fun t222 => (some t222))) = some r:=H
 have A3:=am_ A30
 clear A30
 replace H:=bi_ H
 obtain ⟨t221,A40,H⟩:=H
 replace H:((impl_of.f t218 t221).bind fun t222 => (some t222)) = some r:=H
 have A4:=am_ A40
 clear A40
 replace H:=bi_ H
 obtain ⟨t222,A50,H⟩:=H
 replace H:(some t222) = some r:=H
 have A5:=am_ A50
 clear A50
 obtain rfl:=Option.some.inj H
 go_enter Tryd.func94,Tryd.ntmps94
 try go_wp2_with (first | ((with_reducible refine gate_dst (N:=1) rfl ?_); refine boxE_ (N:=1) (cs:=#[.int .i64 a0_0,.int .i64 a0_1,.slice A0_2 l0_2.length c0_2,.slice A0_3 l0_3.length c0_3]) (t:=36) ?_; intro gb215 hg w6 hbox hb; have n0_:=am_ (below_step (bl0_ HB.out) hb); have n1_:=am_ (hbox); have n2_:=am_ ((bs0_ hg HB.out:w.heap.size ≤ gb215)); have n3_:=am_ ((bs0_ hg HB.out:w.heap.size ≤ gb215)); clear HB; have HB:=n0_; have BK215:=n1_; have GW215:=n2_; have GE215:=n3_; clear n0_ n1_ n2_ n3_; clear hb hbox hg))
 have n0_:=am_ (blk_drew BK215.out)
 have n1_:=am_ (below_drew1 HB.out)
 clear BK215
 clear HB
 have BK215:=n0_
 have HB:=n1_
 clear n0_ n1_
 refine start_ (n:=7) (S:=fun w' => w'.cell? ⟨gb215,0,none⟩ = some (.int .i64 a0_0) ∧ w'.cell? ⟨gb215,1,none⟩ = some (.int .i64 a0_1) ∧ w'.cell? ⟨gb215,2,none⟩ = some (.slice A0_2 l0_2.length c0_2) ∧ w'.cell? ⟨gb215,3,none⟩ = some (.slice A0_3 l0_3.length c0_3)) (ds:=[]) #[false,false,false,false,false,false,false] (by kernel_rfl) rfl rfl ⟨(bc_ BK215.out 0).trans rfl,(bc_ BK215.out 1).trans rfl,(bc_ BK215.out 2).trans rfl,(bc_ BK215.out 3).trans rfl⟩ (fun hHeld => ?_)
 generalize w6.drew = w7 at BK215 HB hHeld ⊢
 refine take_ (i:=0) (N:=some 3) (v:=?_) (a':=?_) #[true,false,false,false,false,false,false] rfl rfl (by kernel_rfl) (fun _ _ _ h => h) (Or.inl ⟨by rfl,?_⟩) hHeld ?_ ?_
 rotate_left
 ·rintro w' ⟨s0,s1,s2,s3⟩
  go_simp
  with_reducible rfl
 rotate_left
 ·simp only [Act.put,List.setIfInBounds_toArray,List.set_cons_zero,List.set_cons_succ,i64_w,i32_w]
  rfl
 refine take_ (i:=3) (N:=some 6) (v:=?_) (a':=?_) #[true,false,false,true,false,false,false] rfl rfl (by kernel_rfl) (fun _ _ _ h => h) (Or.inl ⟨by rfl,?_⟩) hHeld ?_ ?_
 rotate_left
 ·rintro w' ⟨s0,s1,s2,s3⟩
  go_simp
  with_reducible rfl
 rotate_left
 ·simp only [Act.put,List.setIfInBounds_toArray,List.set_cons_zero,List.set_cons_succ,i64_w,i32_w]
  rfl
 refine one_ (i:=1) (N:=some 4) #[true,true,false,true,false,false,false] rfl rfl (by kernel_rfl) (by decide) (fun K hK => ?_)
 refine goes_ Tryd.func71 (by kernel_rfl) rfl #[.agg #[.int .i64 a0_0,.int .i64 a0_1,.slice A0_2 l0_2.length c0_2,.slice A0_3 l0_3.length c0_3]] (by rfl) rfl rfl ob_ ?_
 with_reducible refine (impl_Figure_grid.calls a0_0 a0_1 _ _ l0_2 _ _ l0_3 t216 t217 _ ?side1 ?side2 ?side3 ?side4 A2.out).mono ?_
 (case side1 => exact kc_ (Kd.C_below HR0_2.out HB.out))
 (case side2 => exact HC0_2.out)
 (case side3 => exact kc_ (Kd.C_below HR0_3.out HB.out))
 (case side4 => exact HC0_3.out)
 rintro e w8 ⟨rfl,hb⟩
 refine ⟨_,rfl,?_⟩
 have n0_:=am_ (bb_ BK215.out hb)
 have n1_:=am_ (below_step (bl1_ HB.out GE215.out) hb)
 clear BK215
 clear HB
 have BK215:=n0_
 have HB:=n1_
 clear n0_ n1_
 (try clear hb)
 (try clear hb2)
 (try clear hk)
 (try clear hi)
 refine hK.out _ _ ⟨(bc_ BK215.out 0).trans rfl,(bc_ BK215.out 1).trans rfl,(bc_ BK215.out 2).trans rfl,(bc_ BK215.out 3).trans rfl⟩ (fun hHeld => ?_)
 clear hK K
 refine norm_ (a':=?_) ?_ ?_
 rotate_left
 ·show Act.put _ (some 4) _ = _
  simp only [Act.put,List.setIfInBounds_toArray,List.set_cons_zero,List.set_cons_succ,i64_w,i32_w]
  rfl
 refine one_ (i:=2) (N:=some 5) #[true,true,true,true,false,false,false] rfl rfl (by kernel_rfl) (by decide) (fun K hK => ?_)
 refine goes_ Tryd.func129 (by kernel_rfl) rfl #[.agg #[.int .i64 t216,.int .i64 t217]] (by rfl) rfl rfl ob_ ?_
 with_reducible refine (impl_grid_squares.calls k t216 t217 t218 _ A3.out).mono ?_
 rintro e w9 ⟨v219,rfl,ho0,hb⟩
 refine ⟨_,rfl,?_⟩
 have n0_:=am_ (Kd.R_lower ho0 (below_size (bl1_ HB.out GE215.out)))
 have n1_:=am_ (bb_ BK215.out hb)
 have n2_:=am_ (below_step (bl1_ HB.out GE215.out) hb)
 clear BK215
 clear HB
 have HO220:=n0_
 have BK215:=n1_
 have HB:=n2_
 clear n0_ n1_ n2_
 (try clear hb)
 (try clear hb2)
 (try clear hk)
 (try clear hi)
 (try clear ho0)
 refine hK.out _ _ ⟨(bc_ BK215.out 0).trans rfl,(bc_ BK215.out 1).trans rfl,(bc_ BK215.out 2).trans rfl,(bc_ BK215.out 3).trans rfl⟩ (fun hHeld => ?_)
 clear hK K
 refine norm_ (a':=?_) ?_ ?_
 rotate_left
 ·show Act.put _ (some 5) _ = _
  simp only [Act.put,List.setIfInBounds_toArray,List.set_cons_zero,List.set_cons_succ,i64_w,i32_w]
  rfl
 refine one_ (i:=4) (N:=some 7) #[true,true,true,true,true,false,false] rfl rfl (by kernel_rfl) (by decide) (fun K hK => ?_)
 refine goes_ Tryd.func72 (by kernel_rfl) rfl #[.agg #[.int .i64 a0_0,.int .i64 a0_1,.slice A0_2 l0_2.length c0_2,.slice A0_3 l0_3.length c0_3]] (by rfl) rfl rfl ob_ ?_
 with_reducible refine (impl_Figure_set.calls k a0_0 a0_1 _ _ l0_2 _ _ l0_3 t221 _ ?side1 ?side2 ?side3 ?side4 A4.out).mono ?_
 (case side1 => exact kc_ (Kd.C_below HR0_2.out HB.out))
 (case side2 => exact HC0_2.out)
 (case side3 => exact kc_ (Kd.C_below HR0_3.out HB.out))
 (case side4 => exact HC0_3.out)
 rintro e w10 ⟨rfl,hb⟩
 refine ⟨_,rfl,?_⟩
 have n0_:=am_ (Kd.R_below (kr_ HO220.out) hb)
 have n1_:=am_ (bb_ BK215.out hb)
 have n2_:=am_ (below_step (bl1_ HB.out GE215.out) hb)
 clear HO220
 clear BK215
 clear HB
 have HO220:=n0_
 have BK215:=n1_
 have HB:=n2_
 clear n0_ n1_ n2_
 (try clear hb)
 (try clear hb2)
 (try clear hk)
 (try clear hi)
 obtain ⟨Ao11,co11,eo11⟩:=Kd.R_slice HO220.out
 (first | subst eo11 | (injection eo11 with f1_ f2_ f3_; have f4_:=f1_.symm; have f5_:=f3_.symm; clear f1_ f2_ f3_; subst f4_; subst f5_))
 refine hK.out _ _ ⟨(bc_ BK215.out 0).trans rfl,(bc_ BK215.out 1).trans rfl,(bc_ BK215.out 2).trans rfl,(bc_ BK215.out 3).trans rfl⟩ (fun hHeld => ?_)
 clear hK K
 refine norm_ (a':=?_) ?_ ?_
 rotate_left
 ·show Act.put _ (some 7) _ = _
  simp only [Act.put,List.setIfInBounds_toArray,List.set_cons_zero,List.set_cons_succ,i64_w,i32_w]
  rfl
 refine one_ (i:=5) (N:=some 8) #[true,true,true,true,true,true,false] rfl rfl (by kernel_rfl) (by decide) (fun K hK => ?_)
 refine goes_ Tryd.func128 (by kernel_rfl) rfl #[.slice Ao11 t218.length co11,.int .u64 t221] (by rfl) rfl rfl ob_ ?_
 with_reducible refine (impl_of.calls _ _ t218 t221 t222 _ ?side1 ?side2 A5.out).mono ?_
 (case side1 => repeat (first | exact (Kd.R_reads' HO220.out).2.2 | (with_reducible refine Kd.C_alloc ?_ _) | (with_reducible refine Kd.C_drewN ?_ _) | (with_reducible refine Kd.C_drew ?_)))
 (case side2 => exact (Kd.R_reads' HO220.out).2.1)
 rintro e w12 ⟨v223,rfl,ho0,hb⟩
 refine ⟨_,rfl,?_⟩
 have n0_:=am_ (Kd.R_elder' (kr_ HO220.out) (Kd.R_base ho0) hb)
 have n1_:=am_ (Kd.R_lower (Kd.R_new' ho0 (Kd.R_lt (kr_ HO220.out))) (below_size (bl1_ HB.out GE215.out)))
 have n2_:=am_ (bb_ BK215.out hb)
 have n3_:=am_ (below_step (bl1_ HB.out GE215.out) hb)
 clear HO220
 clear BK215
 clear HB
 have HO220:=n0_
 have HO224:=n1_
 have BK215:=n2_
 have HB:=n3_
 clear n0_ n1_ n2_ n3_
 (try clear hb)
 (try clear hb2)
 (try clear hk)
 (try clear hi)
 (try clear ho0)
 refine hK.out _ _ ⟨(bc_ BK215.out 0).trans rfl,(bc_ BK215.out 1).trans rfl,(bc_ BK215.out 2).trans rfl,(bc_ BK215.out 3).trans rfl⟩ (fun hHeld => ?_)
 clear hK K
 refine norm_ (a':=?_) ?_ ?_
 rotate_left
 ·show Act.put _ (some 8) _ = _
  simp only [Act.put,List.setIfInBounds_toArray,List.set_cons_zero,List.set_cons_succ,i64_w,i32_w]
  rfl
 refine pure_ (i:=6) (N:=some 2) (v:=?_) (a':=?_) #[true,true,true,true,true,true,true] rfl rfl (by kernel_rfl) (fun _ _ _ h => h) (Or.inl ⟨by rfl,?_⟩) ?_ ?_
 rotate_left
 ·intro w'
  go_simp
  with_reducible rfl
 rotate_left
 ·simp only [Act.put,List.setIfInBounds_toArray,List.set_cons_zero,List.set_cons_succ,i64_w,i32_w]
  rfl
 refine done_ (by kernel_rfl) ?_
 try go_wp2
 go_ret
 exact ⟨_,er_,by (with_reducible repeat (first | apply Kd.R_alloc | apply Kd.R_drewN | apply Kd.R_drew)); exact Kd.R_mono HO224.out (fun _ hk => trivial),bl1_ HB.out GE215.out⟩

end Go.Proofs.YtehjfaddhmdicaaDoor.P
namespace Go.Proofs.YtehjfaddhmdicaaDoor.P
open Go.RowKit Go.Proofs.YtehjfaddhmdicaaDoorW.PrintWords Go.Proofs.YtehjfaddhmdicaaDoorW.PrintLast Go.Proofs.YtehjfaddhmdicaaDoorW.PrintMore
attribute [local go_sem] max2_int min2_int max_two min_two max_three min_three max_four min_four   -- for this text's walks alone
set_option linter.unusedVariables false
set_option linter.unusedSimpArgs false

section
open Go.Maps
theorem lit_u64b {n:Nat} (hn:n < 2 ^ 64):(Lit.int .u64 (n:Int)).wf = true:=by
  have h1:IntKind.u64.min = 0:=by decide
  have h2:IntKind.u64.max = 18446744073709551615:=by decide
  show (decide (IntKind.u64.min ≤ (n:Int)) && decide ((n:Int) ≤ IntKind.u64.max)) = true
  rw [h1,h2,decide_eq_true (by omega),decide_eq_true (by omega)]
  rfl
theorem lit_u64_inv {x:Int} (h:(Lit.int .u64 x).wf = true):∃ n:Nat,x = (n:Int) ∧ n < 2 ^ 64:=by
  have h1:IntKind.u64.min = 0:=by decide
  have h2:IntKind.u64.max = 18446744073709551615:=by decide
  have h3:(decide (IntKind.u64.min ≤ x) && decide (x ≤ IntKind.u64.max)) = true:=h
  rw [h1,h2] at h3
  simp only [Bool.and_eq_true,decide_eq_true_eq] at h3
  exact ⟨x.toNat,by omega,by omega⟩
def ColU (left:Lit → Bool) (S l:List Nat):Prop:=l.Nodup ∧ (∀ n ∈ l,n ∈ S) ∧ ∀ n:Nat,n < 2 ^ 64 → left (.int .u64 (n:Int)) = (decide (n ∈ S) && !decide (n ∈ l))
theorem ColU.start {S:List Nat} {D:DataW Value} (h:∀ c kl,keyOf Tryd.prog 56 (setV c) = some kl → Maps.has D kl = (inH S c).isSome ∧ ∀ z,D.atKey kl (.held z) = .held ((inH S c).getD z)):ColU (Maps.has D) S []:=by
  have h0:∀ n:Nat,n ∈ ([]:List Nat) → n ∈ S:=fun n hn => absurd hn List.not_mem_nil
  refine And.intro List.nodup_nil (And.intro h0 (fun n hn => ?_))
  rw [(h n _ (keyOf_int_mk Tryd.underlying56 (lit_u64b hn))).1]
  unfold inH
  by_cases hc:n ∈ S <;> simp [hc]
theorem ColU.step {left:Lit → Bool} {S l:List Nat} (h:ColU left S l) {n:Nat} (hn:n < 2 ^ 64) (hl:left (.int .u64 (n:Int)) = true):n ∈ S ∧ ColU (fun z => left z && !z.sameKey (.int .u64 (n:Int))) S (l ++ [n]):=by
  obtain ⟨h1,h2,h3⟩:=h
  have h4:=h3 n hn
  rw [hl] at h4
  have h5:n ∈ S ∧ n ∉ l:=by
    have:=h4.symm
    simp only [Bool.and_eq_true,decide_eq_true_eq,Bool.not_eq_true',decide_eq_false_iff_not] at this
    exact this
  refine ⟨h5.1,?_,fun x hx => ?_,fun m hm => ?_⟩
  · rw [List.nodup_append]
    exact ⟨h1,by simp,fun a ha b hb => by rw [List.mem_singleton] at hb; rw [hb]; intro e; exact h5.2 (e ▸ ha)⟩
  · rcases List.mem_append.1 hx with hx | hx
    · exact h2 x hx
    · rw [List.mem_singleton] at hx; rw [hx]; exact h5.1
  · show (left (.int .u64 (m:Int)) && !(Lit.int .u64 (m:Int)).sameKey (.int .u64 (n:Int))) = _
    rw [h3 m hm]
    have e:(Lit.int .u64 (m:Int)).sameKey (.int .u64 (n:Int)) = decide (m = n):=by
      show decide (IntKind.u64 = IntKind.u64 ∧ (m:Int) = (n:Int)) = decide (m = n)
      congr 1
      rw [eq_iff_iff]
      constructor
      · intro h; exact_mod_cast h.2
      · intro h; exact ⟨rfl,by rw [h]⟩
    rw [e]
    by_cases hmn:m = n
    · simp [hmn]
    · simp [hmn]
theorem ColU.done {left:Lit → Bool} {S l:List Nat} (h:ColU left S l) (hS:S.Nodup) (hS2:∀ x ∈ S,x < 2 ^ 60) (h0:∀ kl,left kl = false):l.Perm S:=by
  obtain ⟨h1,h2,h3⟩:=h
  refine (List.perm_ext_iff_of_nodup h1 hS).2 fun x => ⟨h2 x,fun hx => ?_⟩
  have h4:=h3 x (by have:=hS2 x hx; omega)
  rw [h0] at h4
  have:=h4.symm
  simp only [Bool.and_eq_false_iff,decide_eq_false_iff_not,Bool.not_eq_false',decide_eq_true_eq] at this
  rcases this with h | h
  · exact absurd hx h
  · exact h
end

end Go.Proofs.YtehjfaddhmdicaaDoor.P
namespace Go.Proofs.YtehjfaddhmdicaaDoor.P
open Go.RowKit Go.Proofs.YtehjfaddhmdicaaDoorW.PrintWords Go.Proofs.YtehjfaddhmdicaaDoorW.PrintLast Go.Proofs.YtehjfaddhmdicaaDoorW.PrintMore
attribute [local go_sem] max2_int min2_int max_two min_two max_three min_three max_four min_four   -- for this text's walks alone
set_option linter.unusedVariables false
set_option linter.unusedSimpArgs false

structure FrameBut (O:Nat → Prop) (w w':World):Prop where
  os:w'.os = w.os
  tape:w'.tape = w.tape
  output:w'.output = w.output
  size:w.heap.size ≤ w'.heap.size
  block:∀ k,k < w.heap.size → ¬ O k → w'.heap[k]? = w.heap[k]?
theorem FrameBut.refl (O:Nat → Prop) (w:World):FrameBut O w w:=⟨rfl,rfl,rfl,Nat.le_refl _,fun _ _ _ => rfl⟩
theorem FrameBut.trans {O O1:Nat → Prop} {w w1 w2:World} (h:FrameBut O w w1) (k:FrameBut O1 w1 w2) (hO:∀ k,O1 k → O k ∨ w.heap.size ≤ k):FrameBut O w w2 :=
  ⟨k.os.trans h.os,k.tape.trans h.tape,k.output.trans h.output,Nat.le_trans h.size k.size,fun i hi hn => (k.block i (Nat.lt_of_lt_of_le hi h.size) (fun h1 => (hO i h1).elim hn (fun h2 => absurd hi (Nat.not_lt.2 h2)))).trans (h.block i hi hn)⟩
theorem FrameBut.mono {O O1:Nat → Prop} {w w1:World} (h:FrameBut O w w1) (hO:∀ k,k < w.heap.size → O k → O1 k):FrameBut O1 w w1 :=
  ⟨h.os,h.tape,h.output,h.size,fun i hi hn => h.block i hi (fun h1 => hn (hO i hi h1))⟩
theorem FrameBut.of_below {O:Nat → Prop} {w w1:World} (h:Below w.heap.size w w1):FrameBut O w w1:=⟨h.os,h.tape,h.output,h.size,fun i hi _ => h.block i hi⟩
theorem FrameBut.below {O:Nat → Prop} {w w1 w2:World} (h:FrameBut O w w1) (k:Below w1.heap.size w1 w2):FrameBut O w w2:=h.trans (FrameBut.of_below (O:=O) k) (fun _ h => .inl h)
theorem FrameBut.alloc {O:Nat → Prop} {w w1:World} (h:FrameBut O w w1) (o:Obj):FrameBut O w (w1.alloc o):=h.below (below_alloc (Below.refl _ _) o)
theorem FrameBut.drew {O:Nat → Prop} {w w1:World} (h:FrameBut O w w1):FrameBut O w w1.drew:=h.below (below_drew (Below.refl _ _))
theorem FrameBut.drewN {O:Nat → Prop} {w w1:World} (h:FrameBut O w w1) (n:Nat):FrameBut O w (w1.drewN n):=h.below (pw_below_drewN (Below.refl _ _) n)
theorem FrameBut.grown {O:Nat → Prop} {w w1 w2:World} {row:Option Nat} (h:FrameBut O w w1) (hg:w1.grownBy w2 row) (hr:∀ k,row = some k → O k ∨ w.heap.size ≤ k):FrameBut O w w2 :=
  h.trans (O1:=fun k => row = some k) ⟨hg.os,hg.tape,hg.output,hg.size,fun k hk hn => hg.block k hk (fun e => hn e.symm)⟩ hr
theorem FrameBut.setCell {O:Nat → Prop} {w w1:World} (h:FrameBut O w w1) {p:Addr} (hp:O p.block ∨ w.heap.size ≤ p.block) (u:Value):FrameBut O w (w1.setCell p u) :=
  h.trans (O1:=fun k => k = p.block) ⟨rfl,rfl,rfl,by simp [World.setCell],fun k _ hn => Below.heap_setCell _ _ _ _ hn⟩ (fun k e => by rw [e]; exact hp)
theorem FrameBut.turned {O:Nat → Prop} {w w1 w2:World} {b:Nat} (h:FrameBut O w w1) (ht:w1.mapTurned w2 b) (hb:O b ∨ w.heap.size ≤ b):FrameBut O w w2 :=
  h.grown ht.grown (fun k e => by cases e; exact hb)
theorem FrameBut.toBelow {O:Nat → Prop} {w w1:World} {B:Nat} (h:FrameBut O w w1) (hB:B ≤ w.heap.size) (hO:∀ k,k < B → ¬ O k):Below B w w1 :=
  ⟨h.os,h.tape,h.output,h.size,fun k hk => h.block k (Nat.lt_of_lt_of_le hk hB) (hO k hk)⟩
theorem FrameBut.cell {O:Nat → Prop} {w w1:World} (h:FrameBut O w w1) {b i:Nat} {v:Value} (hc:w.cell? ⟨b,i,none⟩ = some v) (hn:¬ O b):w1.cell? ⟨b,i,none⟩ = some v :=
  (World.cell?_of_block (w:=w) (a:=⟨b,i,none⟩) (h.block b (wl_ w _ hc) hn)).trans hc
structure CB (P:Program) (g:Nat) (lb:Array Value) {α:Type} (en:α → Value) (good:α → Prop) (max:Nat) (Inv:List α → (Nat → Prop) → World → Prop):Prop where
  call:∀ acc O W x,acc.length < max → good x → Inv acc O W → Calls P g (#[en x] ++ lb) W fun e w' => e = .returned (.tuple #[]) ∧ ∃ O',Inv (acc ++ [x]) O' w' ∧ FrameBut O W w' ∧ ∀ k,O' k → O k ∨ W.heap.size ≤ k
  move:∀ acc O W W',Inv acc O W → W.heap.size ≤ W'.heap.size → W'.os = W.os → W'.tape = W.tape → W'.output = W.output → (∀ k,O k → W'.heap[k]? = W.heap[k]?) → Inv acc O W'
  lt:∀ acc O W,Inv acc O W → ∀ k,O k → k < W.heap.size
theorem CB.frame {P:Program} {g:Nat} {lb:Array Value} {α:Type} {en:α → Value} {good:α → Prop} {max:Nat} {Inv:List α → (Nat → Prop) → World → Prop} (C:CB P g lb en good max Inv) {acc:List α} {O O1:Nat → Prop} {W W':World}
    (h:Inv acc O W) (hf:FrameBut O1 W W') (hd:∀ k,O k → ¬ O1 k):Inv acc O W':=C.move acc O W W' h hf.size hf.os hf.tape hf.output (fun k hk => hf.block k (C.lt acc O W h k hk) (hd k hk))
theorem CB.below {P:Program} {g:Nat} {lb:Array Value} {α:Type} {en:α → Value} {good:α → Prop} {max:Nat} {Inv:List α → (Nat → Prop) → World → Prop} (C:CB P g lb en good max Inv) {acc:List α} {O:Nat → Prop} {W W':World}
    (h:Inv acc O W) (hb:Below W.heap.size W W'):Inv acc O W':=C.move acc O W W' h hb.size hb.os hb.tape hb.output (fun k hk => hb.block k (C.lt acc O W h k hk))


def PredU (g:Nat) (lb:Array Value) (p:Int → Bool) (w:World):Prop:=∀ (W:World) (x:Int),Below w.heap.size w W → 0 ≤ x → x < 2 ^ 60 → Calls Tryd.prog g (#[.int .u64 x] ++ lb) W fun e w' => e = .returned (.bool (p x)) ∧ Below W.heap.size W w'
theorem rd_natU (l:List Int) (k:Nat) (h:k < l.length):rd l (k:Int) = l[k]:=by
  unfold rd; rw [Int.toNat_natCast,List.getD_eq_getElem?_getD,List.getElem?_eq_getElem h]; rfl
set_option maxHeartbeats 2000000 in
theorem indexU_any (g:Nat) (lb:Array Value) (p:Int → Bool) (eg:∀ args w,(callFunc g args).run Tryd.prog w = .ok (.enter g args) w) (A0:Option Addr) (c0:Nat) (l0:List Int) (w:World) (hr0:Kd.C (Kd.int .u64) w A0 l0.length l0) (hl0:∀ x ∈ l0,0 ≤ x ∧ x < 2 ^ 60) (hp:PredU g lb p w) :
    Calls Tryd.prog 87 #[.slice A0 l0.length c0,.func (.func g) #[] lb] w fun e w' => e = .returned (.int .i64 (idxH p l0 0)) ∧ Below w.heap.size w w':=by
  have HR0:=am_ hr0
  have HP:=am_ hp
  have HL:=am_ hl0
  have hbig:l0.length ≤ 9223372036854775807:=hr0.2.1
  clear hr0 hp hl0
  generalize hn:l0.length = n at hbig
  have HN:=am_ hn
  clear hn
  have HR:Aside0 (Kd.C (Kd.int .u64) w A0 n l0):=⟨by have h:=HR0.out; rw [HN.out] at h; exact h⟩
  clear HR0
  go_enter Tryd.func87,Tryd.ntmps87
  go_wp2
  go_loopg [5,8] n (fun gg _ s8 wr => ∃ kk:Nat,kk ≤ n ∧ n - kk ≤ gg ∧ s8 = .int .i64 kk ∧ Aside0 (Below w.heap.size w wr) ∧ Aside0 (idxH p l0 0 = idxH p (l0.drop kk) kk))
  case atStart => exact ⟨0,Nat.zero_le _,by omega,rfl,⟨Below.refl _ w⟩,⟨rfl⟩⟩
  case round =>
    obtain ⟨kk,hkk,hg,rfl,BW,A⟩:=hrel
    by_cases hlt:kk < n
    · have hltz:(kk:Int) < (n:Int):=by omega
      have hll:kk < l0.length:=by rw [HN.out]; exact hlt
      obtain ⟨ad,eA,hx⟩:=Kd.at_int (Kd.C_below HR.out BW.out) (kk:Int) (by omega) (by omega)
      cases eA
      rw [rd_natU l0 kk hll,Int.toNat_natCast] at hx
      have hxl:=HL.out l0[kk] (List.getElem_mem hll)
      have hcall:=HP.out wr l0[kk] BW.out hxl.1 hxl.2
      clear hxl
      have hs:=idxH_drop p l0 kk hll
      have A2:Aside0 (idxH p l0 0 = if p l0[kk] then (kk:Int) else idxH p (l0.drop (kk + 1)) (kk + 1)):=⟨by rw [A.out,hs]⟩
      clear A hs
      generalize hy:l0[kk] = y at hx hcall A2
      clear hy hll
      cases hq:p y with
      | true =>
        rw [hq] at hcall
        have A3:Aside0 (idxH p l0 0 = (kk:Int)):=⟨by rw [A2.out,if_pos hq]⟩
        clear A2 hq
        go_wp2_with (go_at_fn g; refine hcall.mono ?_; rintro e w' ⟨rfl,hb'⟩)
        go_ret
        exact ⟨by rw [A3.out]; rfl,BW.out.trans (hb'.mono BW.out.size)⟩
      | false =>
        rw [hq] at hcall
        have A3:Aside0 (idxH p l0 0 = idxH p (l0.drop (kk + 1)) (kk + 1)):=⟨by rw [A2.out,if_neg (by rw [hq]; simp)]⟩
        clear A2 hq
        go_wp2_with (go_at_fn g; refine hcall.mono ?_; rintro e w' ⟨rfl,hb'⟩)
        go_roundg (n - (kk + 1))
        case measure => omega
        case rel => exact ⟨kk + 1,by omega,by omega,by go_num,⟨BW.out.trans (hb'.mono BW.out.size)⟩,A3⟩
    · have hltz:¬ (kk:Int) < (n:Int):=by omega
      have:kk = n:=by omega
      subst this
      go_wp2
      go_ret
      exact ⟨by rw [A.out,List.drop_of_length_le (by rw [HN.out]; exact Nat.le_refl _)]; rfl,BW.out⟩

end Go.Proofs.YtehjfaddhmdicaaDoor.P
namespace Go.Proofs.YtehjfaddhmdicaaDoor.P
open Go.RowKit Go.Proofs.YtehjfaddhmdicaaDoorW.PrintWords Go.Proofs.YtehjfaddhmdicaaDoorW.PrintLast Go.Proofs.YtehjfaddhmdicaaDoorW.PrintMore
attribute [local go_sem] max2_int min2_int max_two min_two max_three min_three max_four min_four   -- for this text's walks alone
set_option linter.unusedVariables false
set_option linter.unusedSimpArgs false

set_option maxHeartbeats 4000000 in
theorem hit_lit (ch:Nat) (hch:ch < 2 ^ 60) (B:Nat) (x:Int) (hx0:0 ≤ x) (hx1:x < 2 ^ 60) (W:World) (h0:W.cell? ⟨B,0,none⟩ = some (.int .u64 (ch:Int))) :
  Calls Tryd.prog 88 #[.int .u64 x,.pointer (some ⟨B,0,none⟩)] W fun e w' => e = .returned (.bool (decide (x.toNat &&& ch = 0))) ∧ Below W.heap.size W w':=by
 obtain ⟨n,rfl⟩:∃ n:Nat,x = (n:Int):=⟨x.toNat,by omega⟩
 rw [Int.toNat_natCast]
 have ha:=and_u64 n ch (by omega) hch
 have hq:(((n &&& ch:Nat):Int) == 0) = decide (n &&& ch = 0):=by
  rw [Bool.eq_iff_iff,beq_iff_eq,decide_eq_true_iff]; omega
 generalize n &&& ch = z at ha hq ⊢
 go_enter Tryd.func88,Tryd.ntmps88
 go_wp2_with fail
 go_ret
 exact ⟨by first | rfl | rw [hq] | simp [hq],by first | exact Below.refl _ _ | exact below_drew (Below.refl _ _) | exact pw_below_drewN (Below.refl _ _) _⟩
theorem FrameBut.cellH {O:Nat → Prop} {w w1:World} (h:FrameBut O w w1) {a:Addr} {v:Value} (hc:w.cell? a = some v) (hn:¬ O a.block):w1.cell? a = some v :=
 (World.cell?_of_block (w:=w) (a:=a) (h.block a.block (wl_ w _ hc) hn)).trans hc
structure HitIn (w:World) (B2 B3 B4 bm:Nat) (A:Option Addr) (c:Nat) (Ls:List Nat) (Kp:Nat → Prop):Prop where
 c2:w.cell? ⟨B2,0,none⟩ = some (.slice A (ints Ls).length c)
 c3:w.cell? ⟨B3,0,none⟩ = some (.map (some bm))
 c4:w.cell? ⟨B4,0,none⟩ = some (.func (.func 86) #[] #[.pointer (some ⟨B2,0,none⟩),.pointer (some ⟨B3,0,none⟩),.pointer (some ⟨B4,0,none⟩)])
 k2:Kp B2
 k3:Kp B3
 k4:Kp B4
 row:Kd.R (Kd.int .u64) 56 w 0 Kp (.slice A (ints Ls).length c) (ints Ls)
theorem HitIn.move {w w':World} {B2 B3 B4 bm:Nat} {A:Option Addr} {c:Nat} {Ls:List Nat} {Kp:Nat → Prop} (h:HitIn w B2 B3 B4 bm A c Ls Kp) (hm:∀ k,Kp k → w'.heap[k]? = w.heap[k]?):HitIn w' B2 B3 B4 bm A c Ls Kp :=
 ⟨(World.cell?_of_block (w:=w) (a:=⟨B2,0,none⟩) (hm _ h.k2)).trans h.c2,(World.cell?_of_block (w:=w) (a:=⟨B3,0,none⟩) (hm _ h.k3)).trans h.c3,(World.cell?_of_block (w:=w) (a:=⟨B4,0,none⟩) (hm _ h.k4)).trans h.c4,h.k2,h.k3,h.k4,Kd.R_move h.row hm⟩
def HitPost (ws:List Nat) (bm:Nat) (S:List Nat) (w:World) (e:Ending) (w':World):Prop :=
 e = .returned (.tuple #[]) ∧ FrameBut (fun k => k = bm) w w' ∧ MapIs w' Tryd.prog 56 bm (addS S ws).length setV (inH (addS S ws))
theorem hit_find (Ls:List Nat) (hL:∀ s ∈ Ls,s < 2 ^ 60) (ch:Nat) (hch:ch < 2 ^ 60) (B2 B3 B4 bm:Nat) (A:Option Addr) (c:Nat) (Kp:Nat → Prop) (w:World) (hin:HitIn w B2 B3 B4 bm A c Ls Kp) (hKp:∀ k,Kp k → k < w.heap.size) (W:World) (hB:Below w.heap.size w W) (h0:W.cell? ⟨w.heap.size,0,none⟩ = some (.int .u64 (ch:Int))) :
  Calls Tryd.prog 87 #[.slice A (ints Ls).length c,.func (.func 88) #[] #[.pointer (some ⟨w.heap.size,0,none⟩)]] W fun e w' => e = .returned (.int .i64 (idxH (fun x => decide (x.toNat &&& ch = 0)) (ints Ls) 0)) ∧ Below W.heap.size W w':=by
 have eg:∀ args w,(callFunc 88 args).run Tryd.prog w = .ok (.enter 88 args) w:=Go.Proofs.enters_of Tryd.func88 (by kernel_rfl) rfl
 refine indexU_any 88 #[.pointer (some ⟨w.heap.size,0,none⟩)] (fun x => decide (x.toNat &&& ch = 0)) eg A c (ints Ls) W (Kd.R_reads' (Kd.R_move hin.row (fun k hk => hB.block k (hKp k hk)))).2.2 (fun x hx => ?_) (fun W2 x hb hx0 hx1 => hit_lit ch hch w.heap.size x hx0 hx1 W2 (pw_cell_below hb h0))
 obtain ⟨n,hn,rfl⟩:=List.mem_map.1 hx
 have:=hL n hn
 exact ⟨Int.natCast_nonneg _,by show (n:Int) < 2 ^ 60; exact_mod_cast this⟩
set_option maxRecDepth 100000 in
set_option maxHeartbeats 4000000 in
theorem hit_none (Ls:List Nat) (hL:∀ s ∈ Ls,s < 2 ^ 60) (ch m:Nat) (hch:ch < 2 ^ 60) (hm:missF Ls ch = none) (B2 B3 B4 bm:Nat) (A:Option Addr) (c:Nat) (Kp:Nat → Prop) (S:List Nat) (w:World) (hin:HitIn w B2 B3 B4 bm A c Ls Kp) (hbm:¬ Kp bm) (hKp:∀ k,Kp k → k < w.heap.size)
  (hS:S.length ≤ 2 ^ 60) (hM:MapIs w Tryd.prog 56 bm S.length setV (inH S)) :
  Calls Tryd.prog 86 #[.int .u64 (ch:Int),.int .i64 (m:Int),.pointer (some ⟨B2,0,none⟩),.pointer (some ⟨B3,0,none⟩),.pointer (some ⟨B4,0,none⟩)] w (HitPost [ch] bm S w):=by
 have hidx:idxH (fun x => decide (x.toNat &&& ch = 0)) (ints Ls) 0 = -1:=by
  rcases idxH_miss ch Ls 0 with h | ⟨_,_,_,_,h,_⟩
  ·exact h.2
  ·rw [hm] at h; cases h
 have HF:=am_ (hit_find Ls hL ch hch B2 B3 B4 bm A c Kp w hin hKp)
 rw [hidx] at HF
 obtain ⟨c2,c3,c4,k2,k3,k4,row⟩:=hin
 have HM:=am_ hM
 have HS:=am_ hS
 have HCH:=am_ hch
 have b2:=wl_ w _ c2
 have b3:=wl_ w _ c3
 have hbl:=hM.lt
 have hmf:∀ (fn:Fn) (first cap:Array Value) (w:World),(Instr.makeFunc fn first cap).run Tryd.prog w = .ok (.func fn first cap) w:=fun _ _ _ _ => rfl
 clear hM hS row hidx hm hL hKp
 generalize (ints Ls).length = nn at HF c2
 go_enter Tryd.func86,Tryd.ntmps86
 go_wp2_with ((go_at_call 87; refine (HF.out _ (below_alloc (Below.refl _ _) _) (World.cell?_alloc_at _ _ _ _ rfl)).mono ?_; rintro e w1 ⟨rfl,hb1⟩; have z3:=pw_cell_below hb1 (pw_cell_below (below_alloc (Below.refl w.heap.size w) (.cells #[.int .u64 (ch:Int)] 56)) c3); have zc:w1.cell? ⟨w.heap.size,0,none⟩ = some (.int .u64 (ch:Int)):=pw_cell_below hb1 (World.cell?_alloc_at _ _ _ _ rfl); have FB:=FrameBut.of_below (O:=fun k => k = bm) (below_step (below_alloc (Below.refl w.heap.size w) (.cells #[.int .u64 (ch:Int)] 56)) hb1); obtain ⟨w5,hst,hM5,ht5⟩:=storeH ((HM.out.alloc (.cells #[.int .u64 (ch:Int)] 56)).below hb1) HCH.out HS.out))
 exact bodyPost_ret (v:=.tuple #[]) (by simp [results,Tryd.results86,go_sem]) rfl ⟨rfl,FB.turned ht5 (.inl rfl),hM5⟩
set_option maxRecDepth 100000 in
set_option maxHeartbeats 4000000 in
theorem hit_stop (Ls:List Nat) (hL:∀ s ∈ Ls,s < 2 ^ 60) (ch s:Nat) (hch:ch < 2 ^ 60) (hm:missF Ls ch = some s) (B2 B3 B4 bm:Nat) (A:Option Addr) (c:Nat) (Kp:Nat → Prop) (S:List Nat) (w:World) (hin:HitIn w B2 B3 B4 bm A c Ls Kp) (hKp:∀ k,Kp k → k < w.heap.size)
  (hM:MapIs w Tryd.prog 56 bm S.length setV (inH S)) :
  Calls Tryd.prog 86 #[.int .u64 (ch:Int),.int .i64 0,.pointer (some ⟨B2,0,none⟩),.pointer (some ⟨B3,0,none⟩),.pointer (some ⟨B4,0,none⟩)] w (HitPost [] bm S w):=by
 obtain ⟨i,hidx⟩:∃ i:Nat,idxH (fun x => decide (x.toNat &&& ch = 0)) (ints Ls) 0 = (i:Int):=by
  rcases idxH_miss ch Ls 0 with h | ⟨i,_,_,_,h,h2⟩
  ·rw [hm] at h; cases h.1
  ·exact ⟨0 + i,h2⟩
 have HF:=am_ (hit_find Ls hL ch hch B2 B3 B4 bm A c Kp w hin hKp)
 rw [hidx] at HF
 obtain ⟨c2,c3,c4,k2,k3,k4,row⟩:=hin
 have HM:=am_ hM
 have b2:=wl_ w _ c2
 have hmf:∀ (fn:Fn) (first cap:Array Value) (w:World),(Instr.makeFunc fn first cap).run Tryd.prog w = .ok (.func fn first cap) w:=fun _ _ _ _ => rfl
 clear hM row hidx hm hL hKp
 have hi0:¬ (i:Int) < 0:=by omega
 generalize (ints Ls).length = nn at HF c2
 go_enter Tryd.func86,Tryd.ntmps86
 go_wp2_with ((go_at_call 87; refine (HF.out _ (below_alloc (Below.refl _ _) _) (World.cell?_alloc_at _ _ _ _ rfl)).mono ?_; rintro e w1 ⟨rfl,hb1⟩))
 exact bodyPost_ret (v:=.tuple #[]) (by simp [results,Tryd.results86,go_sem]) rfl ⟨rfl,FrameBut.of_below (below_step (below_alloc (Below.refl _ _) _) hb1),(HM.out.alloc _).below hb1⟩
def HitMid (Ls:List Nat) (m ch:Nat) (bits:List Int) (bm:Nat) (S:List Nat) (W0:World) (i:Nat) (wr:World):Prop :=
 FrameBut (fun k => k = bm) W0 wr ∧ MapIs wr Tryd.prog 56 bm (addS S ((bits.take i).flatMap fun x => hitW Ls m (ch ||| 2 ^ x.toNat))).length setV (inH (addS S ((bits.take i).flatMap fun x => hitW Ls m (ch ||| 2 ^ x.toNat))))
set_option maxRecDepth 100000 in
set_option maxHeartbeats 8000000 in
theorem hit_go (Ls:List Nat) (hL:∀ s ∈ Ls,s < 2 ^ 60) (B2 B3 B4 bm:Nat) (A:Option Addr) (c:Nat) (Kp:Nat → Prop) (m:Nat)
  (ih:∀ (ch:Nat) (S:List Nat) (w:World),ch < 2 ^ 60 → HitIn w B2 B3 B4 bm A c Ls Kp → (∀ k,Kp k → k < w.heap.size) → (∀ W,FrameBut (fun k => k = bm) w W → TB W) → S.Nodup → (∀ x ∈ S,x < 2 ^ 60) → MapIs w Tryd.prog 56 bm S.length setV (inH S) →
   Calls Tryd.prog 86 #[.int .u64 (ch:Int),.int .i64 (m:Int),.pointer (some ⟨B2,0,none⟩),.pointer (some ⟨B3,0,none⟩),.pointer (some ⟨B4,0,none⟩)] w (HitPost (hitW Ls m ch) bm S w))
  (ch s:Nat) (S:List Nat) (w:World) (hch:ch < 2 ^ 60) (hm64:m < 64) (hm:missF Ls ch = some s) (hin:HitIn w B2 B3 B4 bm A c Ls Kp) (hbm:¬ Kp bm) (hKp:∀ k,Kp k → k < w.heap.size) (hT:∀ W,FrameBut (fun k => k = bm) w W → TB W) (hS:S.Nodup) (hS2:∀ x ∈ S,x < 2 ^ 60)
  (hM:MapIs w Tryd.prog 56 bm S.length setV (inH S)) :
  Calls Tryd.prog 86 #[.int .u64 (ch:Int),.int .i64 ((m:Int) + 1),.pointer (some ⟨B2,0,none⟩),.pointer (some ⟨B3,0,none⟩),.pointer (some ⟨B4,0,none⟩)] w (HitPost (hitW Ls (m + 1) ch) bm S w):=by
 obtain ⟨i,hil,hget,hidx⟩:∃ i:Nat,i < (ints Ls).length ∧ rd (ints Ls) (i:Int) = (s:Int) ∧ idxH (fun x => decide (x.toNat &&& ch = 0)) (ints Ls) 0 = (i:Int):=by
  rcases idxH_miss ch Ls 0 with h | ⟨i,s',h1,h2,h3,h4⟩
  ·rw [hm] at h; cases h.1
  ·rw [hm] at h3
   obtain rfl:=Option.some.inj h3
   refine ⟨i,by rw [ints_len]; exact h1,?_,by rw [h4,Nat.zero_add]⟩
   unfold rd ints
   rw [Int.toNat_natCast,List.getD_eq_getElem?_getD,List.getElem?_map,h2]; rfl
 have hsl:s < 2 ^ 60:=hL s (missF_mem hm)
 have HF:=am_ (hit_find Ls hL ch hch B2 B3 B4 bm A c Kp w hin hKp)
 rw [hidx] at HF
 have HIN0:=am_ hin
 obtain ⟨c2,c3,c4,k2,k3,k4,row⟩:=hin
 obtain ⟨ad,eA,hcell⟩:=Kd.at_int (Kd.R_reads' row).2.2 (i:Int) (by omega) (by omega)
 rw [hget,Int.toNat_natCast] at hcell
 subst eA
 have HM:=am_ hM
 have HS:=am_ hS
 have HS2:=am_ hS2
 have HT:=am_ hT
 have HKP:=am_ hKp
 have HL:=am_ hL
 have HCH:=am_ hch
 have HSL:=am_ hsl
 have IH:=am_ ih
 have HMS:=am_ hm
 have b2:=wl_ w _ c2
 have hbl:=hM.lt
 have hmf:∀ (fn:Fn) (first cap:Array Value) (w:World),(Instr.makeFunc fn first cap).run Tryd.prog w = .ok (.func fn first cap) w:=fun _ _ _ _ => rfl
 have hi0:¬ (i:Int) < 0:=by omega
 have hil2:(i:Int) < ((ints Ls).length:Int):=by omega
 have hl1:(((m:Int) + 1) == 0) = false:=by rw [beq_eq_false_iff_ne]; omega
 clear hM hS hS2 hT hL hidx hget hm ih row hil hch hsl hKp
 have HNN:=am_ (rfl:(ints Ls).length = (ints Ls).length)
 go_enter Tryd.func86,Tryd.ntmps86
 go_wp2_with (first
  | (go_at_call 87; refine (HF.out _ (below_alloc (Below.refl _ _) _) (World.cell?_alloc_at _ _ _ _ rfl)).mono ?_; rintro e w1 ⟨rfl,hb1⟩; have hB1:=below_step (below_alloc (Below.refl w.heap.size w) (.cells #[.int .u64 (ch:Int)] 56)) hb1; have z2:=pw_cell_below hB1 c2; have zi:=pw_cell_below hB1 hcell; have zc:w1.cell? ⟨w.heap.size,0,none⟩ = some (.int .u64 (ch:Int)):=pw_cell_below hb1 (World.cell?_alloc_at _ _ _ _ rfl); have hz1:w.heap.size + 1 ≤ w1.heap.size:=(by have h_:=hb1.size; simp at h_; exact h_))
  | (go_at_call 89; refine (listed_any s HSL.out _ (HT.out _ (FrameBut.of_below hB1))).mono ?_; rintro e w2 ⟨v5,rfl,hr5,hb5⟩; obtain ⟨A5,c5,rfl⟩:=Kd.R_slice hr5))
 have HB2:=am_ (below_step hB1 hb5)
 have hz2:=hb5.size
 have HIN2:=am_ (HIN0.out.move (fun k hk => HB2.out.block k (HKP.out k hk)))
 have zc2:w2.cell? ⟨w.heap.size,0,none⟩ = some (.int .u64 (ch:Int)):=pw_cell_below hb5 zc
 have R5:Aside0 (Kd.R (Kd.int .i64) 3 w2 0 (fun k => w1.heap.size ≤ k ∧ k < w2.heap.size) (.slice A5 (bitsI s).length c5) (bitsI s)):=⟨Kd.R_lower (Kd.R_mono (Kd.R_bound hr5) (fun k hk => ⟨hk.2.1,hk.2.2.1⟩)) (Nat.zero_le _)⟩
 have hE:Aside0 (hitW Ls (m + 1) ch = (bitsI s).flatMap fun x => hitW Ls m (ch ||| 2 ^ x.toNat)):=⟨hitW_succ HMS.out m⟩
 have hbits:Aside0 (∀ x ∈ bitsI s,0 ≤ x ∧ x < 60):=⟨bitsI_lt60 s HSL.out⟩
 have HM2:Aside0 (MapIs w2 Tryd.prog 56 bm S.length setV (inH S)):=⟨(HM.out.below (Below.trans (below_alloc (Below.refl _ _) (.cells #[.int .u64 (ch:Int)] 56)) (hb1.mono (by simp)))).below (hb5.mono (Nat.le_refl _))⟩
 clear hr5 hb5 hb1 hB1 z2 zi zc HF HIN0 HM HMS hcell
 have hblen:(bitsI s).length ≤ 64:=bitsI_len s
 generalize bitsI s = bits at R5 hE hbits hblen ⊢
 have H0:Aside0 (HitMid Ls m ch bits bm S w2 0 w2):=⟨FrameBut.refl _ _,by simpa [addS] using HM2.out⟩
 go_loopg [25] (bits.length + 1) (fun gg u25 wr => ∃ i:Nat,i ≤ bits.length ∧ bits.length + 1 - i ≤ gg ∧ u25 = .int .i64 i ∧ Aside0 (HitMid Ls m ch bits bm S w2 i wr))
 case atStart => exact ⟨0,Nat.zero_le _,Nat.le_refl _,rfl,H0⟩
 case round =>
  clear H0 HM2
  obtain ⟨i,hib,hgg,rfl,HMid⟩:=hrel
  obtain ⟨hF,hMw⟩:=HMid.out
  have hsame:∀ k,Kp k → wr.heap[k]? = w2.heap[k]?:=fun k hk => hF.block k (Nat.lt_of_lt_of_le (HKP.out k hk) HB2.out.size) (fun h => hbm (h ▸ hk))
  have HIN3:=am_ (HIN2.out.move hsame)
  have z4:=HIN3.out.c4
  have zc3:wr.cell? ⟨w.heap.size,0,none⟩ = some (.int .u64 (ch:Int)):=hF.cell zc2 (fun h => by omega)
  by_cases hlt:i < bits.length
  ·have hlz:(i:Int) < (bits.length:Int):=by omega
   obtain ⟨x,hx⟩:∃ x,bits[i]? = some x:=⟨bits[i],List.getElem?_eq_getElem hlt⟩
   have hxb:=hbits.out x (List.mem_of_getElem? hx)
   obtain ⟨nx,rfl⟩:∃ n:Nat,x = (n:Int):=⟨x.toNat,by omega⟩
   have hR6:Kd.R (Kd.int .i64) 3 wr 0 (fun k => w1.heap.size ≤ k ∧ k < w2.heap.size) (.slice A5 bits.length c5) bits:=Kd.R_move R5.out (fun k hk => hF.block k hk.2 (fun h => by omega))
   obtain ⟨ad,eA,hcell⟩:=Kd.at_int (Kd.R_reads' hR6).2.2 (i:Int) (by omega) (by omega)
   have hrd:rd bits (i:Int) = (nx:Int):=by
    unfold rd
    rw [Int.toNat_natCast,List.getD_eq_getElem?_getD,hx]; rfl
   rw [hrd,Int.toNat_natCast] at hcell
   subst eA
   have hnx:nx < 60:=by omega
   have hsh:IntKind.u64.wrap ((2:Int) ^ nx) = (2:Int) ^ nx:=by
    have h:=u64_small ((2 ^ nx:Nat):Int) (Int.natCast_nonneg _) (by exact_mod_cast pow_lt60 hnx)
    rwa [Int.natCast_pow] at h
   have hor:Go.bits .or .u64 (ch:Int) ((2:Int) ^ nx) = ((ch ||| 2 ^ nx:Nat):Int):=by
    have h:=or_u64 ch (2 ^ nx) HCH.out (pow_lt60 hnx)
    rwa [Int.natCast_pow] at h
   have hD:Aside0 ((bits.take (i + 1)).flatMap (fun x => hitW Ls m (ch ||| 2 ^ x.toNat)) = (bits.take i).flatMap (fun x => hitW Ls m (ch ||| 2 ^ x.toNat)) ++ hitW Ls m (ch ||| 2 ^ nx)):=⟨by
    rw [List.take_add_one,hx,List.flatMap_append]; simp⟩
   have hDlt:∀ z ∈ (bits.take i).flatMap (fun x => hitW Ls m (ch ||| 2 ^ x.toNat)),z < 2 ^ 60:=fun z hz => by
    obtain ⟨y,hy,hz⟩:=List.mem_flatMap.1 hz
    have:=hbits.out y (List.mem_of_mem_take hy)
    exact hitW_lt HL.out m _ (Nat.or_lt_two_pow HCH.out (Nat.pow_lt_pow_right (by omega) (by omega))) z hz
   generalize (bits.take i).flatMap (fun x => hitW Ls m (ch ||| 2 ^ x.toNat)) = D at hD hDlt hMw HMid
   have HCall:Aside0 (∀ W,Below wr.heap.size wr W → Calls Tryd.prog 86 #[.int .u64 ((ch ||| 2 ^ nx:Nat):Int),.int .i64 (m:Int),.pointer (some ⟨B2,0,none⟩),.pointer (some ⟨B3,0,none⟩),.pointer (some ⟨B4,0,none⟩)] W (HitPost (hitW Ls m (ch ||| 2 ^ nx)) bm (addS S D) W)):=⟨fun W hW =>
    IH.out (ch ||| 2 ^ nx) (addS S D) W (Nat.or_lt_two_pow HCH.out (pow_lt60 hnx)) (HIN3.out.move (fun k hk => hW.block k (Nat.lt_of_lt_of_le (HKP.out k hk) (Nat.le_trans HB2.out.size hF.size)))) (fun k hk => Nat.lt_of_lt_of_le (HKP.out k hk) (Nat.le_trans HB2.out.size (Nat.le_trans hF.size hW.size)))
     (fun W' h' => HT.out W' ((FrameBut.of_below HB2.out).trans (hF.trans ((FrameBut.of_below hW).trans h' (fun k h => .inl h)) (fun k h => .inl h)) (fun k h => .inl h)))
     (addS_nodup _ _ HS.out) (fun z hz => ((addS_mem _ _ _).1 hz).elim (HS2.out z) (hDlt z)) (hMw.below hW)⟩
   have e1:IntKind.i64.wrap ((i:Int) + 1) = (i:Int) + 1:=IntWalk.i64_in _ (by omega)
   have e2:IntKind.i64.wrap (m:Int) = (m:Int):=IntWalk.i64_in _ (by omega)
   have HFr:=am_ hF
   have nc:¬ w.heap.size = bm:=by omega
   have n4:¬ B4 = bm:=fun h => hbm (h ▸ HIN3.out.k4)
   clear hF hMw hsame hDlt hR6 hx hrd hxb HMid
   generalize hE2:ch ||| 2 ^ nx = E at hor HCall hD
   have HE:=am_ hE2
   clear hE2
   go_wp2_with fail
   go_region_held3 (fun w' => w'.cell? ⟨B4,0,none⟩ = some (.func (.func 86) #[] #[.pointer (some ⟨B2,0,none⟩),.pointer (some ⟨B3,0,none⟩),.pointer (some ⟨B4,0,none⟩)]) ∧ w'.cell? ⟨w.heap.size,0,none⟩ = some (.int .u64 (ch:Int)))
    (first | exact ⟨z4,zc3⟩ | exact ⟨G9.cellH z4 n4,G9.cellH zc3 nc⟩)
    ((go_at_call 86; refine (HCall.out _ (below_drew (Below.refl _ _))).mono ?_; rintro e w9 ⟨rfl,HF9,hM9⟩; have G9:=((FrameBut.refl (fun k => k = bm) wr).drew).trans HF9 (fun k h => .inl h)))
   all_goals
    have HG9:=am_ G9
    have HM9:=am_ hM9
    go_split_ands
    clear HF9 hM9 G9
    go_wp2
    go_roundg (bits.length + 1 - (i + 1))
    case measure => omega
    case rel => exact ⟨i + 1,by omega,Nat.le_refl _,by go_num,⟨HFr.out.trans HG9.out (fun k h => .inl h),by rw [hD.out,addS_append]; exact HM9.out⟩⟩
  ·have hie:i = bits.length:=by omega
   subst hie
   have HR:Aside0 (HitPost (hitW Ls (m + 1) ch) bm S w (.returned (.tuple #[])) wr):=⟨rfl,(FrameBut.of_below HB2.out).trans hF (fun k h => .inl h),by rw [hE.out]; rw [List.take_length] at hMw; exact hMw⟩
   clear hF hMw hsame HMid
   go_wp2_with fail
   exact bodyPost_end (v:=.tuple #[]) (by simp [results,Tryd.results86,go_sem]) rfl HR.out
theorem hit_any (Ls:List Nat) (hL:∀ s ∈ Ls,s < 2 ^ 60) (B2 B3 B4 bm:Nat) (A:Option Addr) (c:Nat) (Kp:Nat → Prop) (hbm:¬ Kp bm):∀ (m:Nat),m ≤ 64 → ∀ (ch:Nat) (S:List Nat) (w:World),ch < 2 ^ 60 → HitIn w B2 B3 B4 bm A c Ls Kp → (∀ k,Kp k → k < w.heap.size) → (∀ W,FrameBut (fun k => k = bm) w W → TB W) → S.Nodup → (∀ x ∈ S,x < 2 ^ 60) → MapIs w Tryd.prog 56 bm S.length setV (inH S) →
  Calls Tryd.prog 86 #[.int .u64 (ch:Int),.int .i64 (m:Int),.pointer (some ⟨B2,0,none⟩),.pointer (some ⟨B3,0,none⟩),.pointer (some ⟨B4,0,none⟩)] w (HitPost (hitW Ls m ch) bm S w):=by
 intro m
 induction m with
 | zero =>
  intro _ ch S w hch hin hKp hT hS hS2 hM
  rcases hm:missF Ls ch with _ | s
  ·rw [hitW_none hm]
   exact hit_none Ls hL ch 0 hch hm B2 B3 B4 bm A c Kp S w hin hbm hKp (Nat.le_trans (nodup_len _ _ hS hS2) (Nat.le_refl _)) hM
  ·rw [hitW_zero hm]
   exact hit_stop Ls hL ch s hch hm B2 B3 B4 bm A c Kp S w hin hKp hM
 | succ m ih =>
  intro hm64 ch S w hch hin hKp hT hS hS2 hM
  rcases hm:missF Ls ch with _ | s
  ·rw [hitW_none hm]
   exact hit_none Ls hL ch (m + 1) hch hm B2 B3 B4 bm A c Kp S w hin hbm hKp (Nat.le_trans (nodup_len _ _ hS hS2) (Nat.le_refl _)) hM
  ·have h:=hit_go Ls hL B2 B3 B4 bm A c Kp m (ih (by omega)) ch s S w hch (by omega) hm hin hbm hKp hT hS hS2 hM
   rw [show ((m + 1:Nat):Int) = (m:Int) + 1 by omega]
   exact h
theorem store_fnH {P:Program} {w:World} {a:Addr} {m:Mode} (fn:Fn) (first cap:Array Value):(store a (.func fn first cap) m).run P w = stored P w a (.func fn first cap) m:=run_store P w a _ m rfl
attribute [local go_sem] store_fnH
set_option maxRecDepth 100000 in
set_option maxHeartbeats 8000000 in
theorem hitting_any (Ls:List Nat) (hL:∀ s ∈ Ls,s < 2 ^ 60) (K:Nat) (hK:K ≤ 64) (hne:hitW Ls K 0 ≠ []) (hmin:∀ j,j < K → hitW Ls j 0 = []) (base:Nat) (A:Option Addr) (c:Nat) (w:World) (hr:Kd.R (Kd.int .u64) 56 w base (fun _ => True) (.slice A (ints Ls).length c) (ints Ls)) (hT:TB w) :
  Calls Tryd.prog 41 #[.slice A (ints Ls).length c] w fun e w' => ∃ bm,e = .returned (.map (some bm)) ∧ w.heap.size ≤ bm ∧ MapIs w' Tryd.prog 56 bm (addS [] (hitW Ls K 0)).length setV (inH (addS [] (hitW Ls K 0))) ∧ Below w.heap.size w w':=by
 have hmm:=@run_makeMap Tryd.prog
 have hmf:∀ (fn:Fn) (first cap:Array Value) (w:World),(Instr.makeFunc fn first cap).run Tryd.prog w = .ok (.func fn first cap) w:=fun _ _ _ _ => rfl
 have HT:=am_ hT
 have HR:=am_ (Kd.R_lower (Kd.R_mono (Kd.R_bound hr) (fun k hk => hk.2.2.1)) (Nat.zero_le _):Kd.R (Kd.int .u64) 56 w 0 (fun k => k < w.heap.size) (.slice A (ints Ls).length c) (ints Ls))
 have HL:=am_ hL
 have HNE:=am_ hne
 have HMIN:=am_ hmin
 clear hr hT hL hne hmin
 have B0:Aside0 (Below (w.heap.size + 1) (w.alloc (.cells #[.slice A (ints Ls).length c] 52)) (w.alloc (.cells #[.slice A (ints Ls).length c] 52))):=⟨Below.refl _ _⟩
 go_enter Tryd.func41,Tryd.ntmps41
 go_wp2_with fail
 go_loopg [3] (K + 1) (fun gg u3 wr => ∃ j:Nat,j ≤ K ∧ K + 1 - j ≤ gg ∧ u3 = .int .i64 j ∧ Aside0 (Below (w.heap.size + 1) (w.alloc (.cells #[.slice A (ints Ls).length c] 52)) wr))
 case atStart => exact ⟨0,Nat.zero_le _,Nat.le_refl _,rfl,B0⟩
 case round =>
  clear B0
  obtain ⟨j,hjK,hgg,rfl,HB⟩:=hrel
  have hz:w.heap.size + 1 ≤ wr.heap.size:=by have:=HB.out.size; simp at this; exact this
  have HBw:Aside0 (Below w.heap.size w wr):=⟨below_step (below_alloc (Below.refl w.heap.size w) (.cells #[.slice A (ints Ls).length c] 52)) (by simpa using HB.out)⟩
  have c2:wr.cell? ⟨w.heap.size,0,none⟩ = some (.slice A (ints Ls).length c):=pw_cell_below (w:=w.alloc (.cells #[.slice A (ints Ls).length c] 52)) (by simpa using HB.out) (World.cell?_alloc_at _ _ _ _ rfl)
  have HC:Aside0 (Calls Tryd.prog 86 #[.int .u64 0,.int .i64 (j:Int),.pointer (some ⟨w.heap.size,0,none⟩),.pointer (some ⟨wr.heap.size + 1,0,none⟩),.pointer (some ⟨wr.heap.size + 1 + 1,0,none⟩)] (((wr.alloc (.map #[] 0)).alloc (.cells #[.map (some wr.heap.size)] 61)).alloc (.cells #[.func (.func 86) #[] #[.pointer (some ⟨w.heap.size,0,none⟩),.pointer (some ⟨wr.heap.size + 1,0,none⟩),.pointer (some ⟨wr.heap.size + 1 + 1,0,none⟩)]] 108))
   (HitPost (hitW Ls j 0) wr.heap.size [] (((wr.alloc (.map #[] 0)).alloc (.cells #[.map (some wr.heap.size)] 61)).alloc (.cells #[.func (.func 86) #[] #[.pointer (some ⟨w.heap.size,0,none⟩),.pointer (some ⟨wr.heap.size + 1,0,none⟩),.pointer (some ⟨wr.heap.size + 1 + 1,0,none⟩)]] 108)))):=by
   have B3:Below wr.heap.size wr (((wr.alloc (.map #[] 0)).alloc (.cells #[.map (some wr.heap.size)] 61)).alloc (.cells #[.func (.func 86) #[] #[.pointer (some ⟨w.heap.size,0,none⟩),.pointer (some ⟨wr.heap.size + 1,0,none⟩),.pointer (some ⟨wr.heap.size + 1 + 1,0,none⟩)]] 108)):=below_alloc (below_alloc (below_alloc (Below.refl _ _) _) _) _
   refine ⟨hit_any Ls HL.out w.heap.size (wr.heap.size + 1) (wr.heap.size + 1 + 1) wr.heap.size A c (fun k => k < wr.heap.size + 3 ∧ k ≠ wr.heap.size) (fun h => h.2 rfl) j (by omega) 0 [] _ (by decide)
    ⟨pw_cell_below B3 c2,pw_cell_below (below_alloc (Below.refl _ _) _) (World.cell?_alloc_at _ _ _ _ (by simp)),World.cell?_alloc_at _ _ _ _ (by simp),⟨by omega,by omega⟩,⟨by omega,by omega⟩,⟨by omega,by omega⟩,Kd.R_mono (Kd.R_move HR.out (fun k hk => ?_)) (fun k hk => ⟨by omega,by omega⟩)⟩ (fun k hk => by simp; exact hk.1) (fun W h' => ?_) List.nodup_nil (fun x hx => by cases hx) ?_⟩
   ·exact (B3.block k (by omega)).trans (HBw.out.block k hk)
   ·have h2:FrameBut (fun k => k = wr.heap.size) wr W:=(FrameBut.of_below B3).trans h' (fun k h => .inl h)
    exact (HT.out.below HBw.out).below (h2.toBelow (Nat.le_refl _) (fun k hk h => by omega))
   ·have h3:=(((MapIs.made wr Tryd.prog 56 setV).alloc (.cells #[.map (some wr.heap.size)] 61)).alloc (.cells #[.func (.func 86) #[] #[.pointer (some ⟨w.heap.size,0,none⟩),.pointer (some ⟨wr.heap.size + 1,0,none⟩),.pointer (some ⟨wr.heap.size + 1 + 1,0,none⟩)]] 108))
    exact h3.congr (fun c kl _ => by simp [inH])
  have e1:IntKind.i64.wrap ((j:Int) + 1) = (j:Int) + 1:=IntWalk.i64_in _ (by omega)
  by_cases hj:hitW Ls j 0 = []
  ·have hjK2:j < K:=by
    rcases Nat.lt_or_ge j K with h | h
    ·exact h
    ·obtain rfl:j = K:=by omega
     exact absurd hj HNE.out
   rw [hj] at HC
   go_wp2_with (go_at_call 86; refine HC.out.mono ?_; rintro e w9 ⟨rfl,HF9,hM9⟩; have z3:w9.cell? ⟨wr.heap.size + 1,0,none⟩ = some (.map (some wr.heap.size)):=HF9.cellH (pw_cell_below (below_alloc (Below.refl _ _) _) (World.cell?_alloc_at _ _ _ _ (by simp))) (fun h => by simp at h); have hlm:=fun ty => hM9.len Tryd.underlying61 ty; rw [show (addS [] ([]:List Nat)).length = 0 from rfl] at hlm)
   have hB9:Below (w.heap.size + 1) (w.alloc (.cells #[.slice A (ints Ls).length c] 52)) w9:=HB.out.trans (((FrameBut.of_below (below_alloc (below_alloc (below_alloc (Below.refl wr.heap.size wr) _) _) _)).trans HF9 (fun k h => .inl h)).toBelow hz (fun k hk h => by omega))
   clear HF9 hM9 hlm z3
   go_roundg (K + 1 - (j + 1))
   case measure => omega
   case rel => exact ⟨j + 1,by omega,Nat.le_refl _,by go_num,⟨hB9⟩⟩
  ·have hjK2:j = K:=by
    rcases Nat.lt_or_ge j K with h | h
    ·exact absurd (HMIN.out j h) hj
    ·omega
   subst hjK2
   have hpos:0 < (addS [] (hitW Ls j 0)).length:=by
    rcases hq:hitW Ls j 0 with _ | ⟨z,t⟩
    ·exact absurd hq hj
    ·exact List.length_pos_of_mem ((addS_mem (z :: t) [] z).2 (.inr List.mem_cons_self))
   generalize hws:hitW Ls j 0 = ws at HC hpos
   generalize hN:(addS [] ws).length = N at hpos
   have hposz:(0:Int) < (N:Int):=by omega
   go_wp2_with (go_at_call 86; refine HC.out.mono ?_; rintro e w9 ⟨rfl,HF9,hM9⟩; have z3:w9.cell? ⟨wr.heap.size + 1,0,none⟩ = some (.map (some wr.heap.size)):=HF9.cellH (pw_cell_below (below_alloc (Below.refl _ _) _) (World.cell?_alloc_at _ _ _ _ (by simp))) (fun h => by simp at h); have hlm:=fun ty => hM9.len Tryd.underlying61 ty; rw [hN] at hlm)
   go_ret
   exact ⟨wr.heap.size,rfl,by omega,by rw [hws]; exact hM9,HBw.out.trans (((FrameBut.of_below (below_alloc (below_alloc (below_alloc (Below.refl wr.heap.size wr) _) _) _)).trans HF9 (fun k h => .inl h)).toBelow HBw.out.size (fun k hk h => by have:=HBw.out.size; omega))⟩

end Go.Proofs.YtehjfaddhmdicaaDoor.P
