/- For every input the law FnExactFigureOfLoop answers true: the program's FigureOfLoop tells what the reference's FigureOfLoop tells; no condition. (part 4 of the proof; the words of the kit's print tool and the texts of this seat, merged by a program) -/
import Derived.Deep.RegionLaw
import Derived.Laws.IdiomStrings
import Derived.Shelf.Strings.SlTrimAscii
import Derived.Test.YtehjfaddhmdicaaDoorPshelf
import Derived.Test.YtehjfaddhmdicaaDoorMFO3
namespace Go.Proofs.YtehjfaddhmdicaaDoor.P
open Go.RowKit Go.Proofs.YtehjfaddhmdicaaDoorW.PrintWords Go.Proofs.YtehjfaddhmdicaaDoorW.PrintLast Go.Proofs.YtehjfaddhmdicaaDoorW.PrintMore
attribute [local go_sem] max2_int min2_int max_two min_two max_three min_three max_four min_four   -- for this text's walks alone
set_option linter.unusedVariables false
set_option linter.unusedSimpArgs false

def impl_grid_figure.f (a0_0:Int) (a0_1:Int) (a1:Int):Option (Int × Int × List Int × List Int):=(impl_grid_levels.f a0_0 a0_1).bind fun t143 => (if 0 ≤ t143 then ((impl_set_listed.f (Go.bits .and .u64 a1 (IntKind.u64.wrap ((shl .u64 1 t143) - 1)))).bind fun t144 => ((impl_grid_levels.f a0_0 a0_1).bind fun t147 => (if 0 ≤ t147 then ((impl_set_listed.f (shr .u64 a1 t147)).bind fun t148 => (some (a0_0,a0_1,t144,t148))) else (none)))) else (none))
def impl_grid_figure.T2:Bool × List (List Nat × List Nat):=(true,[([],[]),([0],[0]),([],[]),([2],[2]),([],[]),([],[]),([4,5],[4,5]),([6],[6]),([],[]),([],[]),([9,7],[9]),([8,10],[8,10]),([11,10],[11]),([1,3,7,12],[1,3,7,12]),([13,12,0,1,2,3,4,5,6,7,8,9,10,11,12,13],[13])])
def impl_grid_figure.B2:List Nat:=[0,1,0,4,0,0,48,112,0,0,752,2032,4080,8191,16383]
theorem impl_grid_figure.tab2:rtab .any (opsOf Tryd.f56 2) = impl_grid_figure.T2:=by kernel_rfl
theorem impl_grid_figure.bits2:waitsOk impl_grid_figure.T2.2 impl_grid_figure.B2 = true:=by kernel_rfl
set_option maxHeartbeats 8000000 in
set_option maxRecDepth 100000 in
theorem impl_grid_figure.calls (a0_0:Int) (a0_1:Int) (a1:Int) (r1:Int) (r2:Int) (r3:List Int) (r4:List Int) (w:World) (hT_:TB w) (h:impl_grid_figure.f a0_0 a0_1 a1 = some (r1,r2,r3,r4)) :
  Calls Tryd.prog 56 #[.agg #[.int .i64 a0_0,.int .i64 a0_1],.int .u64 a1] w fun e w' => ∃ v2_ v3_:Value,e = .returned (.agg #[.int .i64 r1,.int .i64 r2,v2_,v3_]) ∧ Kd.R (Kd.int .i64) 3 w' w.heap.size (fun k_ => some k_ ≠ (v3_:Value).ownBlock) v2_ r3 ∧ Kd.R (Kd.int .i64) 3 w' w.heap.size (fun k_ => some k_ ≠ (v2_:Value).ownBlock) v3_ r4 ∧ Below w.heap.size w w':=by
 have hu75:=Tryd.underlying75
 have hu36:=Tryd.underlying36
 have HB:=am_ (Below.refl w.heap.size w)
 have HTB:=am_ hT_
 clear hT_
 have H:((impl_grid_levels.f a0_0 a0_1).bind fun t143 => (if 0 ≤ t143 then ((impl_set_listed.f (Go.bits .and .u64 a1 (IntKind.u64.wrap ((shl .u64 1 t143) - 1)))).bind fun t144 => ((impl_grid_levels.f a0_0 a0_1).bind fun t147 => (if 0 ≤ t147 then ((impl_set_listed.f (shr .u64 a1 t147)).bind fun t148 => (some (a0_0,a0_1,t144,t148))) else (none)))) else (none))) = some (r1,r2,r3,r4):=h
 clear h
 replace H:=bi_ H
 obtain ⟨t143,A30,H⟩:=H
 replace H:(if 0 ≤ t143 then ((impl_set_listed.f (Go.bits .and .u64 a1 (IntKind.u64.wrap ((shl .u64 1 t143) - 1)))).bind fun t144 => ((impl_grid_levels.f a0_0 a0_1).bind fun t147 => (if 0 ≤ t147 then ((impl_set_listed.f (shr .u64 a1 t147)).bind fun t148 => (some (a0_0,a0_1,t144,t148))) else (none)))) else (none)) = some (r1,r2,r3,r4):=H
 have A3:=am_ A30
 clear A30
 by_cases c4:0 ≤ t143
 ·rw [if_pos c4] at H
  have c4b0:=eq_true c4
  have c4b1:decide (0 ≤ t143) = true:=decide_eq_true c4
  clear c4
  obtain ⟨ji5,hji5⟩:∃ j_:Int,(shl .u64 1 t143) = j_:=⟨_,rfl⟩
  replace H:((impl_set_listed.f (Go.bits .and .u64 a1 (IntKind.u64.wrap ((ji5) - 1)))).bind fun t144 => ((impl_grid_levels.f a0_0 a0_1).bind fun t147 => (if 0 ≤ t147 then ((impl_set_listed.f (shr .u64 a1 t147)).bind fun t148 => (some (a0_0,a0_1,t144,t148))) else (none)))) = some (r1,r2,r3,r4):=by first | (rw [hji5] at H; exact H) | (simp only [hji5] at H ⊢; exact H)
  (try rw [hji5] at A3)
  have hji5_:(IntKind.u64.wrap (1 * 2 ^ min t143.toNat 64)) = ji5:=hji5
  have hji5z:t143 ≤ 64 → (IntKind.u64.wrap (1 * 2 ^ t143.toNat)) = ji5:=shl_small hji5
  have hji5u:(IntKind.u64.wrap (2 ^ min t143.toNat 64)) = ji5:=by have h_:=hji5_; rw [Int.one_mul] at h_; exact h_
  have hji5v:t143 ≤ 64 → (IntKind.u64.wrap (2 ^ t143.toNat)) = ji5:=fun hle_ => by have h_:=hji5z hle_; rw [Int.one_mul] at h_; exact h_
  replace H:=bi_ H
  obtain ⟨t144,A60,H⟩:=H
  replace H:((impl_grid_levels.f a0_0 a0_1).bind fun t147 => (if 0 ≤ t147 then ((impl_set_listed.f (shr .u64 a1 t147)).bind fun t148 => (some (a0_0,a0_1,t144,t148))) else (none))) = some (r1,r2,r3,r4):=H
  have A6:=am_ A60
  clear A60
  replace H:=bi_ H
  obtain ⟨t147,A70,H⟩:=H
  replace H:(if 0 ≤ t147 then ((impl_set_listed.f (shr .u64 a1 t147)).bind fun t148 => (some (a0_0,a0_1,t144,t148))) else (none)) = some (r1,r2,r3,r4):=H
  have A7:=am_ A70
  clear A70
  by_cases c8:0 ≤ t147
  ·rw [if_pos c8] at H
   have c8b0:=eq_true c8
   have c8b1:decide (0 ≤ t147) = true:=decide_eq_true c8
   clear c8
   obtain ⟨ji9,hji9⟩:∃ j_:Int,(shr .u64 a1 t147) = j_:=⟨_,rfl⟩
   replace H:((impl_set_listed.f (ji9)).bind fun t148 => (some (a0_0,a0_1,t144,t148))) = some (r1,r2,r3,r4):=by first | (rw [hji9] at H; exact H) | (simp only [hji9] at H ⊢; exact H)
   (try rw [hji9] at A3)
   (try rw [hji9] at A6)
   (try rw [hji9] at A7)
   have hji9_:(a1 / 2 ^ min t147.toNat 64) = ji9:=hji9
   have hji9z:t147 ≤ 64 → (a1 / 2 ^ t147.toNat) = ji9:=shr_small hji9
   replace H:=bi_ H
   obtain ⟨t148,A100,H⟩:=H
   replace H:(some (a0_0,a0_1,t144,t148)) = some (r1,r2,r3,r4):=H
   have A10:=am_ A100
   clear A100
   simp only [Option.some.injEq,Prod.mk.injEq] at H
   obtain ⟨rfl,rfl,rfl,rfl⟩:=H
   go_enter Tryd.func56,Tryd.ntmps56
   try go_wp2_with (first | ((with_reducible refine gate_dst (N:=2) rfl ?_); refine boxE_ (N:=2) (cs:=#[.int .i64 a0_0,.int .i64 a0_1]) (t:=75) ?_; intro gb141 hg w11 hbox hb; have n0_:=am_ (below_step (bl0_ HB.out) hb); have n1_:=am_ (hbox); have n2_:=am_ ((bs0_ hg HB.out:w.heap.size ≤ gb141)); have n3_:=am_ ((bs0_ hg HB.out:w.heap.size ≤ gb141)); clear HB; have HB:=n0_; have BK141:=n1_; have GW141:=n2_; have GE141:=n3_; clear n0_ n1_ n2_ n3_; clear hb hbox hg) | ((with_reducible refine gate_dst (N:=4) rfl ?_); refine boxE_ (N:=4) (cs:=#[.int .i64 0,.int .i64 0,.slice none 0 0,.slice none 0 0]) (t:=36) ?_; intro gb142 hg w12 hbox hb; have n0_:=am_ (bb_ BK141.out hb); have n1_:=am_ (below_step (bl1_ HB.out GE141.out) hb); have n2_:=am_ (hbox); have n3_:=am_ ((bs1_ hg HB.out GE141.out:w.heap.size ≤ gb142)); have n4_:=am_ ((bs1_ hg HB.out GE141.out:w.heap.size ≤ gb142)); have n5_:=am_ ((nl_ hg BK141.out:gb141 ≠ gb142)); have n6_:=am_ ((ng_ hg BK141.out:gb142 ≠ gb141)); clear BK141; clear HB; have BK141:=n0_; have HB:=n1_; have BK142:=n2_; have GW142:=n3_; have GE142:=n4_; have NB141_142:=n5_; have NB142_141:=n6_; clear n0_ n1_ n2_ n3_ n4_ n5_ n6_; clear hb hbox hg; have hnb13:=NB141_142.out; have hnc13:=NB142_141.out; have hcz14_0:w12.cell? ⟨gb141,0,none⟩ = some (.int .i64 a0_0):=(bc_ BK141.out 0).trans rfl; have hcz14_1:w12.cell? ⟨gb141,1,none⟩ = some (.int .i64 a0_1):=(bc_ BK141.out 1).trans rfl; have hfz14_0:=bz_ BK141.out 0; have hfz14_1:=bz_ BK141.out 1) | ((with_reducible refine gate_callee (f:=101) rfl ?_); refine goesL_ (some 7) rfl rfl Tryd.func101 (by kernel_rfl) rfl #[.agg #[.int .i64 a0_0,.int .i64 a0_1]] rfl ob_ ?_; (with_reducible refine (impl_grid_levels.calls a0_0 a0_1 t143 _ A3.out).mono ?_); rintro e w15 ⟨rfl,hb⟩; refine ⟨_,rfl,?_⟩; have n0_:=am_ (bb_ BK141.out hb); have n1_:=am_ (bb_ BK142.out hb); have n2_:=am_ (below_step (bl2_ HB.out GE141.out GE142.out) hb); clear BK141; clear BK142; clear HB; have BK141:=n0_; have BK142:=n1_; have HB:=n2_; clear n0_ n1_ n2_; (try clear hb); (try clear hb2); (try clear hk); (try clear hi)))
   have n0_:=am_ (blk_drew BK141.out)
   have n1_:=am_ (blk_drew BK142.out)
   have n2_:=am_ (below_drew1 HB.out)
   clear BK141
   clear BK142
   clear HB
   have BK141:=n0_
   have BK142:=n1_
   have HB:=n2_
   clear n0_ n1_ n2_
   refine start_ (n:=15) (S:=fun w' => w'.cell? ⟨gb141,0,none⟩ = some (.int .i64 a0_0) ∧ w'.cell? ⟨gb141,1,none⟩ = some (.int .i64 a0_1)) (ds:=[]) #[false,false,false,false,false,false,false,false,false,false,false,false,false,false,false] (by kernel_rfl) rfl rfl ⟨(bc_ BK141.out 0).trans rfl,(bc_ BK141.out 1).trans rfl⟩ (fun hHeld => ?_); refine with_tabW impl_grid_figure.tab2 impl_grid_figure.bits2 (fun HT_ HW_ => ?_)
   generalize w15.drew = w16 at BK141 BK142 HB hHeld ⊢
   refine pure_ (i:=0) (N:=some 10) (v:=?_) (a':=?_) #[true,false,false,false,false,false,false,false,false,false,false,false,false,false,false] rfl rfl (any_of HT_.out (by kernel_rfl)) (fun _ _ _ h => h) (Or.inl ⟨by rfl,?_⟩) ?_ ?_
   rotate_left
   ·intro w'
    go_simp
    with_reducible rfl
   rotate_left
   ·simp only [Act.put,List.setIfInBounds_toArray,List.set_cons_zero,List.set_cons_succ,i64_w,i32_w]
    rfl
   refine pure_ (i:=2) (N:=some 12) (v:=?_) (a':=?_) #[true,false,true,false,false,false,false,false,false,false,false,false,false,false,false] rfl rfl (any_of HT_.out (by kernel_rfl)) (fun _ _ _ h => h) (Or.inl ⟨by rfl,?_⟩) ?_ ?_
   rotate_left
   ·intro w'
    go_simp
    with_reducible rfl
   rotate_left
   ·simp only [Act.put,List.setIfInBounds_toArray,List.set_cons_zero,List.set_cons_succ,i64_w,i32_w]
    rfl
   refine pure_ (i:=4) (N:=some 14) (v:=?_) (a':=?_) #[true,false,true,false,true,false,false,false,false,false,false,false,false,false,false] rfl rfl (any_of HT_.out (by kernel_rfl)) (fun _ _ _ h => h) (Or.inl ⟨by rfl,?_⟩) ?_ ?_
   rotate_left
   ·intro w'
    go_simp
    with_reducible rfl
   rotate_left
   ·simp only [Act.put,List.setIfInBounds_toArray,List.set_cons_zero,List.set_cons_succ,i64_w,i32_w]
    rfl
   refine pure_ (i:=5) (N:=some 15) (v:=?_) (a':=?_) #[true,false,true,false,true,true,false,false,false,false,false,false,false,false,false] rfl rfl (any_of HT_.out (by kernel_rfl)) (fun _ _ _ h => h) (Or.inl ⟨by rfl,?_⟩) ?_ ?_
   rotate_left
   ·intro w'
    go_simp
    with_reducible rfl
   rotate_left
   ·simp only [Act.put,List.setIfInBounds_toArray,List.set_cons_zero,List.set_cons_succ,i64_w,i32_w]
    rfl
   refine pure_ (i:=6) (N:=some 16) (v:=?_) (a':=?_) #[true,false,true,false,true,true,true,false,false,false,false,false,false,false,false] rfl rfl (any_of HT_.out (by kernel_rfl)) (fun _ _ _ h => h) (Or.inl ⟨by rfl,?_⟩) ?_ ?_
   rotate_left
   ·intro w'
    go_simp
    with_reducible rfl
   rotate_left
   ·simp only [Act.put,List.setIfInBounds_toArray,List.set_cons_zero,List.set_cons_succ,i64_w,i32_w]
    rfl
   refine pure_ (i:=8) (N:=some 18) (v:=?_) (a':=?_) #[true,false,true,false,true,true,true,false,true,false,false,false,false,false,false] rfl rfl (any_of HT_.out (by kernel_rfl)) (fun _ _ _ h => h) (Or.inl ⟨by rfl,?_⟩) ?_ ?_
   rotate_left
   ·intro w'
    go_simp
    with_reducible rfl
   rotate_left
   ·simp only [Act.put,List.setIfInBounds_toArray,List.set_cons_zero,List.set_cons_succ,i64_w,i32_w]
    rfl
   refine take_ (i:=1) (N:=some 11) (v:=?_) (a':=?_) #[true,true,true,false,true,true,true,false,true,false,false,false,false,false,false] rfl rfl (take_ofW HT_.out HW_.out (by kernel_rfl)) (fun _ _ _ h => h) (Or.inl ⟨by rfl,?_⟩) hHeld ?_ ?_
   rotate_left
   ·rintro w' ⟨s0,s1⟩
    go_simp
    with_reducible rfl
   rotate_left
   ·simp only [Act.put,List.setIfInBounds_toArray,List.set_cons_zero,List.set_cons_succ,i64_w,i32_w]
    rfl
   refine take_ (i:=3) (N:=some 13) (v:=?_) (a':=?_) #[true,true,true,true,true,true,true,false,true,false,false,false,false,false,false] rfl rfl (take_ofW HT_.out HW_.out (by kernel_rfl)) (fun _ _ _ h => h) (Or.inl ⟨by rfl,?_⟩) hHeld ?_ ?_
   rotate_left
   ·rintro w' ⟨s0,s1⟩
    go_simp
    with_reducible rfl
   rotate_left
   ·simp only [Act.put,List.setIfInBounds_toArray,List.set_cons_zero,List.set_cons_succ,i64_w,i32_w]
    rfl
   refine take_ (i:=9) (N:=some 19) (v:=?_) (a':=?_) #[true,true,true,true,true,true,true,false,true,true,false,false,false,false,false] rfl rfl (take_ofW HT_.out HW_.out (by kernel_rfl)) (fun _ _ _ h => h) (Or.inl ⟨by rfl,?_⟩) hHeld ?_ ?_
   rotate_left
   ·rintro w' ⟨s0,s1⟩
    go_simp
    with_reducible rfl
   rotate_left
   ·simp only [Act.put,List.setIfInBounds_toArray,List.set_cons_zero,List.set_cons_succ,i64_w,i32_w]
    rfl
   refine one_ (i:=7) (N:=some 17) #[true,true,true,true,true,true,true,true,true,true,false,false,false,false,false] rfl rfl (one_of HT_.out (by kernel_rfl)) (by decide) (fun K hK => ?_)
   refine goes_ Tryd.func89 (by kernel_rfl) rfl #[.int .u64 (Go.bits .and .u64 a1 (IntKind.u64.wrap ((ji5) - 1)))] (by rfl) rfl rfl (by (try simp only [List.map_toArray,List.map_cons,List.map_nil]); first | done | (simp only [hji5]; rfl) | rfl | (simp only [List.length_drop,List.length_take]; rfl)) ?_
   with_reducible refine (impl_set_listed.calls (Go.bits .and .u64 a1 (IntKind.u64.wrap ((ji5) - 1))) t144 _ (TB.below HTB.out (bl2_ HB.out GE141.out GE142.out)) A6.out).mono ?_
   rintro e w17 ⟨v145,rfl,ho0,hb⟩
   refine ⟨_,rfl,?_⟩
   have n0_:=am_ (Kd.R_lower ho0 (below_size (bl2_ HB.out GE141.out GE142.out)))
   have n1_:=am_ (bb_ BK141.out hb)
   have n2_:=am_ (bb_ BK142.out hb)
   have n3_:=am_ (below_step (bl2_ HB.out GE141.out GE142.out) hb)
   clear BK141
   clear BK142
   clear HB
   have HO146:=n0_
   have BK141:=n1_
   have BK142:=n2_
   have HB:=n3_
   clear n0_ n1_ n2_ n3_
   (try clear hb)
   (try clear hb2)
   (try clear hk)
   (try clear hi)
   (try clear ho0)
   refine hK.out _ _ ⟨(bc_ BK141.out 0).trans rfl,(bc_ BK141.out 1).trans rfl⟩ (fun hHeld => ?_)
   clear hK K
   refine norm_ (a':=?_) ?_ ?_
   rotate_left
   ·show Act.put _ (some 17) _ = _
    simp only [Act.put,List.setIfInBounds_toArray,List.set_cons_zero,List.set_cons_succ,i64_w,i32_w]
    rfl
   refine one_ (i:=10) (N:=some 20) #[true,true,true,true,true,true,true,true,true,true,true,false,false,false,false] rfl rfl (one_of HT_.out (by kernel_rfl)) (by decide) (fun K hK => ?_)
   refine goes_ Tryd.func101 (by kernel_rfl) rfl #[.agg #[.int .i64 a0_0,.int .i64 a0_1]] (by rfl) rfl rfl ob_ ?_
   with_reducible refine (impl_grid_levels.calls a0_0 a0_1 t147 _ A7.out).mono ?_
   rintro e w18 ⟨rfl,hb⟩
   refine ⟨_,rfl,?_⟩
   have n0_:=am_ (Kd.R_below (kr_ HO146.out) hb)
   have n1_:=am_ (bb_ BK141.out hb)
   have n2_:=am_ (bb_ BK142.out hb)
   have n3_:=am_ (below_step (bl2_ HB.out GE141.out GE142.out) hb)
   clear HO146
   clear BK141
   clear BK142
   clear HB
   have HO146:=n0_
   have BK141:=n1_
   have BK142:=n2_
   have HB:=n3_
   clear n0_ n1_ n2_ n3_
   (try clear hb)
   (try clear hb2)
   (try clear hk)
   (try clear hi)
   refine hK.out _ _ ⟨(bc_ BK141.out 0).trans rfl,(bc_ BK141.out 1).trans rfl⟩ (fun hHeld => ?_)
   clear hK K
   refine norm_ (a':=?_) ?_ ?_
   rotate_left
   ·show Act.put _ (some 20) _ = _
    simp only [Act.put,List.setIfInBounds_toArray,List.set_cons_zero,List.set_cons_succ,i64_w,i32_w]
    rfl
   refine pure_ (i:=11) (N:=some 21) (v:=?_) (a':=?_) #[true,true,true,true,true,true,true,true,true,true,true,true,false,false,false] rfl rfl (any_of HT_.out (by kernel_rfl)) (fun _ _ _ h => h) (Or.inl ⟨by rfl,?_⟩) ?_ ?_
   rotate_left
   ·intro w'
    go_simp
    with_reducible rfl
   rotate_left
   ·simp only [Act.put,List.setIfInBounds_toArray,List.set_cons_zero,List.set_cons_succ,i64_w,i32_w]
    rfl
   refine one_ (i:=12) (N:=some 22) #[true,true,true,true,true,true,true,true,true,true,true,true,true,false,false] rfl rfl (one_of HT_.out (by kernel_rfl)) (by decide) (fun K hK => ?_)
   refine goes_ Tryd.func89 (by kernel_rfl) rfl #[.int .u64 ji9] (by rfl) rfl rfl (by (try simp only [List.map_toArray,List.map_cons,List.map_nil]); first | done | (simp only [hji9]; rfl) | rfl | (simp only [List.length_drop,List.length_take]; rfl)) ?_
   with_reducible refine (impl_set_listed.calls ji9 t148 _ (TB.below HTB.out (bl2_ HB.out GE141.out GE142.out)) A10.out).mono ?_
   rintro e w19 ⟨v149,rfl,ho0,hb⟩
   refine ⟨_,rfl,?_⟩
   have n0_:=am_ (Kd.R_elder' (kr_ HO146.out) (Kd.R_base ho0) hb)
   have n1_:=am_ (Kd.R_lower (Kd.R_new' ho0 (Kd.R_lt (kr_ HO146.out))) (below_size (bl2_ HB.out GE141.out GE142.out)))
   have n2_:=am_ (bb_ BK141.out hb)
   have n3_:=am_ (bb_ BK142.out hb)
   have n4_:=am_ (below_step (bl2_ HB.out GE141.out GE142.out) hb)
   clear HO146
   clear BK141
   clear BK142
   clear HB
   have HO146:=n0_
   have HO150:=n1_
   have BK141:=n2_
   have BK142:=n3_
   have HB:=n4_
   clear n0_ n1_ n2_ n3_ n4_
   (try clear hb)
   (try clear hb2)
   (try clear hk)
   (try clear hi)
   (try clear ho0)
   obtain ⟨Ao20,co20,eo20⟩:=Kd.R_slice HO150.out
   (first | subst eo20 | (injection eo20 with f1_ f2_ f3_; have f4_:=f1_.symm; have f5_:=f3_.symm; clear f1_ f2_ f3_; subst f4_; subst f5_))
   obtain ⟨Ao21,co21,eo21⟩:=Kd.R_slice HO146.out
   (first | subst eo21 | (injection eo21 with f1_ f2_ f3_; have f4_:=f1_.symm; have f5_:=f3_.symm; clear f1_ f2_ f3_; subst f4_; subst f5_))
   refine hK.out _ _ ⟨(bc_ BK141.out 0).trans rfl,(bc_ BK141.out 1).trans rfl⟩ (fun hHeld => ?_)
   clear hK K
   refine norm_ (a':=?_) ?_ ?_
   rotate_left
   ·show Act.put _ (some 22) _ = _
    simp only [Act.put,List.setIfInBounds_toArray,List.set_cons_zero,List.set_cons_succ,i64_w,i32_w]
    rfl
   refine pure_ (i:=13) (N:=some 23) (v:=?_) (a':=?_) #[true,true,true,true,true,true,true,true,true,true,true,true,true,true,false] rfl rfl (any_of HT_.out (by kernel_rfl)) (fun _ _ _ h => h) (Or.inl ⟨by rfl,?_⟩) ?_ ?_
   rotate_left
   ·intro w'
    go_simp
    with_reducible rfl
   rotate_left
   ·simp only [Act.put,List.setIfInBounds_toArray,List.set_cons_zero,List.set_cons_succ,i64_w,i32_w]
    rfl
   refine one_ (i:=14) (N:=none) #[true,true,true,true,true,true,true,true,true,true,true,true,true,true,true] rfl rfl (one_of HT_.out (by kernel_rfl)) (by decide) (fun K hK => ?_)
   have hs22:w19.cell? ⟨gb142,0,none⟩ = some (.int .i64 0):=(bc_ BK142.out 0).trans rfl
   have hfs22:=bz_ BK142.out 0
   have hns22_0:=NB141_142.out
   have hms22_0:=NB142_141.out
   have hs23:w19.cell? ⟨gb142,1,none⟩ = some (.int .i64 0):=(bc_ BK142.out 1).trans rfl
   have hfs23:=bz_ BK142.out 1
   have hns23_0:=NB141_142.out
   have hms23_0:=NB142_141.out
   have hs24:w19.cell? ⟨gb142,2,none⟩ = some (.slice none 0 0):=(bc_ BK142.out 2).trans rfl
   have hfs24:=bz_ BK142.out 2
   have hns24_0:=NB141_142.out
   have hms24_0:=NB142_141.out
   have hs25:w19.cell? ⟨gb142,3,none⟩ = some (.slice none 0 0):=(bc_ BK142.out 3).trans rfl
   have hfs25:=bz_ BK142.out 3
   have hns25_0:=NB141_142.out
   have hms25_0:=NB142_141.out
   refine skip_ (w1:=?_) (by rfl) rfl ?_ ?_
   rotate_left
   ·go_simp
    rfl
   refine hK.out _ _ ⟨((cell_far (p:=⟨gb142,_,none⟩) NB141_142.out _).trans (((cell_far (p:=⟨gb142,_,none⟩) NB141_142.out _).trans (((cell_far (p:=⟨gb142,_,none⟩) NB141_142.out _).trans (((cell_far (p:=⟨gb142,_,none⟩) NB141_142.out _).trans (hHeld.1)))))))),((cell_far (p:=⟨gb142,_,none⟩) NB141_142.out _).trans (((cell_far (p:=⟨gb142,_,none⟩) NB141_142.out _).trans (((cell_far (p:=⟨gb142,_,none⟩) NB141_142.out _).trans (((cell_far (p:=⟨gb142,_,none⟩) NB141_142.out _).trans (hHeld.2))))))))⟩ (fun hHeld => ?_)
   clear hK K
   refine done_ (done_of HT_.out (by kernel_rfl)) ?_
   try go_wp2
   refine bodyPost_ret (results_cell_row rfl _ _ gb142 36 #[.int .i64 a0_0,.int .i64 a0_1,.slice Ao21 t144.length co21,.slice Ao20 t148.length co20] (0,0) _ rfl (by (with_reducible repeat (first | refine blk_drewN ?_ _ | refine blk_drew ?_ | refine blk_alloc ?_ _)); refine blk_put (cs:=#[.int .i64 a0_0,.int .i64 a0_1,.slice Ao21 t144.length co21,.slice none 0 0]) ?_ 3 _ rfl; (with_reducible repeat (first | refine blk_drewN ?_ _ | refine blk_drew ?_ | refine blk_alloc ?_ _)); refine blk_put (cs:=#[.int .i64 a0_0,.int .i64 a0_1,.slice none 0 0,.slice none 0 0]) ?_ 2 _ rfl; (with_reducible repeat (first | refine blk_drewN ?_ _ | refine blk_drew ?_ | refine blk_alloc ?_ _)); refine blk_put (cs:=#[.int .i64 a0_0,.int .i64 0,.slice none 0 0,.slice none 0 0]) ?_ 1 _ rfl; (with_reducible repeat (first | refine blk_drewN ?_ _ | refine blk_drew ?_ | refine blk_alloc ?_ _)); refine blk_put (cs:=#[.int .i64 0,.int .i64 0,.slice none 0 0,.slice none 0 0]) ?_ 0 _ rfl; (with_reducible repeat (first | refine blk_drewN ?_ _ | refine blk_drew ?_ | refine blk_alloc ?_ _)); exact BK142.out) Tryd.underlying36 rfl (by kernel_rfl)) rfl ?_
   exact ⟨_,_,by first | rfl | (simp [errW_none,errW_some] <;> rfl) | (simp only [← hji5,← hji9]; first | rfl | (simp [errW_none,errW_some] <;> rfl)) | (simp [*,errW_none,errW_some] <;> rfl),by (with_reducible repeat (first | apply Kd.R_alloc | apply Kd.R_drewN | apply Kd.R_drew)); exact Kd.R_mono (Kd.R_far (p:=⟨gb142,3,none⟩) (Kd.R_far (p:=⟨gb142,2,none⟩) (Kd.R_far (p:=⟨gb142,1,none⟩) (Kd.R_far (p:=⟨gb142,0,none⟩) (Kd.R_types HO146.out BK142.out (by decide)) (fun _ hk => hk.2) (.int .i64 a0_0)) (fun _ hk => hk.2) (.int .i64 a0_1)) (fun _ hk => hk.2) (.slice Ao21 t144.length co21)) (fun _ hk => hk.2) (.slice Ao20 t148.length co20)) (fun _ hk => hk.1.2),by (with_reducible repeat (first | apply Kd.R_alloc | apply Kd.R_drewN | apply Kd.R_drew)); exact Kd.R_mono (Kd.R_far (p:=⟨gb142,3,none⟩) (Kd.R_far (p:=⟨gb142,2,none⟩) (Kd.R_far (p:=⟨gb142,1,none⟩) (Kd.R_far (p:=⟨gb142,0,none⟩) (Kd.R_types HO150.out BK142.out (by decide)) (fun _ hk => hk.2) (.int .i64 a0_0)) (fun _ hk => hk.2) (.int .i64 a0_1)) (fun _ hk => hk.2) (.slice Ao21 t144.length co21)) (fun _ hk => hk.2) (.slice Ao20 t148.length co20)) (fun _ hk => hk.1.2),bl2_ HB.out GE141.out GE142.out⟩
  ·rw [if_neg c8] at H
   exact absurd H (by simp)
 ·rw [if_neg c4] at H
  exact absurd H (by simp)


structure FrameBut (O:Nat → Prop) (w w':World):Prop where
  os:w'.os = w.os
  tape:w'.tape = w.tape
  output:w'.output = w.output
  size:w.heap.size ≤ w'.heap.size
  block:∀ k,k < w.heap.size → ¬ O k → w'.heap[k]? = w.heap[k]?
theorem FrameBut.refl (O:Nat → Prop) (w:World):FrameBut O w w:=⟨rfl,rfl,rfl,Nat.le_refl _,fun _ _ _ => rfl⟩
theorem FrameBut.trans {O O1:Nat → Prop} {w w1 w2:World} (h:FrameBut O w w1) (k:FrameBut O1 w1 w2) (hO:∀ k,O1 k → O k ∨ w.heap.size ≤ k):FrameBut O w w2 :=
  ⟨k.os.trans h.os,k.tape.trans h.tape,k.output.trans h.output,Nat.le_trans h.size k.size,fun i hi hn => (k.block i (Nat.lt_of_lt_of_le hi h.size) (fun h1 => (hO i h1).elim hn (fun h2 => absurd hi (Nat.not_lt.2 h2)))).trans (h.block i hi hn)⟩
theorem FrameBut.mono {O O1:Nat → Prop} {w w1:World} (h:FrameBut O w w1) (hO:∀ k,k < w.heap.size → O k → O1 k):FrameBut O1 w w1 :=
  ⟨h.os,h.tape,h.output,h.size,fun i hi hn => h.block i hi (fun h1 => hn (hO i hi h1))⟩
theorem FrameBut.of_below {O:Nat → Prop} {w w1:World} (h:Below w.heap.size w w1):FrameBut O w w1:=⟨h.os,h.tape,h.output,h.size,fun i hi _ => h.block i hi⟩
theorem FrameBut.below {O:Nat → Prop} {w w1 w2:World} (h:FrameBut O w w1) (k:Below w1.heap.size w1 w2):FrameBut O w w2:=h.trans (FrameBut.of_below (O:=O) k) (fun _ h => .inl h)
theorem FrameBut.alloc {O:Nat → Prop} {w w1:World} (h:FrameBut O w w1) (o:Obj):FrameBut O w (w1.alloc o):=h.below (below_alloc (Below.refl _ _) o)
theorem FrameBut.drew {O:Nat → Prop} {w w1:World} (h:FrameBut O w w1):FrameBut O w w1.drew:=h.below (below_drew (Below.refl _ _))
theorem FrameBut.drewN {O:Nat → Prop} {w w1:World} (h:FrameBut O w w1) (n:Nat):FrameBut O w (w1.drewN n):=h.below (pw_below_drewN (Below.refl _ _) n)
theorem FrameBut.grown {O:Nat → Prop} {w w1 w2:World} {row:Option Nat} (h:FrameBut O w w1) (hg:w1.grownBy w2 row) (hr:∀ k,row = some k → O k ∨ w.heap.size ≤ k):FrameBut O w w2 :=
  h.trans (O1:=fun k => row = some k) ⟨hg.os,hg.tape,hg.output,hg.size,fun k hk hn => hg.block k hk (fun e => hn e.symm)⟩ hr
theorem FrameBut.setCell {O:Nat → Prop} {w w1:World} (h:FrameBut O w w1) {p:Addr} (hp:O p.block ∨ w.heap.size ≤ p.block) (u:Value):FrameBut O w (w1.setCell p u) :=
  h.trans (O1:=fun k => k = p.block) ⟨rfl,rfl,rfl,by simp [World.setCell],fun k _ hn => Below.heap_setCell _ _ _ _ hn⟩ (fun k e => by rw [e]; exact hp)
theorem FrameBut.turned {O:Nat → Prop} {w w1 w2:World} {b:Nat} (h:FrameBut O w w1) (ht:w1.mapTurned w2 b) (hb:O b ∨ w.heap.size ≤ b):FrameBut O w w2 :=
  h.grown ht.grown (fun k e => by cases e; exact hb)
theorem FrameBut.toBelow {O:Nat → Prop} {w w1:World} {B:Nat} (h:FrameBut O w w1) (hB:B ≤ w.heap.size) (hO:∀ k,k < B → ¬ O k):Below B w w1 :=
  ⟨h.os,h.tape,h.output,h.size,fun k hk => h.block k (Nat.lt_of_lt_of_le hk hB) (hO k hk)⟩
theorem FrameBut.cell {O:Nat → Prop} {w w1:World} (h:FrameBut O w w1) {b i:Nat} {v:Value} (hc:w.cell? ⟨b,i,none⟩ = some v) (hn:¬ O b):w1.cell? ⟨b,i,none⟩ = some v :=
  (World.cell?_of_block (w:=w) (a:=⟨b,i,none⟩) (h.block b (wl_ w _ hc) hn)).trans hc
structure CB (P:Program) (g:Nat) (lb:Array Value) {α:Type} (en:α → Value) (good:α → Prop) (max:Nat) (Inv:List α → (Nat → Prop) → World → Prop):Prop where
  call:∀ acc O W x,acc.length < max → good x → Inv acc O W → Calls P g (#[en x] ++ lb) W fun e w' => e = .returned (.tuple #[]) ∧ ∃ O',Inv (acc ++ [x]) O' w' ∧ FrameBut O W w' ∧ ∀ k,O' k → O k ∨ W.heap.size ≤ k
  move:∀ acc O W W',Inv acc O W → W.heap.size ≤ W'.heap.size → W'.os = W.os → W'.tape = W.tape → W'.output = W.output → (∀ k,O k → W'.heap[k]? = W.heap[k]?) → Inv acc O W'
  lt:∀ acc O W,Inv acc O W → ∀ k,O k → k < W.heap.size
theorem CB.frame {P:Program} {g:Nat} {lb:Array Value} {α:Type} {en:α → Value} {good:α → Prop} {max:Nat} {Inv:List α → (Nat → Prop) → World → Prop} (C:CB P g lb en good max Inv) {acc:List α} {O O1:Nat → Prop} {W W':World}
    (h:Inv acc O W) (hf:FrameBut O1 W W') (hd:∀ k,O k → ¬ O1 k):Inv acc O W':=C.move acc O W W' h hf.size hf.os hf.tape hf.output (fun k hk => hf.block k (C.lt acc O W h k hk) (hd k hk))
theorem CB.below {P:Program} {g:Nat} {lb:Array Value} {α:Type} {en:α → Value} {good:α → Prop} {max:Nat} {Inv:List α → (Nat → Prop) → World → Prop} (C:CB P g lb en good max Inv) {acc:List α} {O:Nat → Prop} {W W':World}
    (h:Inv acc O W) (hb:Below W.heap.size W W'):Inv acc O W':=C.move acc O W W' h hb.size hb.os hb.tape hb.output (fun k hk => hb.block k (C.lt acc O W h k hk))


def impl_Corner_next.f (a0_0:Int) (a0_1:Int) (a1:Int):Option (Int × Int):=if a1 = 110 then (some (a0_0,wrap64 (a0_1 - 1))) else (if a1 = 101 then (some (wrap64 (a0_0 + 1),a0_1)) else (if a1 = 115 then (some (a0_0,wrap64 (a0_1 + 1))) else (some (wrap64 (a0_0 - 1),a0_1))))
set_option maxHeartbeats 8000000 in
set_option maxRecDepth 100000 in
theorem impl_Corner_next.calls (a0_0:Int) (a0_1:Int) (a1:Int) (r1:Int) (r2:Int) (w:World) (h:impl_Corner_next.f a0_0 a0_1 a1 = some (r1,r2)) :
  Calls Tryd.prog 146 #[.agg #[.int .i64 a0_0,.int .i64 a0_1],.int .u8 a1] w fun e w' => e = .returned (.agg #[.int .i64 r1,.int .i64 r2]) ∧ Below w.heap.size w w':=by
 have hu84:=Tryd.underlying84
 have HB:=am_ (Below.refl w.heap.size w)
 have H:(if a1 = 110 then (some (a0_0,wrap64 (a0_1 - 1))) else (if a1 = 101 then (some (wrap64 (a0_0 + 1),a0_1)) else (if a1 = 115 then (some (a0_0,wrap64 (a0_1 + 1))) else (some (wrap64 (a0_0 - 1),a0_1))))) = some (r1,r2):=h
 clear h
 by_cases c3:a1 = 110
 ·rw [if_pos c3] at H
  have c3b0:(a1 == 110) = true:=beq_iff_eq.mpr c3
  have c3b1:(a1 != 110) = false:=bne_eq_false_iff_eq.mpr c3
  clear c3
  simp only [Option.some.injEq,Prod.mk.injEq] at H
  obtain ⟨rfl,rfl⟩:=H
  go_enter Tryd.func146,Tryd.ntmps146
  go_wp2_with (first | ((with_reducible refine gate_dst (N:=2) rfl ?_); refine boxE_ (N:=2) (cs:=#[.int .i64 a0_0,.int .i64 a0_1]) (t:=84) ?_; intro gb824 hg w4 hbox hb; have n0_:=am_ (below_step (bl0_ HB.out) hb); have n1_:=am_ (hbox); have n2_:=am_ ((bs0_ hg HB.out:w.heap.size ≤ gb824)); have n3_:=am_ ((bs0_ hg HB.out:w.heap.size ≤ gb824)); clear HB; have HB:=n0_; have BK824:=n1_; have GW824:=n2_; have GE824:=n3_; clear n0_ n1_ n2_ n3_; clear hb hbox hg) | ((with_reducible refine gate_dst (N:=4) rfl ?_); refine boxE_ (N:=4) (cs:=#[.int .i64 0,.int .i64 0]) (t:=84) ?_; intro gb825 hg w5 hbox hb; have n0_:=am_ (bb_ BK824.out hb); have n1_:=am_ (below_step (bl1_ HB.out GE824.out) hb); have n2_:=am_ (hbox); have n3_:=am_ ((bs1_ hg HB.out GE824.out:w.heap.size ≤ gb825)); have n4_:=am_ ((bs1_ hg HB.out GE824.out:w.heap.size ≤ gb825)); have n5_:=am_ ((nl_ hg BK824.out:gb824 ≠ gb825)); have n6_:=am_ ((ng_ hg BK824.out:gb825 ≠ gb824)); clear BK824; clear HB; have BK824:=n0_; have HB:=n1_; have BK825:=n2_; have GW825:=n3_; have GE825:=n4_; have NB824_825:=n5_; have NB825_824:=n6_; clear n0_ n1_ n2_ n3_ n4_ n5_ n6_; clear hb hbox hg; have hnb6:=NB824_825.out; have hnc6:=NB825_824.out; have hcz7_0:w5.cell? ⟨gb824,0,none⟩ = some (.int .i64 a0_0):=(bc_ BK824.out 0).trans rfl; have hcz7_1:w5.cell? ⟨gb824,1,none⟩ = some (.int .i64 a0_1):=(bc_ BK824.out 1).trans rfl; have hfz7_0:=bz_ BK824.out 0; have hfz7_1:=bz_ BK824.out 1; have hcz8_0:w5.cell? ⟨gb825,0,none⟩ = some (.int .i64 0):=(bc_ BK825.out 0).trans rfl; have hcz8_1:w5.cell? ⟨gb825,1,none⟩ = some (.int .i64 0):=(bc_ BK825.out 1).trans rfl; have hfz8_0:=bz_ BK825.out 0; have hfz8_1:=bz_ BK825.out 1))
  refine bodyPost_ret (results_cell_row rfl _ _ gb825 84 #[.int .i64 a0_0,.int .i64 (wrap64 (a0_1 - 1))] (0,0) _ rfl (by (with_reducible repeat (first | refine blk_drewN ?_ _ | refine blk_drew ?_ | refine blk_alloc ?_ _)); refine blk_put (cs:=#[.int .i64 a0_0,.int .i64 0]) ?_ 1 _ rfl; (with_reducible repeat (first | refine blk_drewN ?_ _ | refine blk_drew ?_ | refine blk_alloc ?_ _)); refine blk_put (cs:=#[.int .i64 0,.int .i64 0]) ?_ 0 _ rfl; (with_reducible repeat (first | refine blk_drewN ?_ _ | refine blk_drew ?_ | refine blk_alloc ?_ _)); exact BK825.out) Tryd.underlying84 rfl (by kernel_rfl)) rfl ?_
  exact ⟨er_,bl2_ HB.out GE824.out GE825.out⟩
 ·rw [if_neg c3] at H
  have c3b0:(a1 == 110) = false:=beq_eq_false_iff_ne.mpr c3
  have c3b1:(a1 != 110) = true:=bne_iff_ne.mpr c3
  by_cases c9:a1 = 101
  ·rw [if_pos c9] at H
   have c9b0:(a1 == 101) = true:=beq_iff_eq.mpr c9
   have c9b1:(a1 != 101) = false:=bne_eq_false_iff_eq.mpr c9
   clear c9
   simp only [Option.some.injEq,Prod.mk.injEq] at H
   obtain ⟨rfl,rfl⟩:=H
   go_enter Tryd.func146,Tryd.ntmps146
   go_wp2_with (first | ((with_reducible refine gate_dst (N:=2) rfl ?_); refine boxE_ (N:=2) (cs:=#[.int .i64 a0_0,.int .i64 a0_1]) (t:=84) ?_; intro gb824 hg w10 hbox hb; have n0_:=am_ (below_step (bl0_ HB.out) hb); have n1_:=am_ (hbox); have n2_:=am_ ((bs0_ hg HB.out:w.heap.size ≤ gb824)); have n3_:=am_ ((bs0_ hg HB.out:w.heap.size ≤ gb824)); clear HB; have HB:=n0_; have BK824:=n1_; have GW824:=n2_; have GE824:=n3_; clear n0_ n1_ n2_ n3_; clear hb hbox hg) | ((with_reducible refine gate_dst (N:=4) rfl ?_); refine boxE_ (N:=4) (cs:=#[.int .i64 0,.int .i64 0]) (t:=84) ?_; intro gb825 hg w11 hbox hb; have n0_:=am_ (bb_ BK824.out hb); have n1_:=am_ (below_step (bl1_ HB.out GE824.out) hb); have n2_:=am_ (hbox); have n3_:=am_ ((bs1_ hg HB.out GE824.out:w.heap.size ≤ gb825)); have n4_:=am_ ((bs1_ hg HB.out GE824.out:w.heap.size ≤ gb825)); have n5_:=am_ ((nl_ hg BK824.out:gb824 ≠ gb825)); have n6_:=am_ ((ng_ hg BK824.out:gb825 ≠ gb824)); clear BK824; clear HB; have BK824:=n0_; have HB:=n1_; have BK825:=n2_; have GW825:=n3_; have GE825:=n4_; have NB824_825:=n5_; have NB825_824:=n6_; clear n0_ n1_ n2_ n3_ n4_ n5_ n6_; clear hb hbox hg; have hnb12:=NB824_825.out; have hnc12:=NB825_824.out; have hcz13_0:w11.cell? ⟨gb824,0,none⟩ = some (.int .i64 a0_0):=(bc_ BK824.out 0).trans rfl; have hcz13_1:w11.cell? ⟨gb824,1,none⟩ = some (.int .i64 a0_1):=(bc_ BK824.out 1).trans rfl; have hfz13_0:=bz_ BK824.out 0; have hfz13_1:=bz_ BK824.out 1; have hcz14_0:w11.cell? ⟨gb825,0,none⟩ = some (.int .i64 0):=(bc_ BK825.out 0).trans rfl; have hcz14_1:w11.cell? ⟨gb825,1,none⟩ = some (.int .i64 0):=(bc_ BK825.out 1).trans rfl; have hfz14_0:=bz_ BK825.out 0; have hfz14_1:=bz_ BK825.out 1))
   refine bodyPost_ret (results_cell_row rfl _ _ gb825 84 #[.int .i64 (wrap64 (a0_0 + 1)),.int .i64 a0_1] (0,0) _ rfl (by (with_reducible repeat (first | refine blk_drewN ?_ _ | refine blk_drew ?_ | refine blk_alloc ?_ _)); refine blk_put (cs:=#[.int .i64 (wrap64 (a0_0 + 1)),.int .i64 0]) ?_ 1 _ rfl; (with_reducible repeat (first | refine blk_drewN ?_ _ | refine blk_drew ?_ | refine blk_alloc ?_ _)); refine blk_put (cs:=#[.int .i64 0,.int .i64 0]) ?_ 0 _ rfl; (with_reducible repeat (first | refine blk_drewN ?_ _ | refine blk_drew ?_ | refine blk_alloc ?_ _)); exact BK825.out) Tryd.underlying84 rfl (by kernel_rfl)) rfl ?_
   exact ⟨er_,bl2_ HB.out GE824.out GE825.out⟩
  ·rw [if_neg c9] at H
   have c9b0:(a1 == 101) = false:=beq_eq_false_iff_ne.mpr c9
   have c9b1:(a1 != 101) = true:=bne_iff_ne.mpr c9
   by_cases c15:a1 = 115
   ·rw [if_pos c15] at H
    have c15b0:(a1 == 115) = true:=beq_iff_eq.mpr c15
    have c15b1:(a1 != 115) = false:=bne_eq_false_iff_eq.mpr c15
    clear c15
    simp only [Option.some.injEq,Prod.mk.injEq] at H
    obtain ⟨rfl,rfl⟩:=H
    go_enter Tryd.func146,Tryd.ntmps146
    go_wp2_with (first | ((with_reducible refine gate_dst (N:=2) rfl ?_); refine boxE_ (N:=2) (cs:=#[.int .i64 a0_0,.int .i64 a0_1]) (t:=84) ?_; intro gb824 hg w16 hbox hb; have n0_:=am_ (below_step (bl0_ HB.out) hb); have n1_:=am_ (hbox); have n2_:=am_ ((bs0_ hg HB.out:w.heap.size ≤ gb824)); have n3_:=am_ ((bs0_ hg HB.out:w.heap.size ≤ gb824)); clear HB; have HB:=n0_; have BK824:=n1_; have GW824:=n2_; have GE824:=n3_; clear n0_ n1_ n2_ n3_; clear hb hbox hg) | ((with_reducible refine gate_dst (N:=4) rfl ?_); refine boxE_ (N:=4) (cs:=#[.int .i64 0,.int .i64 0]) (t:=84) ?_; intro gb825 hg w17 hbox hb; have n0_:=am_ (bb_ BK824.out hb); have n1_:=am_ (below_step (bl1_ HB.out GE824.out) hb); have n2_:=am_ (hbox); have n3_:=am_ ((bs1_ hg HB.out GE824.out:w.heap.size ≤ gb825)); have n4_:=am_ ((bs1_ hg HB.out GE824.out:w.heap.size ≤ gb825)); have n5_:=am_ ((nl_ hg BK824.out:gb824 ≠ gb825)); have n6_:=am_ ((ng_ hg BK824.out:gb825 ≠ gb824)); clear BK824; clear HB; have BK824:=n0_; have HB:=n1_; have BK825:=n2_; have GW825:=n3_; have GE825:=n4_; have NB824_825:=n5_; have NB825_824:=n6_; clear n0_ n1_ n2_ n3_ n4_ n5_ n6_; clear hb hbox hg; have hnb18:=NB824_825.out; have hnc18:=NB825_824.out; have hcz19_0:w17.cell? ⟨gb824,0,none⟩ = some (.int .i64 a0_0):=(bc_ BK824.out 0).trans rfl; have hcz19_1:w17.cell? ⟨gb824,1,none⟩ = some (.int .i64 a0_1):=(bc_ BK824.out 1).trans rfl; have hfz19_0:=bz_ BK824.out 0; have hfz19_1:=bz_ BK824.out 1; have hcz20_0:w17.cell? ⟨gb825,0,none⟩ = some (.int .i64 0):=(bc_ BK825.out 0).trans rfl; have hcz20_1:w17.cell? ⟨gb825,1,none⟩ = some (.int .i64 0):=(bc_ BK825.out 1).trans rfl; have hfz20_0:=bz_ BK825.out 0; have hfz20_1:=bz_ BK825.out 1))
    refine bodyPost_ret (results_cell_row rfl _ _ gb825 84 #[.int .i64 a0_0,.int .i64 (wrap64 (a0_1 + 1))] (0,0) _ rfl (by (with_reducible repeat (first | refine blk_drewN ?_ _ | refine blk_drew ?_ | refine blk_alloc ?_ _)); refine blk_put (cs:=#[.int .i64 a0_0,.int .i64 0]) ?_ 1 _ rfl; (with_reducible repeat (first | refine blk_drewN ?_ _ | refine blk_drew ?_ | refine blk_alloc ?_ _)); refine blk_put (cs:=#[.int .i64 0,.int .i64 0]) ?_ 0 _ rfl; (with_reducible repeat (first | refine blk_drewN ?_ _ | refine blk_drew ?_ | refine blk_alloc ?_ _)); exact BK825.out) Tryd.underlying84 rfl (by kernel_rfl)) rfl ?_
    exact ⟨er_,bl2_ HB.out GE824.out GE825.out⟩
   ·rw [if_neg c15] at H
    have c15b0:(a1 == 115) = false:=beq_eq_false_iff_ne.mpr c15
    have c15b1:(a1 != 115) = true:=bne_iff_ne.mpr c15
    simp only [Option.some.injEq,Prod.mk.injEq] at H
    obtain ⟨rfl,rfl⟩:=H
    go_enter Tryd.func146,Tryd.ntmps146
    go_wp2_with (first | ((with_reducible refine gate_dst (N:=2) rfl ?_); refine boxE_ (N:=2) (cs:=#[.int .i64 a0_0,.int .i64 a0_1]) (t:=84) ?_; intro gb824 hg w21 hbox hb; have n0_:=am_ (below_step (bl0_ HB.out) hb); have n1_:=am_ (hbox); have n2_:=am_ ((bs0_ hg HB.out:w.heap.size ≤ gb824)); have n3_:=am_ ((bs0_ hg HB.out:w.heap.size ≤ gb824)); clear HB; have HB:=n0_; have BK824:=n1_; have GW824:=n2_; have GE824:=n3_; clear n0_ n1_ n2_ n3_; clear hb hbox hg) | ((with_reducible refine gate_dst (N:=4) rfl ?_); refine boxE_ (N:=4) (cs:=#[.int .i64 0,.int .i64 0]) (t:=84) ?_; intro gb825 hg w22 hbox hb; have n0_:=am_ (bb_ BK824.out hb); have n1_:=am_ (below_step (bl1_ HB.out GE824.out) hb); have n2_:=am_ (hbox); have n3_:=am_ ((bs1_ hg HB.out GE824.out:w.heap.size ≤ gb825)); have n4_:=am_ ((bs1_ hg HB.out GE824.out:w.heap.size ≤ gb825)); have n5_:=am_ ((nl_ hg BK824.out:gb824 ≠ gb825)); have n6_:=am_ ((ng_ hg BK824.out:gb825 ≠ gb824)); clear BK824; clear HB; have BK824:=n0_; have HB:=n1_; have BK825:=n2_; have GW825:=n3_; have GE825:=n4_; have NB824_825:=n5_; have NB825_824:=n6_; clear n0_ n1_ n2_ n3_ n4_ n5_ n6_; clear hb hbox hg; have hnb23:=NB824_825.out; have hnc23:=NB825_824.out; have hcz24_0:w22.cell? ⟨gb824,0,none⟩ = some (.int .i64 a0_0):=(bc_ BK824.out 0).trans rfl; have hcz24_1:w22.cell? ⟨gb824,1,none⟩ = some (.int .i64 a0_1):=(bc_ BK824.out 1).trans rfl; have hfz24_0:=bz_ BK824.out 0; have hfz24_1:=bz_ BK824.out 1; have hcz25_0:w22.cell? ⟨gb825,0,none⟩ = some (.int .i64 0):=(bc_ BK825.out 0).trans rfl; have hcz25_1:w22.cell? ⟨gb825,1,none⟩ = some (.int .i64 0):=(bc_ BK825.out 1).trans rfl; have hfz25_0:=bz_ BK825.out 0; have hfz25_1:=bz_ BK825.out 1))
    refine bodyPost_ret (results_cell_row rfl _ _ gb825 84 #[.int .i64 (wrap64 (a0_0 - 1)),.int .i64 a0_1] (0,0) _ rfl (by (with_reducible repeat (first | refine blk_drewN ?_ _ | refine blk_drew ?_ | refine blk_alloc ?_ _)); refine blk_put (cs:=#[.int .i64 (wrap64 (a0_0 - 1)),.int .i64 0]) ?_ 1 _ rfl; (with_reducible repeat (first | refine blk_drewN ?_ _ | refine blk_drew ?_ | refine blk_alloc ?_ _)); refine blk_put (cs:=#[.int .i64 0,.int .i64 0]) ?_ 0 _ rfl; (with_reducible repeat (first | refine blk_drewN ?_ _ | refine blk_drew ?_ | refine blk_alloc ?_ _)); exact BK825.out) Tryd.underlying84 rfl (by kernel_rfl)) rfl ?_
    exact ⟨er_,bl2_ HB.out GE824.out GE825.out⟩


theorem blk_keep {W w1:World} {g:Nat} {o:Obj} (h:W.heap[g]? = some o) (hb:Below W.heap.size W w1):w1.heap[g]? = some o :=
  (hb.block g (Array.getElem?_eq_some_iff.1 h).1).trans h

def nextC (c:S84) (b:Int):S84:=match impl_Corner_next.f c.f0 c.f1 b with
 | some (x,y) => ⟨x,y⟩
 | none => ⟨0,0⟩
def walkFrom (c:S84):List UInt8 → List S84
 | [] => []
 | b :: t => nextC c (b.toNat:Int) :: walkFrom (nextC c (b.toNat:Int)) t
def cornersL (l:List UInt8):List S84:=⟨0,0⟩ :: walkFrom ⟨0,0⟩ l
theorem walkFrom_len:∀ (l:List UInt8) (c:S84),(walkFrom c l).length = l.length
 | [],_ => rfl
 | b :: t,c => by unfold walkFrom; rw [List.length_cons,walkFrom_len t,List.length_cons]
theorem cornersL_len (l:List UInt8):(cornersL l).length = l.length + 1:=by unfold cornersL; rw [List.length_cons,walkFrom_len]
theorem walkFrom_snoc:∀ (l:List UInt8) (c:S84) (b:UInt8),walkFrom c (l ++ [b]) = walkFrom c l ++ [nextC ((c :: walkFrom c l).getD l.length ⟨0,0⟩) (b.toNat:Int)]
 | [],c,b => by simp [walkFrom]
 | a :: t,c,b => by
  have ih:=walkFrom_snoc t (nextC c (a.toNat:Int)) b
  rw [List.cons_append]
  simp only [walkFrom,List.cons_append,List.length_cons,List.getD_cons_succ]
  rw [ih]
theorem cornersL_snoc (l:List UInt8) (b:UInt8):cornersL (l ++ [b]) = cornersL l ++ [nextC ((cornersL l).getD l.length ⟨0,0⟩) (b.toNat:Int)]:=by
 unfold cornersL
 rw [walkFrom_snoc,List.cons_append]
theorem next_some (c:S84) (b:Int):impl_Corner_next.f c.f0 c.f1 b = some ((nextC c b).f0,(nextC c b).f1):=by
 have h:∃ r,impl_Corner_next.f c.f0 c.f1 b = some r:=by
  unfold impl_Corner_next.f
  repeat' split
  all_goals exact ⟨_,rfl⟩
 obtain ⟨⟨x,y⟩,h⟩:=h
 unfold nextC
 rw [h]
def inP (S:List (Int × Int)) (c:Int × Int):Option Value:=if c ∈ S then some (.bool true) else none
theorem next_bound (c:S84) (b:Int) (B:Int) (h0:-B ≤ c.f0 ∧ c.f0 ≤ B) (h1:-B ≤ c.f1 ∧ c.f1 ≤ B) (hB:B ≤ 100000):(-(B + 1) ≤ (nextC c b).f0 ∧ (nextC c b).f0 ≤ B + 1) ∧ (-(B + 1) ≤ (nextC c b).f1 ∧ (nextC c b).f1 ≤ B + 1):=by
 have h:=next_some c b
 generalize nextC c b = d at h
 unfold impl_Corner_next.f at h
 have e1:wrap64 (c.f1 - 1) = c.f1 - 1:=by unfold wrap64; omega
 have e2:wrap64 (c.f0 + 1) = c.f0 + 1:=by unfold wrap64; omega
 have e3:wrap64 (c.f1 + 1) = c.f1 + 1:=by unfold wrap64; omega
 have e4:wrap64 (c.f0 - 1) = c.f0 - 1:=by unfold wrap64; omega
 rw [e1,e2,e3,e4] at h
 clear e1 e2 e3 e4
 repeat' split at h
 all_goals (simp only [Option.some.injEq,Prod.mk.injEq] at h; omega)
theorem walkFrom_bound:∀ (l:List UInt8) (c:S84) (B:Int),(-B ≤ c.f0 ∧ c.f0 ≤ B) → (-B ≤ c.f1 ∧ c.f1 ≤ B) → B + l.length ≤ 100000 → ∀ d ∈ walkFrom c l,(-(B + l.length) ≤ d.f0 ∧ d.f0 ≤ B + l.length) ∧ (-(B + l.length) ≤ d.f1 ∧ d.f1 ≤ B + l.length)
 | [],c,B,_,_,_,d,hd => by cases hd
 | b :: t,c,B,h0,h1,hB,d,hd => by
  simp only [walkFrom,List.mem_cons,List.length_cons] at hd hB ⊢
  obtain ⟨q0,q1⟩:=next_bound c (b.toNat:Int) B h0 h1 (by omega)
  rcases hd with rfl | hd
  ·omega
  ·have:=walkFrom_bound t (nextC c (b.toNat:Int)) (B + 1) q0 q1 (by omega) d hd
   omega
theorem cornersL_bound (l:List UInt8) (hl:l.length ≤ 1000):∀ d ∈ cornersL l,(-1000 ≤ d.f0 ∧ d.f0 ≤ 1000) ∧ (-1000 ≤ d.f1 ∧ d.f1 ≤ 1000):=fun d hd => by
 unfold cornersL at hd
 rcases List.mem_cons.1 hd with rfl | hd
 ·simp
 ·have:=walkFrom_bound l ⟨0,0⟩ 0 (by simp) (by simp) (by omega) d hd
  omega
theorem rd_ofNat (l:List Int) (k:Nat) (h:k < l.length):rd l (k:Int) = l[k]:=by
 unfold rd; rw [Int.toNat_natCast,List.getD_eq_getElem?_getD,List.getElem?_eq_getElem h]; rfl
theorem R_oneC (w:World) (c:S84):Kd.R k84 84 (w.alloc (.cells #[.int .i64 c.f0,.int .i64 c.f1] 84)) w.heap.size (fun k => k ≠ w.heap.size + 1) (.slice (some ⟨w.heap.size,0,none⟩) 1 1) [c]:=by
 refine ⟨fun k hk => ?_,[.int .i64 c.f0,.int .i64 c.f1],?_,?_⟩
 ·simp [Value.ownBlock] at hk
  omega
 ·have h:=World.ownsRow_lit (base:=w.heap.size) (e:=84) (size:=2) w #[.int .i64 c.f0,.int .i64 c.f1] 1 (Nat.le_refl _) (by simp [maxLen]) (by simp)
  have h2:(w.alloc (.cells #[.int .i64 c.f0,.int .i64 c.f1] 84)).ownsRow w.heap.size 84 2 (.slice (some ⟨w.heap.size,0,none⟩) 1 1) 1 [.int .i64 c.f0,.int .i64 c.f1]:=by simpa using h
  exact h2
 ·refine ⟨rfl,fun j p hj => ?_⟩
  obtain ⟨hjl,hp⟩:=List.getElem?_eq_some_iff.1 hj
  have hj0:j = 0:=by simp at hjl; omega
  subst hj0
  have hpc:p = c:=by simpa using hp.symm
  subst hpc
  exact k84_mkM _ _ _ p
theorem mkBytes {W:World} {g:Nat} {s:ByteArray} {cc:Nat} {fr:Nat × Nat} (h4:W.heap[g]? = some (.cells (bytesRow s cc) 5 fr)) (hs2:s.size ≤ 1000):Kd.C (Kd.int .u8) W (some ⟨g,0,none⟩) s.size (s.data.toList.map fun b => (b.toNat:Int)):=by
 refine Kd.C_of_reads (d:=(0:Int)) (h1:=fun _ => rfl) ⟨by rw [List.length_map]; rfl,by omega,fun _ => ⟨_,rfl,fun j hj => ?_⟩⟩
 have hj2:j < s.data.size:=by simpa using hj
 have hat:=bytesRow_at s cc j hj2
 rw [add_plain]
 simp only [World.cell?,h4]
 simp [hat,hj2,List.getD_eq_getElem?_getD,Array.getElem?_eq_getElem hj2]
set_option maxRecDepth 100000 in
set_option maxHeartbeats 8000000 in
theorem walk_any (s:ByteArray) (hs:s.size ≤ 1000) (w:World) :
  Calls Tryd.prog 118 #[.string s] w fun e w' => ∃ v,e = .returned v ∧ Kd.R k84 84 w' w.heap.size (fun _ => True) v (cornersL s.data.toList) ∧ Below w.heap.size w w':=by
 have hconv:=fun W:World => run_bytes_of_string (P:=Tryd.prog) W 9 127 5 s Tryd.underlying9 Tryd.underlying127 Tryd.underlying5
 have hn:s.size ≤ 1000:=hs
 clear hs
 go_enter Tryd.func118,Tryd.ntmps118
 go_wp2_with fail
 have R0:=am_ (R_oneC w (⟨0,0⟩:S84))
 generalize grownCap (w.alloc (.cells #[.int .i64 0,.int .i64 0] 84)) s.size 0 5 = cc
 have BY0:Aside0 ((((w.alloc (.cells #[.int .i64 0,.int .i64 0] 84)).alloc (.cells (bytesRow s cc) 5 ((bytesRow s cc).size,(bytesRow s cc).size + 1))).drew).heap[w.heap.size + 1]? = some (.cells (bytesRow s cc) 5 ((bytesRow s cc).size,(bytesRow s cc).size + 1))):=⟨by
  have h:=heap_alloc_new (w.alloc (.cells #[.int .i64 0,.int .i64 0] 84)) (.cells (bytesRow s cc) 5 ((bytesRow s cc).size,(bytesRow s cc).size + 1))
  have e:(w.alloc (.cells #[.int .i64 0,.int .i64 0] 84)).heap.size = w.heap.size + 1:=by simp
  rw [e] at h
  exact h⟩
 generalize hW:((w.alloc (.cells #[.int .i64 0,.int .i64 0] 84)).alloc (.cells (bytesRow s cc) 5 ((bytesRow s cc).size,(bytesRow s cc).size + 1))).drew = W1 at BY0 ⊢
 have BW0:Aside0 (Below w.heap.size w W1):=⟨by rw [← hW]; exact below_drew (below_alloc (below_alloc (Below.refl _ _) _) _)⟩
 have RW0:Aside0 (Kd.R k84 84 W1 w.heap.size (fun k => k ≠ w.heap.size + 1) (.slice (some ⟨w.heap.size,0,none⟩) 1 1) (cornersL (s.data.toList.take 0))):=⟨by rw [← hW]; exact Kd.R_drew (Kd.R_alloc R0.out _)⟩
 clear hW R0 hconv
 go_loopg [3,5,11] s.size (fun gg u3 _ u11 wr => ∃ i:Nat,i ≤ s.size ∧ s.size - i ≤ gg ∧ u11 = .int .i64 i ∧ Aside0 (Kd.R k84 84 wr w.heap.size (fun k => k ≠ w.heap.size + 1) u3 (cornersL (s.data.toList.take i))) ∧ Aside0 (Below w.heap.size w wr) ∧ Aside0 (wr.heap[w.heap.size + 1]? = some (.cells (bytesRow s cc) 5 ((bytesRow s cc).size,(bytesRow s cc).size + 1))))
 case atStart => exact ⟨0,Nat.zero_le _,by omega,rfl,RW0,BW0,BY0⟩
 case round =>
  clear RW0 BW0 BY0
  obtain ⟨i,hi,hgg,rfl,HO,HB,HY⟩:=hrel
  have hsz:s.data.toList.length = s.size:=by simp
  obtain ⟨A,c,rfl⟩:=Kd.R_slice HO.out
  have hlen:(cornersL (s.data.toList.take i)).length = i + 1:=by rw [cornersL_len,List.length_take,hsz]; omega
  by_cases hlt:i < s.size
  ·have hltz:(i:Int) < (s.size:Int):=by omega
   have hil:i < s.data.toList.length:=by omega
   obtain ⟨ad,eA,hx⟩:=Kd.at_int (mkBytes HY.out hn) (i:Int) (by omega) (by omega)
   cases eA
   have HO2:Aside0 (Kd.R k84 84 wr w.heap.size (fun k => k ≠ w.heap.size + 1) (.slice A (i + 1) c) (cornersL (s.data.toList.take i))):=⟨by have h:=HO.out; rw [hlen] at h; exact h⟩
   obtain ⟨ad2,eA2,hy1,hy2⟩:=at_T84 (Kd.R_reads' HO2.out).2.2 (i:Int) (by omega) (by rw [hlen]; omega)
   subst eA2
   rw [hlen]
   have hrd:rd (s.data.toList.map fun b => (b.toNat:Int)) (i:Int) = (((s.data.toList[i]'hil).toNat:Nat):Int):=by
    rw [rd_ofNat _ _ (by rw [List.length_map]; exact hil),List.getElem_map]
   have htake:s.data.toList.take (i + 1) = s.data.toList.take i ++ [s.data.toList[i]'hil]:=List.take_succ_eq_append_getElem hil
   have hcs:=cornersL_snoc (s.data.toList.take i) (s.data.toList[i]'hil)
   rw [← htake,List.length_take,hsz,Nat.min_eq_left hi] at hcs
   have hrc:rd_T84 (cornersL (s.data.toList.take i)) (i:Int) = (cornersL (s.data.toList.take i)).getD i ⟨0,0⟩:=by unfold rd_T84; rw [Int.toNat_natCast]; rfl
   rw [hrd] at hx
   rw [hrc,Int.toNat_natCast] at hy1 hy2
   rw [Int.toNat_natCast,add_plain] at hx
   have HCS:=am_ hcs
   clear hcs hrd hrc htake HO hlen
   generalize (s.data.toList[i]'hil).toNat = b at hx HCS
   generalize hce:(cornersL (s.data.toList.take i)).getD i ⟨0,0⟩ = ce at hy1 hy2 HCS
   clear hce
   have HN:=am_ (next_some ce (b:Int))
   generalize nextC ce (b:Int) = nx at HN HCS
   generalize cornersL (s.data.toList.take i) = xs at HO2 HCS
   have e1:IntKind.i64.wrap (((i + 1:Nat):Int) - 1) = (i:Int):=by rw [IntKind.wrap_i64]; omega
   have HL:Aside0 (xs.length = i + 1):=⟨(Kd.R_reads' HO2.out).1.symm⟩
   go_wp2_with (first
    | (go_at_call 146; refine (impl_Corner_next.calls ce.f0 ce.f1 (b:Int) nx.f0 nx.f1 _ HN.out).mono ?_; rintro e wn ⟨rfl,hb⟩; have HO3:=am_ (Kd.R_below HO2.out hb); have HB3:=am_ (below_step HB.out hb); have HY3:=am_ (blk_keep HY.out hb); clear hb)
    | (at_builtin; refine Kd.R_append k84 (w0:=w) w.heap.size rfl (.tmp 15) (.tmp 24) 80 84 (.agg #[(.int .i64 0),(.int .i64 0)]) 16 rfl Tryd.underlying80 info84 rfl (by decide) (by omega) (.slice (some ad2) (i + 1) c) xs nx [.int .i64 nx.f0,.int .i64 nx.f1] (fun k => k ≠ w.heap.size + 1) (fun _ => False) rfl rfl ?aP (fun _ hk => hk.elim) ?aF ?aO ?aB ?aS ?aL ?_; (case aP => exact k84_mkM _ _ _ nx); (case aF => exact fun k hk => by have h_:=(Array.getElem?_eq_some_iff.1 HY3.out).1; omega); (case aO => exact HO3.out); (case aB => exact HB3.out); (case aS => exact HB3.out.size); (case aL => have h_:=HL.out; rw [h_]; omega); intro v1 w1 ho hb hg hat; have HO4:=am_ ho; have HB4:=am_ hb; have HY4:=am_ (blk_grown HY3.out hg (Kd.R_away HO3.out (fun _ hk => hk))); clear ho hb hg hat))
   rw [← HCS.out] at HO4
   go_roundg (s.size - (i + 1))
   case measure => omega
   case rel => exact ⟨i + 1,by omega,by omega,by go_num,HO4,HB4,HY4⟩
  ·have hltz:¬ (i:Int) < (s.size:Int):=by omega
   have hie:i = s.size:=by omega
   subst hie
   have hall:s.data.toList.take s.size = s.data.toList:=by rw [← hsz,List.take_length]
   rw [hall] at HO ⊢
   go_wp2_with fail
   go_ret
   exact ⟨_,rfl,Kd.R_mono HO.out (fun _ _ => trivial),HB.out⟩
def impl_walk.f (a0:ByteArray):Option (List S84):=if a0.size ≤ 1000 then some (cornersL a0.data.toList) else none
theorem impl_walk.calls (a0:ByteArray) (r:List S84) (w:World) (h:impl_walk.f a0 = some r) :
  Calls Tryd.prog 118 #[.string a0] w fun e w' => ∃ v0_:Value,e = .returned v0_ ∧ Kd.R k84 84 w' w.heap.size (fun _ => True) v0_ r ∧ Below w.heap.size w w':=by
 unfold impl_walk.f at h
 split at h
 ·rename_i h0
  obtain rfl:=Option.some.inj h
  exact walk_any a0 h0 w
 ·cases h


def pairC (c:S84):Int × Int:=(c.f0,c.f1)
def stepBW (b:UInt8):Bool:=b == 110 || b == 101 || b == 115 || b == 119
def dirN (b:Int):Int:=if b = 110 then 0 else if b = 101 then 1 else if b = 115 then 2 else if b = 119 then 3 else -1
theorem loDir_f (b:Int) (k:Nat) (hk:10 < k):spec_loDir.f k b = some (dirN b):=by
  obtain ⟨k,rfl⟩:∃ q,k = q + 5:=⟨k - 5,by omega⟩
  have w0:wrap64 (0 + 1) = 1:=by unfold wrap64; omega
  have w1:wrap64 (1 + 1) = 2:=by unfold wrap64; omega
  have w2:wrap64 (2 + 1) = 3:=by unfold wrap64; omega
  have w3:wrap64 (3 + 1) = 4:=by unfold wrap64; omega
  have hs:((⟨#[110,101,115,119]⟩:ByteArray).size:Int) = 4:=rfl
  have b0:bt (⟨#[110,101,115,119]⟩:ByteArray) 0 = 110:=by decide
  have b1:bt (⟨#[110,101,115,119]⟩:ByteArray) 1 = 101:=by decide
  have b2:bt (⟨#[110,101,115,119]⟩:ByteArray) 2 = 115:=by decide
  have b3:bt (⟨#[110,101,115,119]⟩:ByteArray) 3 = 119:=by decide
  unfold spec_loDir.f dirN
  simp only [spec_loDir.l0,spec_liDirs.f,Option.bind_some,w0,w1,w2,w3,hs,b0,b1,b2,b3]
  by_cases h0:b = 110
  · subst h0; simp
  · by_cases h1:b = 101
    · subst h1; simp
    · by_cases h2:b = 115
      · subst h2; simp
      · by_cases h3:b = 119
        · subst h3; simp
        · simp [h0,h1,h2,h3,Ne.symm h0,Ne.symm h1,Ne.symm h2,Ne.symm h3]
theorem byte_eq (b c:UInt8):((b.toNat:Int) = (c.toNat:Int)) ↔ b = c:=⟨fun h => UInt8.toNat_inj.1 (by exact_mod_cast h),fun h => by rw [h]⟩
theorem dir_step (b:UInt8):stepBW b = true ↔ ¬ dirN (b.toNat:Int) < 0:=by
  have h0:((b.toNat:Int) = 110) ↔ b = 110:=byte_eq b 110
  have h1:((b.toNat:Int) = 101) ↔ b = 101:=byte_eq b 101
  have h2:((b.toNat:Int) = 115) ↔ b = 115:=byte_eq b 115
  have h3:((b.toNat:Int) = 119) ↔ b = 119:=byte_eq b 119
  unfold stepBW dirN
  simp only [h0,h1,h2,h3,Bool.or_eq_true,beq_iff_eq]
  by_cases q0:b = 110
  · simp [q0]
  · by_cases q1:b = 101
    · simp [q1]
    · by_cases q2:b = 115
      · simp [q2]
      · by_cases q3:b = 119
        · simp [q3]
        · simp [q0,q1,q2,q3]
theorem loStepW_f (x y:Int) (b:UInt8) (hb:stepBW b = true) (hx:-1000 ≤ x ∧ x ≤ 1000) (hy:-1000 ≤ y ∧ y ≤ 1000):spec_loStep.f x y (dirN (b.toNat:Int)) = some ((nextC ⟨x,y⟩ (b.toNat:Int)).f0,(nextC ⟨x,y⟩ (b.toNat:Int)).f1):=by
  have r0:rd ([0,1,0,-1]:List Int) 0 = 0:=rfl
  have r1:rd ([0,1,0,-1]:List Int) 1 = 1:=rfl
  have r2:rd ([0,1,0,-1]:List Int) 2 = 0:=rfl
  have r3:rd ([0,1,0,-1]:List Int) 3 = -1:=rfl
  have q0:rd ([-1,0,1,0]:List Int) 0 = -1:=rfl
  have q1:rd ([-1,0,1,0]:List Int) 1 = 0:=rfl
  have q2:rd ([-1,0,1,0]:List Int) 2 = 1:=rfl
  have q3:rd ([-1,0,1,0]:List Int) 3 = 0:=rfl
  have e0:wrap64 x = x:=by unfold wrap64; omega
  have e1:wrap64 (x + 1) = x + 1:=by unfold wrap64; omega
  have e2:wrap64 (x + -1) = x - 1:=by unfold wrap64; omega
  have e3:wrap64 (x - 1) = x - 1:=by unfold wrap64; omega
  have f0:wrap64 y = y:=by unfold wrap64; omega
  have f1:wrap64 (y + 1) = y + 1:=by unfold wrap64; omega
  have f2:wrap64 (y + -1) = y - 1:=by unfold wrap64; omega
  have f3:wrap64 (y - 1) = y - 1:=by unfold wrap64; omega
  unfold nextC impl_Corner_next.f spec_loStep.f
  unfold stepBW at hb
  simp only [Bool.or_eq_true,beq_iff_eq] at hb
  rcases hb with ((rfl | rfl) | rfl) | rfl
  · have hd:dirN ((110:UInt8).toNat:Int) = 0:=by decide
    rw [hd]
    simp [r0,q0,e0,f2,f3]
  · have hd:dirN ((101:UInt8).toNat:Int) = 1:=by decide
    rw [hd]
    simp [r1,q1,e1,f0]
  · have hd:dirN ((115:UInt8).toNat:Int) = 2:=by decide
    rw [hd]
    simp [r2,q2,e0,f1]
  · have hd:dirN ((119:UInt8).toNat:Int) = 3:=by decide
    rw [hd]
    simp [r3,q3,e2,e3,f0]
theorem liHas_l0 (l:List S84) (x y:Int) (hl:l.length ≤ 1000):∀ (d k i:Nat),l.length - i = d → i ≤ l.length → d < k → spec_liHas.l0 k l (l.length:Int) (i:Int) x y = some (decide ((x,y) ∈ (l.drop i).map pairC)):=by
  intro d
  induction d with
  | zero =>
    intro k i h1 h2 h3
    obtain ⟨k,rfl⟩:∃ q,k = q + 1:=⟨k - 1,by omega⟩
    simp only [spec_liHas.l0]
    rw [if_neg (by omega),List.drop_of_length_le (by omega)]
    rfl
  | succ d ih =>
    intro k i h1 h2 h3
    obtain ⟨k,rfl⟩:∃ q,k = q + 1:=⟨k - 1,by omega⟩
    have hi:i < l.length:=by omega
    have e1:wrap64 ((i:Int) + 1) = ((i + 1:Nat):Int):=by unfold wrap64; omega
    have hrd:rd_T84 l (i:Int) = l[i]:=by unfold rd_T84; rw [Int.toNat_natCast,List.getD_eq_getElem?_getD,List.getElem?_eq_getElem hi]; rfl
    simp only [spec_liHas.l0]
    rw [if_pos (by omega),if_pos (by omega),if_pos (by omega),hrd,e1,ih k (i + 1) (by omega) (by omega) (by omega),List.drop_eq_getElem_cons hi,List.map_cons]
    by_cases hq:(l[i].f0 == x && (l[i].f1 == y)) = true
    · rw [if_pos hq]
      rw [Bool.and_eq_true,beq_iff_eq,beq_iff_eq] at hq
      have:(x,y) = pairC l[i]:=by unfold pairC; rw [hq.1,hq.2]
      rw [this]
      simp
    · rw [if_neg hq]
      have:¬ (x,y) = pairC l[i]:=fun h => hq (by
        unfold pairC at h
        rw [Prod.mk.injEq] at h
        rw [← h.1,← h.2]; simp)
      congr 1
      rw [decide_eq_decide,List.mem_cons]
      exact ⟨fun h => .inr h,fun h => h.resolve_left this⟩
theorem liHas_f (l:List S84) (x y:Int) (hl:l.length ≤ 1000) (k:Nat) (hk:l.length < k):spec_liHas.f k l x y = some (decide ((x,y) ∈ l.map pairC)):=by
  unfold spec_liHas.f
  have:=liHas_l0 l x y hl l.length k 0 (by omega) (by omega) hk
  rw [List.drop_zero] at this
  exact this
theorem walk_at:∀ (l:List UInt8) (c:S84) (i:Nat) (hi:i < l.length),(c :: walkFrom c l).getD (i + 1) ⟨0,0⟩ = nextC ((c :: walkFrom c l).getD i ⟨0,0⟩) ((l[i].toNat:Nat):Int)
  | [],_,_,hi => absurd hi (by simp)
  | b :: t,c,0,_ => rfl
  | b :: t,c,i + 1,hi => by
    have ih:=walk_at t (nextC c (b.toNat:Int)) i (by simp at hi; omega)
    simp only [walkFrom,List.getD_cons_succ,List.getElem_cons_succ] at ih ⊢
    exact ih
theorem take_getD (l:List S84) (k i:Nat) (h:i < k):(l.take k).getD i ⟨0,0⟩ = l.getD i ⟨0,0⟩:=by
  rw [List.getD_eq_getElem?_getD,List.getD_eq_getElem?_getD,List.getElem?_take,if_pos h]
structure LoopW (s:ByteArray):Prop where
  n4:4 ≤ s.size
  n40:s.size ≤ 40
  st:∀ b ∈ s.data.toList,stepBW b = true
  cl:(cornersL s.data.toList).getD s.size ⟨0,0⟩ = ⟨0,0⟩
  inj:∀ i j,i < j → j < s.size → pairC ((cornersL s.data.toList).getD i ⟨0,0⟩) ≠ pairC ((cornersL s.data.toList).getD j ⟨0,0⟩)

end Go.Proofs.YtehjfaddhmdicaaDoor.P
namespace Go.Proofs.YtehjfaddhmdicaaDoor.P
open Go.RowKit Go.Proofs.YtehjfaddhmdicaaDoorW.PrintWords Go.Proofs.YtehjfaddhmdicaaDoorW.PrintLast Go.Proofs.YtehjfaddhmdicaaDoorW.PrintMore
attribute [local go_sem] max2_int min2_int max_two min_two max_three min_three max_four min_four   -- for this text's walks alone
set_option linter.unusedVariables false
set_option linter.unusedSimpArgs false

section
open Go.Maps
def heldR (v:Value):Option (DataW Value × List MemPlace):=some (.held v,[])
def MapIs {κ:Type} (w:World) (P:Program) (k b m:Nat) (en:κ → Value) (f:κ → Option Value):Prop :=
  ∃ D:DataW Value,w.ownsMap P k heldR b m D ∧ Maps.size D = m ∧ ∀ c kl,keyOf P k (en c) = some kl → Maps.has D kl = (f c).isSome ∧ ∀ z,D.atKey kl (.held z) = .held ((f c).getD z)
section
variable {κ:Type} {w w1:World} {P:Program} {k b m:Nat} {en:κ → Value} {f:κ → Option Value}
theorem MapIs.made (w:World) (P:Program) (k:Nat) (en:κ → Value):MapIs (w.alloc (.map #[] 0)) P k w.heap.size 0 en (fun _ => none) :=
  ⟨.map [],World.ownsMap_made w P k heldR,rfl,fun c kl _ => ⟨rfl,fun z => rfl⟩⟩
theorem MapIs.lt (h:MapIs w P k b m en f):b < w.heap.size:=by
  obtain ⟨D,h,_⟩:=h
  exact h.lt
theorem MapIs.move (h:MapIs w P k b m en f) (hm:w1.heap[b]? = w.heap[b]?):MapIs w1 P k b m en f:=by
  obtain ⟨D,⟨es,clock,hb,F,hs,hD⟩,h2⟩:=h
  exact ⟨D,⟨es,clock,hm.trans hb,F,hs,hD⟩,h2⟩
theorem MapIs.below (h:MapIs w P k b m en f) (hb:Below w.heap.size w w1):MapIs w1 P k b m en f:=h.move (hb.block b h.lt)
theorem MapIs.alloc (h:MapIs w P k b m en f) (o:Obj):MapIs (w.alloc o) P k b m en f:=h.below ((Below.refl _ _).alloc (Nat.le_refl _) o)
theorem MapIs.congr (h:MapIs w P k b m en f) {g:κ → Option Value} (hg:∀ c kl,keyOf P k (en c) = some kl → g c = f c):MapIs w P k b m en g:=by
  obtain ⟨D,h1,h2,h3⟩:=h
  exact ⟨D,h1,h2,fun c kl hk => by rw [hg c kl hk]; exact h3 c kl hk⟩
theorem MapIs.look (h:MapIs w P k b m en f) (K:Keyed P k) {t e:TypeId} (ht:P.underlying t = some (.map k e)) {z:Value} (hz:(zeroValue e).run P w = .ok z w) {c:κ} {kl:Lit} (hkey:keyOf P k (en c) = some kl) :
    (Instr.lookup t (.map (some b)) (en c) false).run P w = .ok ((f c).getD z) w:=by
  obtain ⟨D,h1,_,h3⟩:=h
  obtain ⟨v,ps,hrun,hv⟩:=h1.lookup K ht hz (zd:=.held z) (zp:=[]) rfl hkey
  rw [(h3 c kl hkey).2] at hv
  simp only [heldR,Option.some.injEq,Prod.mk.injEq,DataW.held.injEq] at hv
  rw [hrun,hv.1]
theorem MapIs.len (h:MapIs w P k b m en f) {t e:TypeId} (ht:P.underlying t = some (.map k e)) (ty:TypeId):(Builtin.len_ #[t] ty #[.map (some b)]).run P w = .ok (.int .i64 m) w:=by
  obtain ⟨D,h1,h2,_⟩:=h
  rw [h1.len ht ty,h2]
theorem MapIs.store [DecidableEq κ] (h:MapIs w P k b m en f) (K:Keyed P k) {t e:TypeId} (ht:P.underlying t = some (.map k e)) (hn:m < maxLen) (hinj:∀ a c,en a = en c → a = c) {c:κ} {kl:Lit} (hkey:keyOf P k (en c) = some kl) (v:Value) :
    ∃ w',(Instr.mapUpdate t (.map (some b)) (en c) v).run P w = .ok () w' ∧ MapIs w' P k b (if (f c).isSome then m else m + 1) en (fun a => if a = c then some v else f a) ∧ w.mapTurned w' b:=by
  obtain ⟨D,h1,h2,h3⟩:=h
  obtain ⟨w',hrun,ho,ht'⟩:=h1.store K ht hn hkey (d:=.held v) (ps:=[]) rfl
  have hsz:Maps.size (D.put kl (.held v)) = if (f c).isSome then m else m + 1:=by
    rw [size_put (h1.tidy K),(h3 c kl hkey).1,h2]
  refine ⟨w',hrun,⟨D.put kl (.held v),?_,hsz,fun a la hla => ?_⟩,ht'⟩
  · obtain ⟨es,clock,hb,F,hs,hD⟩:=ho
    refine ⟨es,clock,hb,F,?_,hD⟩
    have e1:Maps.size (D.put kl (.held v)) = es.size:=by rw [hD]; simp [Maps.size,length_sorted]
    rw [← hsz,e1]
    exact Nat.le_refl _
  · by_cases hac:a = c
    · subst hac
      have:la = kl:=Option.some.inj (hla.symm.trans hkey)
      subst this
      simp only [if_true]
      exact ⟨has_put_same h1.isMap (K.key hkey) _,fun z => atKey_put_same h1.isMap (K.key hkey) _ _⟩
    · simp only [if_neg hac]
      have hne:la ≠ kl:=fun e => hac (hinj _ _ (K.inj (e ▸ hla) hkey))
      exact ⟨(has_put_other hne _).trans (h3 a la hla).1,fun z => (atKey_put_other hne _ _).trans ((h3 a la hla).2 z)⟩
theorem MapIs.drop [DecidableEq κ] (h:MapIs w P k b m en f) (K:Keyed P k) {t e:TypeId} (ht:P.underlying t = some (.map k e)) (hinj:∀ a c,en a = en c → a = c) {c:κ} {kl:Lit} (hkey:keyOf P k (en c) = some kl) (ty:TypeId) :
    ∃ w',(Builtin.delete_ #[t,k] ty #[.map (some b),en c]).run P w = .ok (.tuple #[]) w' ∧ MapIs w' P k b (if (f c).isSome then m - 1 else m) en (fun a => if a = c then none else f a) ∧ w.mapTurned w' b:=by
  obtain ⟨D,h1,h2,h3⟩:=h
  obtain ⟨w',hrun,ho,ht'⟩:=h1.drop K ht hkey ty
  have hsz:Maps.size (D.del kl) = if (f c).isSome then m - 1 else m:=by
    have:=size_del (k:=kl) (h1.tidy K)
    rw [(h3 c kl hkey).1,h2] at this
    split at this <;> rename_i hx <;> simp [hx] <;> omega
  refine ⟨w',hrun,⟨D.del kl,?_,hsz,fun a la hla => ?_⟩,ht'⟩
  · obtain ⟨es,clock,hb,F,hs,hD⟩:=ho
    refine ⟨es,clock,hb,F,?_,hD⟩
    have e1:Maps.size (D.del kl) = es.size:=by rw [hD]; simp [Maps.size,length_sorted]
    rw [← hsz,e1]
    exact Nat.le_refl _
  · by_cases hac:a = c
    · subst hac
      have:la = kl:=Option.some.inj (hla.symm.trans hkey)
      subst this
      simp only [if_true]
      exact ⟨has_del_same,fun z => atKey_del_same _⟩
    · simp only [if_neg hac]
      have hne:la ≠ kl:=fun e => hac (hinj _ _ (K.inj (e ▸ hla) hkey))
      exact ⟨(has_del_other hne).trans (h3 a la hla).1,fun z => (atKey_del_other hne _).trans ((h3 a la hla).2 z)⟩
end
end

end Go.Proofs.YtehjfaddhmdicaaDoor.P
namespace Go.Proofs.YtehjfaddhmdicaaDoor.P
open Go.RowKit Go.Proofs.YtehjfaddhmdicaaDoorW.PrintWords Go.Proofs.YtehjfaddhmdicaaDoorW.PrintLast Go.Proofs.YtehjfaddhmdicaaDoorW.PrintMore
attribute [local go_sem] max2_int min2_int max_two min_two max_three min_three max_four min_four   -- for this text's walks alone
set_option linter.unusedVariables false
set_option linter.unusedSimpArgs false

section
open Go.Maps
theorem mapc_laid:laidOutB Tryd.prog = true:=by kernel_rfl
theorem cornKeyed:Keyed Tryd.prog 84:=Keyed.of_law (deep_law_laid mapc_laid (m:=2) (by omega) (of_decide_eq_true (by kernel_rfl)) (by kernel_rfl) (by rw [Tryd.underlying84]))
def cornV (c:Int × Int):Value:=.agg #[.int .i64 c.1,.int .i64 c.2]
theorem cornV_inj (a c:Int × Int) (h:cornV a = cornV c):a = c:=by
  unfold cornV at h
  simp at h
  exact Prod.ext h.1 h.2
theorem cornKey (x y:Int) (hx:(Lit.int .i64 x).wf = true) (hy:(Lit.int .i64 y).wf = true):keyOf Tryd.prog 84 (cornV (x,y)) = some (.string (keyBytes [.int .i64 x,.int .i64 y])):=by
  have h1:Tryd.prog.keyType 84 = true:=by kernel_rfl
  obtain ⟨m,hm⟩:∃ m,Tryd.prog.types.size = m + 1:=⟨Tryd.prog.types.size.pred,by kernel_rfl⟩
  have h4:Tryd.prog.cellsOf 84 = 2:=by kernel_rfl
  have h5:Tryd.prog.cellsOf 3 = 1:=by kernel_rfl
  unfold cornV
  have hf:(Value.agg #[.int .i64 x,.int .i64 y]).formed Tryd.prog 84 = true:=by
    simp [Value.formed,Tryd.underlying84,h4]
  have hl:Tryd.prog.keyLits (Tryd.prog.types.size + 1) 84 (Value.agg #[.int .i64 x,.int .i64 y]).cells.toList = some [.int .i64 x,.int .i64 y]:=by
    rw [hm]
    simp [Program.keyLits,Tryd.underlying84,Tryd.underlying3,h4,h5,Value.cells,hx,hy]
  simp only [keyOf,Tryd.underlying84,h1,hf,hl]
  rfl
theorem i64_wf (x:Int) (h0:-1000000 ≤ x) (h1:x ≤ 1000000):(Lit.int .i64 x).wf = true:=WalkArith.wf_i64 (by omega)
end

end Go.Proofs.YtehjfaddhmdicaaDoor.P
namespace Go.Proofs.YtehjfaddhmdicaaDoor.P
open Go.RowKit Go.Proofs.YtehjfaddhmdicaaDoorW.PrintWords Go.Proofs.YtehjfaddhmdicaaDoorW.PrintLast Go.Proofs.YtehjfaddhmdicaaDoorW.PrintMore
attribute [local go_sem] max2_int min2_int max_two min_two max_three min_three max_four min_four   -- for this text's walks alone
set_option linter.unusedVariables false
set_option linter.unusedSimpArgs false

structure Ring (X Y:Nat → Int) (n:Nat):Prop where
 n4:4 ≤ n
 clX:X n = X 0
 clY:Y n = Y 0
 st:∀ i,i < n → (X (i + 1) = X i ∧ (Y (i + 1) = Y i + 1 ∨ Y (i + 1) = Y i - 1)) ∨ (Y (i + 1) = Y i ∧ (X (i + 1) = X i + 1 ∨ X (i + 1) = X i - 1))
 inj:∀ i j,i < j → j < n → X i = X j → Y i = Y j → False
def minI (a b:Int):Int:=if b < a then b else a
def vE (X Y:Nat → Int) (i:Nat) (y:Int):Bool:=decide (X (i + 1) = X i) && decide (minI (Y i) (Y (i + 1)) = y)
def parN (p:Nat → Bool):Nat → Bool
 | 0 => false
 | i + 1 => xor (parN p i) (p i)
theorem parN_congr {p q:Nat → Bool}:∀ n,(∀ i,i < n → p i = q i) → parN p n = parN q n
 | 0,_ => rfl
 | n + 1,h => by
  unfold parN
  rw [parN_congr n (fun i hi => h i (by omega)),h n (by omega)]
theorem parN_xor (p q:Nat → Bool):∀ n,parN (fun i => xor (p i) (q i)) n = xor (parN p n) (parN q n)
 | 0 => rfl
 | n + 1 => by
  unfold parN
  rw [parN_xor p q n]
  cases parN p n <;> cases parN q n <;> cases p n <;> cases q n <;> rfl
theorem parN_none {p:Nat → Bool}:∀ n,(∀ i,i < n → p i = false) → parN p n = false
 | 0,_ => rfl
 | n + 1,h => by
  unfold parN
  rw [parN_none n (fun i hi => h i (by omega)),h n (by omega)]
  rfl
theorem parN_one {p:Nat → Bool}:∀ n,(∀ i j,i < j → j < n → p i = true → p j = true → False) → ((∃ i,i < n ∧ p i = true) ↔ parN p n = true)
 | 0,_ => ⟨fun ⟨i,h,_⟩ => absurd h (by omega),fun h => by cases h⟩
 | n + 1,h => by
  have ih:=parN_one n (fun i j a b => h i j a (by omega))
  unfold parN
  cases hp:p n with
  | false =>
   rw [Bool.xor_false,← ih]
   constructor
   ·rintro ⟨i,h1,h2⟩
    refine ⟨i,?_,h2⟩
    by_cases hi:i = n
    ·subst hi; rw [hp] at h2; cases h2
    ·omega
   ·rintro ⟨i,h1,h2⟩
    exact ⟨i,by omega,h2⟩
  | true =>
   have hz:parN p n = false:=parN_none n (fun i hi => by
    cases hc:p i with
    | false => rfl
    | true => exact (h i n hi (by omega) hc hp).elim)
   rw [hz]
   exact ⟨fun _ => rfl,fun _ => ⟨n,by omega,hp⟩⟩
namespace Ring
variable {X Y:Nat → Int} {n:Nat}
theorem prefix_ (R:Ring X Y n) (y:Int):∀ k,k ≤ n → parN (fun i => vE X Y i y) k = xor (decide (y < Y 0)) (decide (y < Y k))
 | 0,_ => by simp [parN]
 | k + 1,h => by
  unfold parN
  rw [prefix_ R y k (by omega)]
  have hs:=R.st k (by omega)
  have e:vE X Y k y = xor (decide (y < Y k)) (decide (y < Y (k + 1))):=by
   unfold vE minI
   rcases hs with ⟨h1,h2⟩ | ⟨h1,h2⟩
   ·rw [decide_eq_true h1,Bool.true_and]
    by_cases a:y < Y k <;> by_cases b:y < Y (k + 1)
    ·rw [decide_eq_true a,decide_eq_true b,decide_eq_false (by split <;> omega)]; rfl
    ·rw [decide_eq_true a,decide_eq_false b,decide_eq_true (by split <;> omega)]; rfl
    ·rw [decide_eq_false a,decide_eq_true b,decide_eq_true (by split <;> omega)]; rfl
    ·rw [decide_eq_false a,decide_eq_false b,decide_eq_false (by split <;> omega)]; rfl
   ·rw [decide_eq_false (show ¬ X (k + 1) = X k by omega),h1]
    cases decide (y < Y k) <;> rfl
  rw [e]
  cases decide (y < Y 0) <;> cases decide (y < Y k) <;> cases decide (y < Y (k + 1)) <;> rfl
theorem row_even (R:Ring X Y n) (y:Int):parN (fun i => vE X Y i y) n = false:=by
 rw [R.prefix_ y n (Nat.le_refl _),R.clY]
 cases decide (y < Y 0) <;> rfl
theorem inj2 (R:Ring X Y n) {i j:Nat} (hi:i < n) (hj:j < n) (hx:X i = X j) (hy:Y i = Y j):i = j:=by
 rcases Nat.lt_trichotomy i j with h | h | h
 ·exact (R.inj i j h hj hx hy).elim
 ·exact h
 ·exact (R.inj j i h hi hx.symm hy.symm).elim
theorem once (R:Ring X Y n) {i j:Nat} (hij:i < j) (hj:j < n) {y:Int} (h1:vE X Y i y = true) (h2:vE X Y j y = true) (hx:X i = X j):False:=by
 unfold vE minI at h1 h2
 rw [Bool.and_eq_true,decide_eq_true_iff,decide_eq_true_iff] at h1 h2
 have n4:=R.n4
 have s1:=R.st i (by omega)
 have s2:=R.st j hj
 have a1:=h1.2
 have a2:=h2.2
 have hne:Y i ≠ Y j:=fun e => R.inj i j hij hj hx e
 have e1:Y i = Y (j + 1) ∧ Y (i + 1) = Y j:=by
  split at a1 <;> split at a2 <;> omega
 by_cases hl:j + 1 < n
 ·exact R.inj i (j + 1) (by omega) hl (by omega) e1.1
 ·have hjn:j + 1 = n:=by omega
  rw [hjn,R.clY] at e1
  have hx0:X i = X 0:=by rw [← R.clX,← hjn]; omega
  have hi0:i = 0:=R.inj2 (by omega) (by omega) hx0 e1.1
  subst hi0
  exact R.inj (0 + 1) j (by omega) hj (by omega) e1.2
def ins (X Y:Nat → Int) (n:Nat) (y x:Int):Bool:=parN (fun i => vE X Y i y && decide (X i ≤ x)) n
def atE (X Y:Nat → Int) (n:Nat) (y x:Int):Bool:=parN (fun i => vE X Y i y && decide (X i = x)) n
theorem ins_step (X Y:Nat → Int) (n:Nat) (y x:Int):ins X Y n y (x + 1) = xor (ins X Y n y x) (atE X Y n y (x + 1)):=by
 unfold ins atE
 rw [← parN_xor]
 refine parN_congr n (fun i _ => ?_)
 cases vE X Y i y
 ·rfl
 ·rw [Bool.true_and,Bool.true_and,Bool.true_and]
  by_cases h:X i = x + 1
  ·rw [decide_eq_true (show X i ≤ x + 1 by omega),decide_eq_false (show ¬ X i ≤ x by omega),decide_eq_true h]; rfl
  ·by_cases h2:X i ≤ x
   ·rw [decide_eq_true (show X i ≤ x + 1 by omega),decide_eq_true h2,decide_eq_false h]; rfl
   ·rw [decide_eq_false (show ¬ X i ≤ x + 1 by omega),decide_eq_false h2,decide_eq_false h]; rfl
theorem atE_iff (R:Ring X Y n) (y x:Int):atE X Y n y x = true ↔ ∃ i,i < n ∧ vE X Y i y = true ∧ X i = x:=by
 unfold atE
 rw [← parN_one n]
 ·constructor
  ·rintro ⟨i,h1,h2⟩
   rw [Bool.and_eq_true,decide_eq_true_iff] at h2
   exact ⟨i,h1,h2⟩
  ·rintro ⟨i,h1,h2,h3⟩
   exact ⟨i,h1,by rw [h2,decide_eq_true h3]; rfl⟩
 ·intro i j h1 h2 h3 h4
  rw [Bool.and_eq_true,decide_eq_true_iff] at h3 h4
  exact R.once h1 h2 h3.1 h4.1 (by omega)
theorem ins_low (y x:Int) (h:∀ i,i < n → x < X i):ins X Y n y x = false :=
 parN_none n (fun i hi => by have h2:=h i hi; rw [decide_eq_false (show ¬ X i ≤ x by omega),Bool.and_false])
theorem ins_high (R:Ring X Y n) (y x:Int) (h:∀ i,i < n → X i ≤ x):ins X Y n y x = false:=by
 rw [← R.row_even y]
 exact parN_congr n (fun i hi => by rw [decide_eq_true (h i hi),Bool.and_true])
theorem ins_below (R:Ring X Y n) (y x:Int) (h:∀ i,i < n → Y i ≤ y):ins X Y n y x = false :=
 parN_none n (fun i hi => by
  have h1:=h i hi
  have h2:Y (i + 1) ≤ y:=by
   by_cases e:i + 1 < n
   ·exact h _ e
   ·have:i + 1 = n:=by omega
    rw [this,R.clY]
    exact h 0 (by have:=R.n4; omega)
  have s:=R.st i hi
  unfold vE minI
  rcases s with ⟨a,b⟩ | ⟨a,b⟩
  ·rw [decide_eq_false (show ¬ (if Y (i + 1) < Y i then Y (i + 1) else Y i) = y by split <;> omega),Bool.and_false]; rfl
  ·rw [decide_eq_false (show ¬ X (i + 1) = X i by omega)]; rfl)
theorem last_col (R:Ring X Y n) (M:Int) (hM:∀ i,i < n → X i ≤ M) (hA:∃ i,i < n ∧ X i = M):∃ i y,i < n ∧ vE X Y i y = true ∧ X i = M:=by
 obtain ⟨i,hi,hx⟩:=hA
 have n4:=R.n4
 by_cases h1:X (i + 1) = X i
 ·exact ⟨i,minI (Y i) (Y (i + 1)),hi,by unfold vE; rw [decide_eq_true h1,decide_eq_true rfl]; rfl,hx⟩
 ·have hn:X (i + 1) ≤ M:=by
   by_cases e:i + 1 < n
   ·exact hM _ e
   ·have:i + 1 = n:=by omega
    rw [this,R.clX]; exact hM 0 (by omega)
  have s:=R.st i hi
  have e1:X (i + 1) = M - 1 ∧ Y (i + 1) = Y i:=by omega
  obtain ⟨j,hj,hjx,hjy,hji⟩:∃ j,j < n ∧ X (j + 1) = X i ∧ Y (j + 1) = Y i ∧ (j + 1 = i ∨ (i = 0 ∧ j + 1 = n)):=by
   by_cases h0:i = 0
   ·subst h0
    refine ⟨n - 1,by omega,?_,?_,.inr ⟨rfl,by omega⟩⟩
    ·rw [show n - 1 + 1 = n by omega]; exact R.clX
    ·rw [show n - 1 + 1 = n by omega]; exact R.clY
   ·refine ⟨i - 1,by omega,?_,?_,.inl (by omega)⟩ <;> rw [show i - 1 + 1 = i by omega]
  by_cases h2:X (j + 1) = X j
  ·exact ⟨j,minI (Y j) (Y (j + 1)),hj,by unfold vE; rw [decide_eq_true h2,decide_eq_true rfl]; rfl,by omega⟩
  ·exfalso
   have sj:=R.st j hj
   have hjm:=hM j hj
   have e2:X j = X (i + 1) ∧ Y j = Y (i + 1):=by omega
   by_cases e:i + 1 < n
   ·have:=R.inj2 hj e e2.1 e2.2
    omega
   ·have hin:i + 1 = n:=by omega
    rw [hin,R.clX,R.clY] at e2
    have:=R.inj2 hj (by omega) e2.1 e2.2
    omega
theorem last_row (R:Ring X Y n) (M K:Int) (hM:∀ i,i < n → X i ≤ M) (hA:∃ i,i < n ∧ X i = M) (hK:∀ i,i < n → Y i ≤ K) (hB:∃ i,i < n ∧ Y i = K):∃ i,i < n ∧ vE X Y i (K - 1) = true:=by
 have n4:=R.n4
 have hK2:∀ i,i ≤ n → Y i ≤ K:=fun i hi => by
  by_cases e:i < n
  ·exact hK i e
  ·have:i = n:=by omega
   rw [this,R.clY]; exact hK 0 (by omega)
 obtain ⟨i,y,hi,hv,_⟩:=R.last_col M hM hA
 obtain ⟨j,hj,hjK⟩:=hB
 by_cases hE:∃ i,i < n ∧ vE X Y i (K - 1) = true
 ·exact hE
 ·exfalso
  have hnone:∀ i,i < n → vE X Y i (K - 1) = false:=fun i hi => by
   cases h:vE X Y i (K - 1) with
   | false => rfl
   | true => exact (hE ⟨i,hi,h⟩).elim
  have hall:∀ k,k ≤ n → decide (K - 1 < Y 0) = decide (K - 1 < Y k):=fun k hk => by
   have h:=R.prefix_ (K - 1) k hk
   rw [parN_none k (fun i hi => hnone i (by omega))] at h
   revert h
   cases decide (K - 1 < Y 0) <;> cases decide (K - 1 < Y k) <;> simp
  have hj2:=hall j (by omega)
  rw [decide_eq_true (show K - 1 < Y j by omega)] at hj2
  have hy:∀ k,k ≤ n → Y k = K:=fun k hk => by
   have h:=hall k hk
   rw [hj2] at h
   have h:=of_decide_eq_true h.symm
   have:=hK2 k hk
   omega
  unfold vE at hv
  rw [Bool.and_eq_true,decide_eq_true_iff] at hv
  have s:=R.st i hi
  have a:=hy i (by omega)
  have b:=hy (i + 1) (by omega)
  omega
theorem wide_cell (R:Ring X Y n) (M:Int) (hM:∀ i,i < n → X i ≤ M) (hA:∃ i,i < n ∧ X i = M):∃ y,ins X Y n y (M - 1) = true:=by
 obtain ⟨i,y,hi,hv,hx⟩:=R.last_col M hM hA
 refine ⟨y,?_⟩
 have h1:=ins_step X Y n y (M - 1)
 rw [show M - 1 + 1 = M by omega,R.ins_high y M hM,(R.atE_iff y M).2 ⟨i,hi,hv,hx⟩] at h1
 revert h1
 cases ins X Y n y (M - 1) <;> simp
theorem high_cell (R:Ring X Y n) (M K:Int) (hM:∀ i,i < n → X i ≤ M) (hA:∃ i,i < n ∧ X i = M) (hK:∀ i,i < n → Y i ≤ K) (hB:∃ i,i < n ∧ Y i = K):∃ x,ins X Y n (K - 1) x = true:=by
 obtain ⟨i,hi,hv⟩:=R.last_row M K hM hA hK hB
 have h1:=ins_step X Y n (K - 1) (X i - 1)
 rw [show X i - 1 + 1 = X i by omega,(R.atE_iff (K - 1) (X i)).2 ⟨i,hi,hv,rfl⟩] at h1
 cases h2:ins X Y n (K - 1) (X i - 1) with
 | true => exact ⟨_,h2⟩
 | false => rw [h2] at h1; exact ⟨_,h1⟩
theorem near (R:Ring X Y n):∀ k i,i + k ≤ n → (X (i + k) - X i ≤ k ∧ X i - X (i + k) ≤ k) ∧ (Y (i + k) - Y i ≤ k ∧ Y i - Y (i + k) ≤ k)
 | 0,i,_ => by simp
 | k + 1,i,h => by
  have ih:=near R k i (by omega)
  have s:=R.st (i + k) (by omega)
  rw [show i + (k + 1) = i + k + 1 by omega]
  omega
theorem wide_le (R:Ring X Y n) (i j:Nat) (hi:i ≤ n) (hj:j ≤ n):(X j - X i ≤ n ∧ Y j - Y i ≤ n):=by
 rcases Nat.le_total i j with h | h
 ·have:=R.near (j - i) i (by omega)
  rw [show i + (j - i) = j by omega] at this
  omega
 ·have:=R.near (i - j) j (by omega)
  rw [show j + (i - j) = i by omega] at this
  omega
end Ring

end Go.Proofs.YtehjfaddhmdicaaDoor.P
namespace Go.Proofs.YtehjfaddhmdicaaDoor.P
open Go.RowKit Go.Proofs.YtehjfaddhmdicaaDoorW.PrintWords Go.Proofs.YtehjfaddhmdicaaDoorW.PrintLast Go.Proofs.YtehjfaddhmdicaaDoorW.PrintMore
attribute [local go_sem] max2_int min2_int max_two min_two max_three min_three max_four min_four   -- for this text's walks alone
set_option linter.unusedVariables false
set_option linter.unusedSimpArgs false

def stepsB:ByteArray:=⟨#[110,101,115,119]⟩
def digitsB:ByteArray:=⟨#[48,49,50,51,52,53,54,55]⟩
def strings_Trim.f (a0 a1:ByteArray):Option ByteArray:=if a0.size ≤ 9223372036854775807 ∧ (a1 = stepsB ∨ a1 = digitsB) then some ⟨(Lib.trimS a0.data.toList a1.data.toList).toArray⟩ else none
theorem strings_Trim.calls (a0 a1:ByteArray) (r:ByteArray) (w:World) (h:strings_Trim.f a0 a1 = some r) :
    Calls Tryd.prog 117 #[.string a0,.string a1] w fun e w' => e = .returned (.string r) ∧ Below w.heap.size w w':=by
  unfold strings_Trim.f at h
  split at h
  · rename_i h0
    obtain rfl:=Option.some.inj h
    obtain ⟨h1,rfl | rfl⟩:=h0
    · exact Any.strings_Trim_laid Tryd.lays160 (by kernel_rfl) a0 stepsB w h1 (by decide) (ascii_of_all (by decide))
    · exact Any.strings_Trim_laid Tryd.lays160 (by kernel_rfl) a0 digitsB w h1 (by decide) (ascii_of_all (by decide))
  · cases h

end Go.Proofs.YtehjfaddhmdicaaDoor.P
namespace Go.Proofs.YtehjfaddhmdicaaDoor.P
open Go.RowKit Go.Proofs.YtehjfaddhmdicaaDoorW.PrintWords Go.Proofs.YtehjfaddhmdicaaDoorW.PrintLast Go.Proofs.YtehjfaddhmdicaaDoorW.PrintMore
attribute [local go_sem] max2_int min2_int max_two min_two max_three min_three max_four min_four   -- for this text's walks alone
set_option linter.unusedVariables false
set_option linter.unusedSimpArgs false

def seenC (l:List S84):List (Int × Int):=l.foldl (fun S c => if pairC c ∈ S then S else pairC c :: S) []
theorem seenC_snoc (l:List S84) (c:S84):seenC (l ++ [c]) = if pairC c ∈ seenC l then seenC l else pairC c :: seenC l:=by
 unfold seenC; rw [List.foldl_append]; rfl
theorem seenC_len (l:List S84):(seenC l).length ≤ l.length:=by
 have h:∀ (l:List S84) (S:List (Int × Int)),(l.foldl (fun S c => if pairC c ∈ S then S else pairC c :: S) S).length ≤ S.length + l.length:=by
  intro l
  induction l with
  | nil => intro S; exact Nat.le_refl _
  | cons a t ih =>
   intro S
   rw [List.foldl_cons]
   have:=ih (if pairC a ∈ S then S else pairC a :: S)
   have h2:(if pairC a ∈ S then S else pairC a :: S).length ≤ S.length + 1:=by split <;> simp
   rw [List.length_cons]
   omega
 have:=h l []
 simpa [seenC] using this
def closedW (l:List UInt8):Bool:=(((cornersL l).getD l.length ⟨0,0⟩).f0 == 0 && ((cornersL l).getD l.length ⟨0,0⟩).f1 == 0) && decide ((seenC ((cornersL l).take l.length)).length = l.length)
def stepsOnly (s:ByteArray):Bool:=(Lib.trimS s.data.toList stepsB.data.toList).isEmpty
def isLoopB (s:ByteArray):Bool:=(decide (4 ≤ s.size) && decide (s.size ≤ 40)) && (stepsOnly s && closedW s.data.toList)
attribute [local go_sem high] eqA84
attribute [local go_sem] undef in
set_option maxRecDepth 100000 in
set_option maxHeartbeats 8000000 in
theorem isLoop_in (s:ByteArray) (hs4:4 ≤ s.size) (hs40:s.size ≤ 40) (hst:stepsOnly s = true) (w:World) :
  Calls Tryd.prog 65 #[.string s] w fun e w' => e = .returned (.bool (closedW s.data.toList)) ∧ Below w.heap.size w w':=by
 have hmm:=@run_makeMap Tryd.prog
 have HW:=am_ (show impl_within.f (s.size:Int) 4 40 = some true from by unfold impl_within.f; rw [if_pos (by omega),decide_eq_true (by omega)])
 have HT:=am_ (show strings_Trim.f s stepsB = some ⟨#[]⟩ from by
  unfold strings_Trim.f
  rw [if_pos ⟨by omega,.inl rfl⟩]
  unfold stepsOnly at hst
  rw [List.isEmpty_iff] at hst
  rw [hst])
 have HK:=am_ (show impl_walk.f s = some (cornersL s.data.toList) from by unfold impl_walk.f; rw [if_pos (by omega)])
 have hlen:(cornersL s.data.toList).length = s.size + 1:=by rw [cornersL_len]; simp
 have hn:s.data.toList.length = s.size:=by simp
 have HN:=am_ hn
 unfold closedW
 rw [hn]
 have HBd:=am_ (cornersL_bound s.data.toList (by rw [hn]; omega))
 have H00:Aside0 ((cornersL s.data.toList).getD 0 ⟨0,0⟩ = ⟨0,0⟩):=⟨rfl⟩
 generalize cornersL s.data.toList = cs at hlen HK HBd H00 ⊢
 have e1:wrap64 (((s.size + 1:Nat):Int) - 1) = (s.size:Int):=by unfold wrap64; omega
 clear hn hst
 go_enter Tryd.func65,Tryd.ntmps65
 go_wp2_with (first
  | (go_at_call 100; refine (impl_within.calls _ _ _ _ _ HW.out).mono ?_; rintro e w1 ⟨rfl,⟨nd,rfl⟩⟩)
  | (go_at_call 117; refine (strings_Trim.calls s stepsB _ _ HT.out).mono ?_; rintro e w2 ⟨rfl,hb2⟩)
  | (go_at_call 118; refine (impl_walk.calls s _ _ HK.out).mono ?_; rintro e w3 ⟨v,rfl,ho,hb3⟩; obtain ⟨A,c,rfl⟩:=Kd.R_slice ho; have hcap:=(Kd.R_reads' ho).2.1; have HO:=am_ ho; clear ho; rw [hlen] at HO hcap ⊢; have hcap2:(s.size:Int) ≤ (c:Int):=by omega))
 have HB0:Aside0 (Below w.heap.size w (w3.alloc (.map #[] 0))):=⟨below_alloc (below_step (below_step (pw_below_drewN (Below.refl _ _) _) hb2) hb3) _⟩
 have HL0:Aside0 (Kd.R k84 84 (w3.alloc (.map #[] 0)) w.heap.size (fun k => k ≠ w3.heap.size) (.slice A (s.size + 1) c) cs):=⟨Kd.R_alloc (Kd.R_lower (Kd.R_mono (Kd.R_bound HO.out) (fun k hk => by have:=hk.2.2.1; omega)) (by have:=(below_step (pw_below_drewN (Below.refl w.heap.size w) nd) hb2).size; omega)) _⟩
 have HM0:Aside0 (MapIs (w3.alloc (.map #[] 0)) Tryd.prog 84 w3.heap.size 0 cornV (inP [])):=⟨(MapIs.made w3 Tryd.prog 84 cornV).congr (fun c kl _ => by unfold inP; simp)⟩
 have HW3:Aside0 (w.heap.size ≤ w3.heap.size):=⟨by have:=(below_step (below_step (pw_below_drewN (Below.refl w.heap.size w) nd) hb2) hb3).size; exact this⟩
 clear HO hb2 hb3 HW HT HK hmm hcap hcap2
 generalize w3.heap.size = bm at HL0 HM0 HW3 ⊢
 generalize w3.alloc (.map #[] 0) = W0 at HB0 HL0 HM0 ⊢
 go_loopg [7,27] s.size (fun gg _ u27 wr => ∃ i:Nat,i ≤ s.size ∧ s.size - i ≤ gg ∧ u27 = .int .i64 i ∧ Aside0 (MapIs wr Tryd.prog 84 bm (seenC (cs.take i)).length cornV (inP (seenC (cs.take i)))) ∧ Aside0 (Kd.R k84 84 wr w.heap.size (fun k => k ≠ bm) (.slice A (s.size + 1) c) cs) ∧ Aside0 (Below w.heap.size w wr))
 case atStart => exact ⟨0,Nat.zero_le _,by omega,rfl,HM0,HL0,HB0⟩
 case round =>
  clear HM0 HL0 HB0
  obtain ⟨i,hi,hgg,rfl,HM,HL,HB⟩:=hrel
  have hat:∀ j:Nat,j ≤ s.size → ∃ ad,A = some ad ∧ wr.cell? (ad.add (j * 2)) = some (.int .i64 (cs.getD j ⟨0,0⟩).f0) ∧ wr.cell? ⟨(ad.add (j * 2)).block,(ad.add (j * 2)).off + 1,none⟩ = some (.int .i64 (cs.getD j ⟨0,0⟩).f1):=fun j hj => by
   obtain ⟨ad,h1,h2,h3⟩:=at_T84 (Kd.R_reads' HL.out).2.2 (j:Int) (by omega) (by rw [hlen]; omega)
   have hrc:rd_T84 cs (j:Int) = cs.getD j ⟨0,0⟩:=by unfold rd_T84; rw [Int.toNat_natCast]; rfl
   rw [hrc,Int.toNat_natCast] at h2 h3
   exact ⟨ad,h1,h2,h3⟩
  by_cases hlt:i < s.size
  ·have hltz:(i:Int) < (s.size:Int):=by omega
   have hil:i < cs.length:=by omega
   obtain ⟨ad,rfl,hy1,hy2⟩:=hat i hi
   have hce:cs.getD i ⟨0,0⟩ = cs[i]:=by rw [List.getD_eq_getElem?_getD,List.getElem?_eq_getElem hil]; rfl
   have hbd:=HBd.out cs[i] (List.getElem_mem hil)
   have htk:cs.take (i + 1) = cs.take i ++ [cs[i]]:=List.take_succ_eq_append_getElem hil
   have hsn:=seenC_snoc (cs.take i) cs[i]
   rw [← htk] at hsn
   rw [hce] at hy1 hy2
   have hlen2:=seenC_len (cs.take i)
   rw [List.length_take] at hlen2
   clear hat hce htk
   generalize cs[i] = ce at hy1 hy2 hbd hsn
   obtain ⟨x,y⟩:=ce
   obtain ⟨wt,hst,hM2,ht⟩:=(HM.out.alloc (.cells #[.int .i64 x,.int .i64 y] 84)).store cornKeyed Tryd.underlying142 (by unfold maxLen; omega) cornV_inj (cornKey x y (i64_wf x (by simp at hbd; omega) (by simp at hbd; omega)) (i64_wf y (by simp at hbd; omega) (by simp at hbd; omega))) (.bool true)
   have hst2:(Instr.mapUpdate 142 (.map (some bm)) (.agg #[.int .i64 x,.int .i64 y]) (.bool true)).run Tryd.prog (wr.alloc (.cells #[.int .i64 x,.int .i64 y] 84)) = .ok () wt:=hst
   have HM2:Aside0 (MapIs wt Tryd.prog 84 bm (seenC (cs.take (i + 1))).length cornV (inP (seenC (cs.take (i + 1))))):=⟨by
    rw [hsn]
    by_cases hin:(x,y) ∈ seenC (cs.take i)
    ·rw [if_pos (show pairC ⟨x,y⟩ ∈ _ from hin)]
     have e:(inP (seenC (cs.take i)) (x,y)).isSome = true:=by unfold inP; rw [if_pos hin]; rfl
     rw [e,if_pos rfl] at hM2
     exact hM2.congr (fun a kl _ => by unfold inP; by_cases ha:a = (x,y) <;> simp [ha,hin])
    ·rw [if_neg (show ¬ pairC ⟨x,y⟩ ∈ _ from hin)]
     have e:(inP (seenC (cs.take i)) (x,y)).isSome = false:=by unfold inP; rw [if_neg hin]; rfl
     rw [e,if_neg (by simp)] at hM2
     exact hM2.congr (fun a kl _ => by unfold inP pairC; by_cases ha:a = (x,y) <;> by_cases hb:a ∈ seenC (cs.take i) <;> simp [ha,hb])⟩
   have HL2:Aside0 (Kd.R k84 84 wt w.heap.size (fun k => k ≠ bm) (.slice (some ad) (s.size + 1) c) cs):=⟨Kd.R_grown (Kd.R_alloc HL.out _) ht.grown (fun k hk e => hk (by cases e; rfl))⟩
   have HB2:Aside0 (Below w.heap.size w wt):=⟨((FrameBut.of_below (O:=fun k => k = bm) (below_alloc HB.out (.cells #[.int .i64 x,.int .i64 y] 84))).turned ht (.inl rfl)).toBelow (Nat.le_refl _) (fun k hk e => by have:=HW3.out; omega)⟩
   clear hst hM2 ht HM HL HB hbd hsn hlen2
   go_wp2_with fail
   go_roundg (s.size - (i + 1))
   case measure => omega
   case rel => exact ⟨i + 1,by omega,by omega,by go_num,HM2,HL2,HB2⟩
  ·have hltz:¬ (i:Int) < (s.size:Int):=by omega
   have hie:i = s.size:=by omega
   obtain ⟨ad,rfl,hy1,hy2⟩:=hat s.size (Nat.le_refl _)
   obtain ⟨ad',he',hz1,hz2⟩:=hat 0 (Nat.zero_le _)
   cases he'
   have hadd0:ad.add (0 * 2) = ad:=by cases ad; rfl
   rw [H00.out,hadd0] at hz1 hz2
   have HMd:=HM.out.below (below_drew (Below.refl wr.heap.size wr))
   have hlm:=fun ty => HMd.len Tryd.underlying142 ty
   have hlm0:=fun ty => HM.out.len Tryd.underlying142 ty
   rw [hie]
   generalize hcz:cs.getD s.size ⟨0,0⟩ = cz at hy1 hy2
   have HCZ:=am_ hcz
   clear hcz
   obtain ⟨x,y⟩:=cz
   have hix:(s.size:Int) < (s.size:Int) + 1:=by omega
   have hy1d:wr.drew.cell? (ad.add (s.size * 2)) = some (.int .i64 x):=hy1
   have hy2d:wr.drew.cell? ⟨(ad.add (s.size * 2)).block,(ad.add (s.size * 2)).off + 1,none⟩ = some (.int .i64 y):=hy2
   have hz1d:wr.drew.cell? ad = some (.int .i64 0):=hz1
   have hz2d:wr.drew.cell? ⟨ad.block,ad.off + 1,none⟩ = some (.int .i64 0):=hz2
   clear hat HM HMd
   cases hx:(x == 0 && y == 0) with
   | true =>
    go_wp2_with fail
    first | go_region_law (fail) | fail
    all_goals
     go_wp2_with fail
     go_ret
     refine ⟨congrArg (fun b => Ending.returned (.bool b)) ?_,below_drew HB.out⟩
     have hx2:((⟨x,y⟩:S84).f0 == 0 && (⟨x,y⟩:S84).f1 == 0) = true:=hx
     rw [HCZ.out,hx2,Bool.true_and,Bool.eq_iff_iff,beq_iff_eq,decide_eq_true_iff]
     exact ⟨fun h => by omega,fun h => by omega⟩
   | false =>
    go_wp2_with fail
    first | go_region_law (fail) | fail
    all_goals
     go_wp2_with fail
     go_ret
     refine ⟨congrArg (fun b => Ending.returned (.bool b)) ?_,below_drew HB.out⟩
     have hx2:((⟨x,y⟩:S84).f0 == 0 && (⟨x,y⟩:S84).f1 == 0) = false:=hx
     rw [HCZ.out,hx2,Bool.false_and]
set_option maxRecDepth 100000 in
theorem isLoop_out (s:ByteArray) (hs:¬ (4 ≤ s.size ∧ s.size ≤ 40)) (w:World):Calls Tryd.prog 65 #[.string s] w fun e w' => e = .returned (.bool false) ∧ Below w.heap.size w w':=by
 have HW:=am_ (show impl_within.f (s.size:Int) 4 40 = some false from by
  unfold impl_within.f
  by_cases h:(4:Int) ≤ (s.size:Int)
  ·rw [if_pos h,decide_eq_false (by omega)]
  ·rw [if_neg h])
 clear hs
 go_enter Tryd.func65,Tryd.ntmps65
 go_wp2_with (first
  | (go_at_call 100; refine (impl_within.calls _ _ _ _ _ HW.out).mono ?_; rintro e w1 ⟨rfl,⟨nd,rfl⟩⟩))
 go_ret
 exact ⟨rfl,pw_below_drewN (Below.refl _ _) _⟩
set_option maxRecDepth 100000 in
theorem isLoop_not (s:ByteArray) (hs4:4 ≤ s.size) (hs40:s.size ≤ 40) (hst:stepsOnly s = false) (w:World):Calls Tryd.prog 65 #[.string s] w fun e w' => e = .returned (.bool false) ∧ Below w.heap.size w w':=by
 have HW:=am_ (show impl_within.f (s.size:Int) 4 40 = some true from by unfold impl_within.f; rw [if_pos (by omega),decide_eq_true (by omega)])
 have HT:=am_ (show strings_Trim.f s stepsB = some ⟨(Lib.trimS s.data.toList stepsB.data.toList).toArray⟩ from by unfold strings_Trim.f; rw [if_pos ⟨by omega,.inl rfl⟩])
 unfold stepsOnly at hst
 generalize Lib.trimS s.data.toList stepsB.data.toList = t at HT hst
 cases t with
 | nil => cases hst
 | cons a t =>
  clear hst
  have hemp:(⟨(a :: t).toArray⟩:ByteArray).toList.isEmpty = false:=by rw [Lib.toList_data]; simp
  generalize (⟨(a :: t).toArray⟩:ByteArray) = r at HT hemp
  go_enter Tryd.func65,Tryd.ntmps65
  go_wp2_with (first
   | (go_at_call 100; refine (impl_within.calls _ _ _ _ _ HW.out).mono ?_; rintro e w1 ⟨rfl,⟨nd,rfl⟩⟩)
   | (go_at_call 117; refine (strings_Trim.calls s stepsB _ _ HT.out).mono ?_; rintro e w2 ⟨rfl,hb2⟩))
  go_ret
  exact ⟨by first | rfl | simp,below_step (pw_below_drewN (Below.refl _ _) _) hb2⟩
def impl_IsLoop.f (a0:ByteArray):Option Bool:=some (isLoopB a0)
theorem impl_IsLoop.calls (a0:ByteArray) (r:Bool) (w:World) (h:impl_IsLoop.f a0 = some r) :
  Calls Tryd.prog 65 #[.string a0] w fun e w' => e = .returned (.bool r) ∧ Below w.heap.size w w':=by
 obtain rfl:=Option.some.inj h
 unfold isLoopB
 by_cases h1:4 ≤ a0.size ∧ a0.size ≤ 40
 ·rw [decide_eq_true h1.1,decide_eq_true h1.2]
  cases h2:stepsOnly a0 with
  | true => exact isLoop_in a0 h1.1 h1.2 h2 w
  | false => exact isLoop_not a0 h1.1 h1.2 h2 w
 ·have e:(decide (4 ≤ a0.size) && decide (a0.size ≤ 40)) = false:=by
   rw [Bool.eq_false_iff]; intro h; rw [Bool.and_eq_true,decide_eq_true_iff,decide_eq_true_iff] at h; exact h1 h
  rw [e]
  exact isLoop_out a0 h1 w

end Go.Proofs.YtehjfaddhmdicaaDoor.P
namespace Go.Proofs.YtehjfaddhmdicaaDoor.P
open Go.RowKit Go.Proofs.YtehjfaddhmdicaaDoorW.PrintWords Go.Proofs.YtehjfaddhmdicaaDoorW.PrintLast Go.Proofs.YtehjfaddhmdicaaDoorW.PrintMore
attribute [local go_sem] max2_int min2_int max_two min_two max_three min_three max_four min_four   -- for this text's walks alone
set_option linter.unusedVariables false
set_option linter.unusedSimpArgs false

def lowL (cs:List S84):Nat → S84
 | 0 => cs.getD 0 ⟨0,0⟩
 | i + 1 => ⟨if (cs.getD i ⟨0,0⟩).f0 < (lowL cs i).f0 then (cs.getD i ⟨0,0⟩).f0 else (lowL cs i).f0,if (cs.getD i ⟨0,0⟩).f1 < (lowL cs i).f1 then (cs.getD i ⟨0,0⟩).f1 else (lowL cs i).f1⟩
def insP (S:List (Int × Int)) (p:Int × Int):List (Int × Int):=if p ∈ S then S else p :: S
def upsL (cs:List S84) (lo:S84):Nat → List (Int × Int)
 | 0 => []
 | k + 1 => if (cs.getD k ⟨0,0⟩).f0 = (cs.getD (k + 1) ⟨0,0⟩).f0 then insP (upsL cs lo k) ((cs.getD k ⟨0,0⟩).f0 - lo.f0,(if (cs.getD (k + 1) ⟨0,0⟩).f1 < (cs.getD k ⟨0,0⟩).f1 then (cs.getD (k + 1) ⟨0,0⟩).f1 else (cs.getD k ⟨0,0⟩).f1) - lo.f1) else upsL cs lo k
def scanL (S:List (Int × Int)) (y:Nat):Nat → Bool × List S84
 | 0 => (false,[])
 | x + 1 => (if ((x:Int),(y:Int)) ∈ S then !(scanL S y x).1 else (scanL S y x).1,if (if ((x:Int),(y:Int)) ∈ S then !(scanL S y x).1 else (scanL S y x).1) then (scanL S y x).2 ++ [⟨x,y⟩] else (scanL S y x).2)
def rowsL (S:List (Int × Int)):Nat → List S84
 | 0 => []
 | y + 1 => rowsL S y ++ (scanL S y 40).2
def cellsW (l:List UInt8):List S84:=rowsL (upsL (cornersL l) (lowL (cornersL l) (l.length + 1)) l.length) 40
theorem getD_bd (cs:List S84) (h:∀ d ∈ cs,(-1000 ≤ d.f0 ∧ d.f0 ≤ 1000) ∧ (-1000 ≤ d.f1 ∧ d.f1 ≤ 1000)) (i:Nat):(-1000 ≤ (cs.getD i ⟨0,0⟩).f0 ∧ (cs.getD i ⟨0,0⟩).f0 ≤ 1000) ∧ (-1000 ≤ (cs.getD i ⟨0,0⟩).f1 ∧ (cs.getD i ⟨0,0⟩).f1 ≤ 1000):=by
 by_cases hi:i < cs.length
 ·rw [List.getD_eq_getElem?_getD,List.getElem?_eq_getElem hi]
  exact h _ (List.getElem_mem hi)
 ·rw [List.getD_eq_getElem?_getD,List.getElem?_eq_none (by omega)]
  simp
theorem lowL_bd (cs:List S84) (h:∀ d ∈ cs,(-1000 ≤ d.f0 ∧ d.f0 ≤ 1000) ∧ (-1000 ≤ d.f1 ∧ d.f1 ≤ 1000)):∀ i,(-1000 ≤ (lowL cs i).f0 ∧ (lowL cs i).f0 ≤ 1000) ∧ (-1000 ≤ (lowL cs i).f1 ∧ (lowL cs i).f1 ≤ 1000)
 | 0 => getD_bd cs h 0
 | i + 1 => by
  have h1:=getD_bd cs h i
  have h2:=lowL_bd cs h i
  show (-1000 ≤ (if _ then _ else _) ∧ (if _ then _ else _) ≤ (1000:Int)) ∧ (-1000 ≤ (if _ then _ else _) ∧ (if _ then _ else _) ≤ (1000:Int))
  generalize cs.getD i ⟨0,0⟩ = a at h1 ⊢
  generalize lowL cs i = b at h2 ⊢
  refine ⟨⟨?_,?_⟩,⟨?_,?_⟩⟩ <;> split <;> omega
theorem insP_len (S:List (Int × Int)) (p:Int × Int):(insP S p).length ≤ S.length + 1:=by
 unfold insP
 split
 ·omega
 ·rw [List.length_cons]; omega
theorem upsL_len (cs:List S84) (lo:S84):∀ k,(upsL cs lo k).length ≤ k
 | 0 => Nat.le_refl _
 | k + 1 => by
  have h:=upsL_len cs lo k
  unfold upsL
  split
  ·exact Nat.le_trans (insP_len _ _) (by omega)
  ·omega
theorem R_zeroC (w:World) (base:Nat) (hb:base ≤ w.heap.size):Kd.R k84 84 (w.alloc (.cells #[] 84)) base (fun k => w.heap.size ≤ k) (.slice (some ⟨w.heap.size,0,none⟩) 0 0) []:=by
 refine ⟨fun k hk => ?_,[],?_,?_⟩
 ·simp [Value.ownBlock] at hk
  omega
 ·have h:=World.ownsRow_lit (base:=base) (e:=84) (size:=2) w #[] 0 hb (by simp [maxLen]) (by simp)
  have h2:(w.alloc (.cells #[] 84)).ownsRow base 84 2 (.slice (some ⟨w.heap.size,0,none⟩) 0 0) 0 []:=by simpa using h
  exact h2
 ·exact ⟨rfl,fun j p hj => by simp at hj⟩
theorem scanL_len (S:List (Int × Int)) (y:Nat):∀ x,(scanL S y x).2.length ≤ x
 | 0 => Nat.le_refl _
 | x + 1 => by
  have h:=scanL_len S y x
  have h2:(scanL S y (x + 1)).2 = (scanL S y x).2 ∨ (scanL S y (x + 1)).2 = (scanL S y x).2 ++ [⟨x,y⟩]:=by
   rw [scanL]
   dsimp only
   split <;> split <;> simp
  rcases h2 with h2 | h2 <;> rw [h2]
  ·omega
  ·rw [List.length_append,List.length_singleton]; omega
theorem rowsL_suc (S:List (Int × Int)) (y:Nat):rowsL S (y + 1) = rowsL S y ++ (scanL S y 40).2:=by rw [rowsL]
theorem rowsL_len (S:List (Int × Int)):∀ y,(rowsL S y).length ≤ 40 * y
 | 0 => Nat.le_refl _
 | y + 1 => by
  have h:=rowsL_len S y
  have h2:=scanL_len S y 40
  unfold rowsL
  rw [List.length_append]
  omega
def cellsT12:Bool × List (List Nat × List Nat):=(true,[([],[]),([],[]),([0,1],[0,1]),([2],[2]),([],[]),([],[]),([5],[5]),([4,6],[4,6]),([7],[7]),([],[]),([],[]),([9,3,0,1,2,3,9,10],[3,9]),([10,8,11,0,1,2,3,4,5,6,7,8,9,10,11],[8,10])])
def cellsB12:List Nat:=[0,0,3,7,0,0,32,112,240,0,0,1551,4095]
theorem cells_tab12:rtab .any (opsOf Tryd.f67 12) = cellsT12:=by kernel_rfl
theorem cells_bits12:waitsOk cellsT12.2 cellsB12 = true:=by kernel_rfl
set_option maxRecDepth 100000 in
set_option maxHeartbeats 2000000 in
theorem cells_any (s:ByteArray) (hs40:s.size ≤ 40) (w:World) :
  Calls Tryd.prog 67 #[.string s] w fun e w' => ∃ v,e = .returned v ∧ Kd.R k84 84 w' w.heap.size (fun _ => True) v (cellsW s.data.toList) ∧ Below w.heap.size w w':=by
 have hmm:=@run_makeMap Tryd.prog
 have HK:=am_ (show impl_walk.f s = some (cornersL s.data.toList) from by unfold impl_walk.f; rw [if_pos (by omega)])
 have hlen:(cornersL s.data.toList).length = s.size + 1:=by rw [cornersL_len]; simp
 have hn:s.data.toList.length = s.size:=by simp
 have HBd:=am_ (cornersL_bound s.data.toList (by rw [hn]; omega))
 unfold cellsW
 rw [hn]
 generalize cornersL s.data.toList = cs at hlen HK HBd ⊢
 clear hn
 go_enter Tryd.func67,Tryd.ntmps67
 go_wp2_with (first
  | (go_at_call 118; refine (impl_walk.calls s _ _ HK.out).mono ?_; rintro e w3 ⟨v,rfl,ho,hb3⟩; obtain ⟨A,c,rfl⟩:=Kd.R_slice ho; have HO:=am_ ho; clear ho; obtain ⟨ad,rfl,hz1,hz2⟩:=at_T84 (Kd.R_reads' HO.out).2.2 0 (by omega) (by rw [hlen]; omega); have hrd:rd_T84 cs 0 = cs.getD 0 ⟨0,0⟩:=rfl; rw [hrd] at hz1 hz2; (rw [show ((0:Int)).toNat = 0 from rfl,show 0 * 2 = 0 from rfl,Addr.add_zero'] at hz1 hz2); rw [hlen] at HO ⊢; have HB3:=am_ hb3; generalize hc0:cs.getD 0 ⟨0,0⟩ = c0 at hz1 hz2; have HC0:=am_ hc0; clear hb3 hrd hc0)
  | ((with_reducible refine gate_dst (N:=4) rfl ?_); refine boxE_ (N:=4) (cs:=#[.int .i64 0,.int .i64 0]) (t:=84) ?_; intro bl hg w4 hbox hb; have HB4:=am_ (below_step (by first | exact HB3.out | exact pw_below_drewN HB3.out _) hb); have HO4:Aside0 (Kd.R k84 84 w4 w.heap.size (fun k => k < bl) (.slice (some ad) (s.size + 1) c) cs):=⟨Kd.R_below (Kd.R_mono (Kd.R_bound HO.out) (fun k hk => by have:=hk.2.2.1; omega)) hb⟩; have BL:=am_ hbox; have GL:=am_ (show w.heap.size ≤ bl by have:=HB3.out.size; rw [hg]; exact this); have hs4:w4.cell? ⟨bl,0,none⟩ = some (.int .i64 0):=(bc_ hbox 0).trans rfl; have hf4:=bz_ hbox 0; have hs5:w4.cell? ⟨bl,1,none⟩ = some (.int .i64 0):=(bc_ hbox 1).trans rfl; have hf5:=bz_ hbox 1; clear hg hb hbox))
 go_loopg [22] (s.size + 1) (fun gg u22 wr => ∃ i:Nat,i ≤ s.size + 1 ∧ s.size + 1 - i ≤ gg ∧ u22 = .int .i64 i ∧ Aside0 (wr.heap[bl]? = some (.cells #[.int .i64 (lowL cs i).f0,.int .i64 (lowL cs i).f1] 84 (0,0))) ∧ Aside0 (Kd.R k84 84 wr w.heap.size (fun k => k < bl) (.slice (some ad) (s.size + 1) c) cs) ∧ Aside0 (Below w.heap.size w wr))
 case atStart =>
  have hl0:lowL cs 0 = c0:=HC0.out
  exact ⟨0,Nat.zero_le _,by omega,rfl,⟨by rw [hl0]; exact blk_put (cs:=#[.int .i64 c0.f0,.int .i64 0]) (blk_put (cs:=#[.int .i64 0,.int .i64 0]) BL.out 0 _ rfl) 1 _ rfl⟩,⟨Kd.R_far (Kd.R_far HO4.out (fun k hk => by simp; omega) _) (fun k hk => by simp; omega) _⟩,⟨below_set (below_set HB4.out GL.out) GL.out⟩⟩
 case round =>
  clear BL HO4 HB4 hs4 hf4 hs5 hf5
  obtain ⟨i,hi,hgg,rfl,BL,HO,HB⟩:=hrel
  by_cases hlt:i < s.size + 1
  ·have hltz:(i:Int) < ((s.size + 1:Nat):Int):=by omega
   obtain ⟨ad',he',hx1,hx2⟩:=at_T84 (Kd.R_reads' HO.out).2.2 (i:Int) (by omega) (by rw [hlen]; omega)
   cases he'
   have hrc:rd_T84 cs (i:Int) = cs.getD i ⟨0,0⟩:=by unfold rd_T84; rw [Int.toNat_natCast]; rfl
   rw [hrc,Int.toNat_natCast] at hx1 hx2
   have hsuc:lowL cs (i + 1) = ⟨if (cs.getD i ⟨0,0⟩).f0 < (lowL cs i).f0 then (cs.getD i ⟨0,0⟩).f0 else (lowL cs i).f0,if (cs.getD i ⟨0,0⟩).f1 < (lowL cs i).f1 then (cs.getD i ⟨0,0⟩).f1 else (lowL cs i).f1⟩:=rfl
   generalize cs.getD i ⟨0,0⟩ = ce at hx1 hx2 hsuc
   generalize lowL cs i = lo at BL hsuc
   generalize hq0:(if ce.f0 < lo.f0 then ce.f0 else lo.f0) = q0 at hsuc
   generalize hq1:(if ce.f1 < lo.f1 then ce.f1 else lo.f1) = q1 at hsuc
   have HS:=am_ hsuc
   clear hsuc hrc
   go_wp2_with (first
    | ((with_reducible refine gate_dst (N:=6) rfl ?_); refine boxE_ (N:=6) (cs:=#[.int .i64 0,.int .i64 0]) (t:=84) ?_; intro b6 hg w6 hbox hb; have HB6:=am_ (below_step (by first | exact HB.out | exact pw_below_drewN HB.out _) hb); have HO6:=am_ (Kd.R_below HO.out hb); have BL6:=am_ (blk_below BL.out hb); have hne:=Nat.ne_of_lt (show bl < b6 by rw [hg]; exact blk_lt BL.out); have hne2:=hne.symm; have h60:w6.cell? ⟨b6,0,none⟩ = some (.int .i64 0):=(bc_ hbox 0).trans rfl; have hf60:=bz_ hbox 0; have h61:w6.cell? ⟨b6,1,none⟩ = some (.int .i64 0):=(bc_ hbox 1).trans rfl; have hf61:=bz_ hbox 1; have hl0:w6.cell? ⟨bl,0,none⟩ = some (.int .i64 lo.f0):=(bc_ BL6.out 0).trans rfl; have hfl0:=bz_ BL6.out 0; have hl1:w6.cell? ⟨bl,1,none⟩ = some (.int .i64 lo.f1):=(bc_ BL6.out 1).trans rfl; have hfl1:=bz_ BL6.out 1; have hG6:=am_ (show bl < b6 by rw [hg]; exact blk_lt BL.out); clear hg hb hbox))
   go_roundg (s.size + 1 - (i + 1))
   case measure => omega
   case rel => exact ⟨i + 1,by omega,by omega,by go_num,⟨by rw [HS.out]; exact blk_put (cs:=#[.int .i64 q0,.int .i64 lo.f1]) (blk_put (cs:=#[.int .i64 lo.f0,.int .i64 lo.f1]) (blk_far (blk_far BL6.out hne _) hne _) 0 _ rfl) 1 _ rfl⟩,⟨Kd.R_far (Kd.R_far (Kd.R_far (Kd.R_far HO6.out (fun k hk => by have:=hG6.out; simp; omega) _) (fun k hk => by have:=hG6.out; simp; omega) _) (fun k hk => by simp; omega) _) (fun k hk => by simp; omega) _⟩,⟨below_set (below_set (below_set (below_set HB6.out (Nat.le_trans GL.out (Nat.le_of_lt hG6.out))) (Nat.le_trans GL.out (Nat.le_of_lt hG6.out))) GL.out) GL.out⟩⟩
  ·have hltz:¬ (i:Int) < ((s.size + 1:Nat):Int):=by omega
   have hie:i = s.size + 1:=by omega
   subst hie
   have HLo:=am_ (lowL_bd cs HBd.out (s.size + 1))
   have HLoE:∃ lo,lowL cs (s.size + 1) = lo:=⟨_,rfl⟩
   obtain ⟨lo,hLoE⟩:=HLoE
   have HLoE:=am_ hLoE
   rw [hLoE] at BL HLo
   clear hLoE
   go_wp2_with fail
   have HM0:Aside0 (MapIs (wr.alloc (.map #[] 0)) Tryd.prog 84 wr.heap.size 0 cornV (inP [])):=⟨(MapIs.made wr Tryd.prog 84 cornV).congr (fun c kl _ => by unfold inP; simp)⟩
   have HB0:Aside0 (Below w.heap.size w (wr.alloc (.map #[] 0))):=⟨below_alloc HB.out _⟩
   have HO0:=am_ (Kd.R_alloc HO.out (.map #[] 0))
   have BL0:=am_ (blk_alloc BL.out (.map #[] 0))
   have GM:Aside0 (bl < wr.heap.size):=⟨blk_lt BL.out⟩
   clear HB HO BL hmm
   generalize wr.heap.size = bm at HM0 GM ⊢
   generalize wr.alloc (.map #[] 0) = W0 at HM0 HB0 HO0 BL0 ⊢
   go_loopg [41] s.size (fun gg u41 wr => ∃ i:Nat,i ≤ s.size ∧ s.size - i ≤ gg ∧ u41 = .int .i64 i ∧ Aside0 (MapIs wr Tryd.prog 84 bm (upsL cs lo i).length cornV (inP (upsL cs lo i))) ∧ Aside0 (wr.heap[bl]? = some (.cells #[.int .i64 lo.f0,.int .i64 lo.f1] 84 (0,0))) ∧ Aside0 (Kd.R k84 84 wr w.heap.size (fun k => k < bl) (.slice (some ad) (s.size + 1) c) cs) ∧ Aside0 (Below w.heap.size w wr))
   case atStart => exact ⟨0,Nat.zero_le _,by omega,rfl,HM0,BL0,HO0,HB0⟩
   case round =>
    clear HM0 BL0 HO0 HB0
    obtain ⟨k,hk,hgg,rfl,HM,BL,HO,HB⟩:=hrel
    by_cases hlt:k < s.size
    ·have hltz:(k:Int) < (s.size:Int):=by omega
     obtain ⟨ad',he',hx1,hx2⟩:=at_T84 (Kd.R_reads' HO.out).2.2 (k:Int) (by omega) (by rw [hlen]; omega)
     cases he'
     obtain ⟨ad',he',hy1,hy2⟩:=at_T84 (Kd.R_reads' HO.out).2.2 ((k + 1:Nat):Int) (by omega) (by rw [hlen]; omega)
     cases he'
     have hrc:∀ j:Nat,rd_T84 cs (j:Int) = cs.getD j ⟨0,0⟩:=fun j => by unfold rd_T84; rw [Int.toNat_natCast]; rfl
     rw [hrc,Int.toNat_natCast] at hx1 hx2 hy1 hy2
     have hkz:((k:Int) < (s.size:Int) + 1) = True:=eq_true (by omega)
     have hk0:((0:Int) ≤ (k:Int) + 1) = True:=eq_true (by omega)
     have hk1:wrap64 ((k:Int) + 1) = ((k + 1:Nat):Int):=by unfold wrap64; omega
     have HU:Aside0 (upsL cs lo (k + 1) = if (cs.getD k ⟨0,0⟩).f0 = (cs.getD (k + 1) ⟨0,0⟩).f0 then insP (upsL cs lo k) ((cs.getD k ⟨0,0⟩).f0 - lo.f0,(if (cs.getD (k + 1) ⟨0,0⟩).f1 < (cs.getD k ⟨0,0⟩).f1 then (cs.getD (k + 1) ⟨0,0⟩).f1 else (cs.getD k ⟨0,0⟩).f1) - lo.f1) else upsL cs lo k):=⟨rfl⟩
     have HCb:=am_ (getD_bd cs HBd.out (k + 1))
     have HCa:=am_ (getD_bd cs HBd.out k)
     generalize cs.getD (k + 1) ⟨0,0⟩ = cb at HU HCb hx1 hx2 hy1 hy2 ⊢
     generalize hca:cs.getD k ⟨0,0⟩ = ca at HU HCa hx1 hx2 hy1 hy2 ⊢
     go_wp2_with fail
     have hx1:wr.drew.cell? (ad.add (k * 2)) = some (.int .i64 ca.f0):=hx1
     have hx2:wr.drew.cell? ⟨(ad.add (k * 2)).block,(ad.add (k * 2)).off + 1,none⟩ = some (.int .i64 ca.f1):=hx2
     have hy1:wr.drew.cell? (ad.add ((k + 1) * 2)) = some (.int .i64 cb.f0):=hy1
     have hy2:wr.drew.cell? ⟨(ad.add ((k + 1) * 2)).block,(ad.add ((k + 1) * 2)).off + 1,none⟩ = some (.int .i64 cb.f1):=hy2
     have HM2:=am_ (HM.out.below (below_drew (Below.refl _ _)))
     have BL2:=am_ (blk_drew BL.out)
     have HO2:=am_ (Kd.R_drew HO.out)
     have HB2:=am_ (below_drew1 HB.out)
     clear HM BL HO HB
     refine start_ (n:=13) (S:=fun w' => w'.cell? (ad.add (k * 2)) = some (.int .i64 ca.f0) ∧ w'.cell? ⟨(ad.add (k * 2)).block,(ad.add (k * 2)).off + 1,none⟩ = some (.int .i64 ca.f1) ∧ w'.cell? (ad.add ((k + 1) * 2)) = some (.int .i64 cb.f0) ∧ w'.cell? ⟨(ad.add ((k + 1) * 2)).block,(ad.add ((k + 1) * 2)).off + 1,none⟩ = some (.int .i64 cb.f1)) (ds:=[]) #[Ff,Ff,Ff,Ff,Ff,Ff,Ff,Ff,Ff,Ff,Ff,Ff,Ff] (by kernel_rfl) rfl rfl ⟨hx1,hx2,hy1,hy2⟩ (fun hHeld => ?_)
     refine with_tabW cells_tab12 cells_bits12 (fun HT_ HW_ => ?_)
     generalize wr.drew = W5 at HM2 BL2 HO2 HB2 hx1 hx2 hy1 hy2 hHeld ⊢
     have hS:∀ w',Below W5.heap.size W5 w' → w'.cell? (ad.add (k * 2)) = some (.int .i64 ca.f0) ∧ w'.cell? ⟨(ad.add (k * 2)).block,(ad.add (k * 2)).off + 1,none⟩ = some (.int .i64 ca.f1) ∧ w'.cell? (ad.add ((k + 1) * 2)) = some (.int .i64 cb.f0) ∧ w'.cell? ⟨(ad.add ((k + 1) * 2)).block,(ad.add ((k + 1) * 2)).off + 1,none⟩ = some (.int .i64 cb.f1):=fun w' hb => ⟨(hb.cell (wl_ W5 _ hx1)).trans hx1,(hb.cell (wl_ W5 _ hx2)).trans hx2,(hb.cell (wl_ W5 _ hy1)).trans hy1,(hb.cell (wl_ W5 _ hy2)).trans hy2⟩
     refine pZ (i:=0) (N:=some 44) #[Tt,Ff,Ff,Ff,Ff,Ff,Ff,Ff,Ff,Ff,Ff,Ff,Ff] ?_
     refine pZ (i:=1) (N:=some 45) #[Tt,Tt,Ff,Ff,Ff,Ff,Ff,Ff,Ff,Ff,Ff,Ff,Ff] ?_
     refine pZ (i:=2) (N:=some 46) #[Tt,Tt,Tt,Ff,Ff,Ff,Ff,Ff,Ff,Ff,Ff,Ff,Ff] ?_
     refine pZ (i:=4) (N:=some 48) #[Tt,Tt,Tt,Ff,Tt,Ff,Ff,Ff,Ff,Ff,Ff,Ff,Ff] ?_
     refine pZ (i:=5) (N:=some 49) #[Tt,Tt,Tt,Ff,Tt,Tt,Ff,Ff,Ff,Ff,Ff,Ff,Ff] ?_
     refine pZ (i:=6) (N:=some 50) #[Tt,Tt,Tt,Ff,Tt,Tt,Tt,Ff,Ff,Ff,Ff,Ff,Ff] ?_
     refine pZ (i:=7) (N:=some 51) #[Tt,Tt,Tt,Ff,Tt,Tt,Tt,Tt,Ff,Ff,Ff,Ff,Ff] ?_
     refine tZ (i:=3) (N:=some 47) #[Tt,Tt,Tt,Tt,Tt,Tt,Tt,Tt,Ff,Ff,Ff,Ff,Ff] ?_
     refine tZ (i:=8) (N:=some 52) #[Tt,Tt,Tt,Tt,Tt,Tt,Tt,Tt,Tt,Ff,Ff,Ff,Ff] ?_
     refine join_ (σ:=Nat × Nat) 2 #[Tt,Tt,Tt,Tt,Tt,Tt,Tt,Tt,Tt,Tt,Tt,Ff,Ff] (fun s_ => [(9,.pointer (some ⟨s_.1,0,none⟩)),(10,.pointer (some ⟨s_.2,0,none⟩))]) (fun s_ w' => Below W5.heap.size W5 w' ∧ w'.heap[s_.1]? = some (.cells #[.int .i64 0,.int .i64 0] 84 (0,0)) ∧ w'.heap[s_.2]? = some (.cells #[.int .i64 0,.int .i64 0] 84 (0,0)) ∧ W5.heap.size ≤ s_.1 ∧ W5.heap.size ≤ s_.2 ∧ s_.1 ≠ s_.2) ?_ ?_
     rotate_left
     ·intro hCont
      refine two_ (i:=9) (j:=10) (Ni:=some 9) (Nj:=some 10) #[Tt,Tt,Tt,Tt,Tt,Tt,Tt,Tt,Tt,Tt,Ff,Ff,Ff] #[Tt,Tt,Tt,Tt,Tt,Tt,Tt,Tt,Tt,Ff,Tt,Ff,Ff] rfl rfl rfl rfl (two_of HT_.out (by kernel_rfl)) (by decide) (by decide) (fun K hK => ?_) (fun K hK => ?_)
      ·refine box_step ?hg (N:=9) ?hd (cs:=#[.int .i64 0,.int .i64 0]) (t:=84) ?hr ?_; (case hd => rfl); (case hg => rfl); (case hr => first | (go_simp; done) | (go_simp; rfl))
       intro b9 hg w6 hbox hb
       have hg:W5.heap.size ≤ b9:=by rw [hg]; exact Nat.le_refl _
       refine hK.out _ _ (hS _ hb) (fun hHeld => ?_)
       clear hK K
       refine norm_ (a':=_) ap_ ?_
       refine one_ (i:=10) (N:=some 10) #[Tt,Tt,Tt,Tt,Tt,Tt,Tt,Tt,Tt,Tt,Tt,Ff,Ff] rfl rfl (one_of HT_.out (by kernel_rfl)) (by decide) (fun K hK => ?_)
       refine box_step ?hg (N:=10) ?hd (cs:=#[.int .i64 0,.int .i64 0]) (t:=84) ?hr ?_; (case hd => rfl); (case hg => rfl); (case hr => first | (go_simp; done) | (go_simp; rfl))
       intro b10 hg2 w7 hbox2 hb2
       have hne:b9 < b10:=by rw [hg2]; exact blk_lt hbox
       have hb3:=below_step hb hb2
       refine hK.out _ _ (hS _ hb3) (fun hHeld => ?_)
       clear hK K
       refine norm_ (a':=_) ap_ ?_
       exact norm_ (by simp only [putAll,Act.put,List.setIfInBounds_toArray,List.set_cons_zero,List.set_cons_succ]) (hCont (b9,b10) _ ⟨hb3,(blk_below hbox hb2),hbox2,hg,(Nat.le_trans hg (Nat.le_of_lt hne)),Nat.ne_of_lt hne⟩)
      ·refine box_step ?hg (N:=10) ?hd (cs:=#[.int .i64 0,.int .i64 0]) (t:=84) ?hr ?_; (case hd => rfl); (case hg => rfl); (case hr => first | (go_simp; done) | (go_simp; rfl))
       intro b10 hg w6 hbox hb
       have hg:W5.heap.size ≤ b10:=by rw [hg]; exact Nat.le_refl _
       refine hK.out _ _ (hS _ hb) (fun hHeld => ?_)
       clear hK K
       refine norm_ (a':=_) ap_ ?_
       refine one_ (i:=9) (N:=some 9) #[Tt,Tt,Tt,Tt,Tt,Tt,Tt,Tt,Tt,Tt,Tt,Ff,Ff] rfl rfl (one_of HT_.out (by kernel_rfl)) (by decide) (fun K hK => ?_)
       refine box_step ?hg (N:=9) ?hd (cs:=#[.int .i64 0,.int .i64 0]) (t:=84) ?hr ?_; (case hd => rfl); (case hg => rfl); (case hr => first | (go_simp; done) | (go_simp; rfl))
       intro b9 hg2 w7 hbox2 hb2
       have hne:b10 < b9:=by rw [hg2]; exact blk_lt hbox
       have hb3:=below_step hb hb2
       refine hK.out _ _ (hS _ hb3) (fun hHeld => ?_)
       clear hK K
       refine norm_ (a':=_) ap_ ?_
       exact norm_ (by simp only [putAll,Act.put,List.setIfInBounds_toArray,List.set_cons_zero,List.set_cons_succ]) (hCont (b9,b10) _ ⟨hb3,hbox2,(blk_below hbox hb2),(Nat.le_trans hg (Nat.le_of_lt hne)),hg,Nat.ne_of_gt hne⟩)
     rintro ⟨b9,b10⟩ w8 ⟨hb8,h9,h10,g9,g10,hne⟩
     have hHeld:=hS w8 hb8
     refine norm_ (a':=?_) ?_ ?_
     rotate_left
     ·simp only [putAll,Act.put,List.setIfInBounds_toArray,List.set_cons_zero,List.set_cons_succ]
      rfl
     have hne2:=hne.symm
     have hs90:w8.cell? ⟨b9,0,none⟩ = some (.int .i64 0):=(bc_ h9 0).trans rfl
     have hs91:w8.cell? ⟨b9,1,none⟩ = some (.int .i64 0):=(bc_ h9 1).trans rfl
     have hf90:=bz_ h9 0
     have hf91:=bz_ h9 1
     have hs100:w8.cell? ⟨b10,0,none⟩ = some (.int .i64 0):=(bc_ h10 0).trans rfl
     have hs101:w8.cell? ⟨b10,1,none⟩ = some (.int .i64 0):=(bc_ h10 1).trans rfl
     have hf100:=bz_ h10 0
     have hf101:=bz_ h10 1
     refine one_ (i:=11) (N:=none) #[Tt,Tt,Tt,Tt,Tt,Tt,Tt,Tt,Tt,Tt,Tt,Tt,Ff] rfl rfl (one_of HT_.out (by kernel_rfl)) (by decide) (fun K hK => ?_)
     refine skip_ (w1:=?_) (by rfl) rfl ?_ ?_
     rotate_left
     ·go_simp
      rfl
     refine hK.out _ _ (hS _ (below_set (below_set hb8 g9) g9)) (fun hHeld => ?_)
     clear hK K
     refine one_ (i:=12) (N:=none) #[Tt,Tt,Tt,Tt,Tt,Tt,Tt,Tt,Tt,Tt,Tt,Tt,Tt] rfl rfl (one_of HT_.out (by kernel_rfl)) (by decide) (fun K hK => ?_)
     refine skip_ (w1:=?_) (by rfl) rfl ?_ ?_
     rotate_left
     ·go_simp
      rfl
     refine hK.out _ _ (hS _ (below_set (below_set (below_set (below_set hb8 g9) g9) g10) g10)) (fun hHeld => ?_)
     clear hK K
     refine done_ (done_of HT_.out (by kernel_rfl)) ?_
     have hb9:=below_set (j:=1) (v:=.int .i64 cb.f1) (below_set (j:=0) (v:=.int .i64 cb.f0) (below_set (j:=1) (v:=.int .i64 ca.f1) (below_set (j:=0) (v:=.int .i64 ca.f0) hb8 g9) g9) g10) g10
     generalize hW9:(((w8.setCell ⟨b9,0,none⟩ (.int .i64 ca.f0)).setCell ⟨b9,1,none⟩ (.int .i64 ca.f1)).setCell ⟨b10,0,none⟩ (.int .i64 cb.f0)).setCell ⟨b10,1,none⟩ (.int .i64 cb.f1) = W9 at hb9 ⊢
     have K9:W9.heap[b9]? = some (.cells #[.int .i64 ca.f0,.int .i64 ca.f1] 84 (0,0)):=by rw [← hW9]; exact blk_far (blk_far (blk_put (cs:=#[.int .i64 ca.f0,.int .i64 0]) (blk_put (cs:=#[.int .i64 0,.int .i64 0]) h9 0 _ rfl) 1 _ rfl) hne _) hne _
     have K10:W9.heap[b10]? = some (.cells #[.int .i64 cb.f0,.int .i64 cb.f1] 84 (0,0)):=by rw [← hW9]; exact blk_put (cs:=#[.int .i64 cb.f0,.int .i64 0]) (blk_put (cs:=#[.int .i64 0,.int .i64 0]) (blk_far (blk_far h10 hne2 _) hne2 _) 0 _ rfl) 1 _ rfl
     have HB9:=am_ (below_step HB2.out hb9)
     have HO9:=am_ (Kd.R_below HO2.out hb9)
     have BL9:=am_ (blk_below BL2.out hb9)
     have HM9:=am_ (HM2.out.below hb9)
     have hd0:W9.cell? ⟨b9,0,none⟩ = some (.int .i64 ca.f0):=(bc_ K9 0).trans rfl
     have hd1:W9.cell? ⟨b9,1,none⟩ = some (.int .i64 ca.f1):=(bc_ K9 1).trans rfl
     have hd2:W9.cell? ⟨b10,0,none⟩ = some (.int .i64 cb.f0):=(bc_ K10 0).trans rfl
     have hd3:W9.cell? ⟨b10,1,none⟩ = some (.int .i64 cb.f1):=(bc_ K10 1).trans rfl
     have hd4:W9.cell? ⟨bl,0,none⟩ = some (.int .i64 lo.f0):=(bc_ BL9.out 0).trans rfl
     have hd5:W9.cell? ⟨bl,1,none⟩ = some (.int .i64 lo.f1):=(bc_ BL9.out 1).trans rfl
     clear hW9 K9 K10 hs90 hs91 hf90 hf91 hs100 hs101 hf100 hf101 hb8 h9 h10 hHeld HT_ HW_ hS hx1 hx2 hy1 hy2 HM2 BL2 HO2 HB2 hb9
     by_cases heq:ca.f0 = cb.f0
     ·have heqb:(ca.f0 == cb.f0) = true:=by rw [heq]; exact beq_self_eq_true _
      generalize hq:(if cb.f1 < ca.f1 then cb.f1 else ca.f1) = q at HU
      have hqb:-1000 ≤ q ∧ q ≤ 1000:=by have h1:=HCa.out; have h2:=HCb.out; rw [← hq]; constructor <;> split <;> omega
      have hx0:-2000 ≤ ca.f0 - lo.f0 ∧ ca.f0 - lo.f0 ≤ 2000:=by have h1:=HCa.out; have h2:=HLo.out; omega
      have hy0:-2000 ≤ q - lo.f1 ∧ q - lo.f1 ≤ 2000:=by have h2:=HLo.out; omega
      generalize hX:ca.f0 - lo.f0 = X at HU hx0
      generalize hY:q - lo.f1 = Y at HU hy0
      have e1:wrap64 (ca.f0 - lo.f0) = X:=by rw [hX]; unfold wrap64; omega
      have e2:wrap64 (q - lo.f1) = Y:=by rw [hY]; unfold wrap64; omega
      have hln:=upsL_len cs lo k
      obtain ⟨wt,hst,hM2,ht⟩:=HM9.out.store cornKeyed Tryd.underlying142 (by unfold maxLen; omega) cornV_inj (cornKey X Y (i64_wf X (by omega) (by omega)) (i64_wf Y (by omega) (by omega))) (.bool true)
      have hst2:(Instr.mapUpdate 142 (.map (some bm)) (.agg #[.int .i64 X,.int .i64 Y]) (.bool true)).run Tryd.prog W9 = .ok () wt:=hst
      have HU2:upsL cs lo (k + 1) = insP (upsL cs lo k) (X,Y):=by rw [HU.out,if_pos heq]
      have HMn:Aside0 (MapIs wt Tryd.prog 84 bm (upsL cs lo (k + 1)).length cornV (inP (upsL cs lo (k + 1)))):=⟨by
       rw [HU2]
       unfold insP
       by_cases hin:(X,Y) ∈ upsL cs lo k
       ·rw [if_pos hin]
        have e:(inP (upsL cs lo k) (X,Y)).isSome = true:=by unfold inP; rw [if_pos hin]; rfl
        rw [e,if_pos rfl] at hM2
        exact hM2.congr (fun a kl _ => by unfold inP; by_cases ha:a = (X,Y) <;> simp [ha,hin])
       ·rw [if_neg hin]
        have e:(inP (upsL cs lo k) (X,Y)).isSome = false:=by unfold inP; rw [if_neg hin]; rfl
        rw [e,if_neg (by simp)] at hM2
        exact hM2.congr (fun a kl _ => by unfold inP; by_cases ha:a = (X,Y) <;> by_cases hb:a ∈ upsL cs lo k <;> simp [ha,hb])⟩
      have HOn:=am_ (Kd.R_grown HO9.out ht.grown (fun k hk e => by have:=GM.out; cases e; omega))
      have BLn:=am_ (blk_grown BL9.out ht.grown (fun e => by have:=GM.out; cases e; omega))
      have HBn:Aside0 (Below w.heap.size w wt):=⟨((FrameBut.of_below (O:=fun k => k = bm) HB9.out).turned ht (.inl rfl)).toBelow (Nat.le_refl _) (fun k hk e => by have h1:=GM.out; have h2:=GL.out; omega)⟩
      clear hst hM2 ht HM9 HO9 BL9 HB9 hqb hx0 hy0 hln HU2 HU hX hY heq
      go_wp2_with fail
      go_roundg (s.size - (k + 1))
      case measure => omega
      case rel => exact ⟨k + 1,by omega,by omega,by go_num,HMn,BLn,HOn,HBn⟩
     ·have heqb:(ca.f0 == cb.f0) = false:=by rw [beq_eq_false_iff_ne]; exact heq
      go_wp2_with fail
      go_roundg (s.size - (k + 1))
      case measure => omega
      case rel => exact ⟨k + 1,by omega,by omega,by go_num,⟨by rw [HU.out,if_neg heq]; exact HM9.out⟩,BL9,HO9,HB9⟩
    ·have hltz:¬ (k:Int) < (s.size:Int):=by omega
     have hke:k = s.size:=by omega
     subst hke
     have HUl:=am_ (upsL_len cs lo s.size)
     obtain ⟨U,hUE⟩:∃ U,upsL cs lo s.size = U:=⟨_,rfl⟩
     have HUE:=am_ hUE
     rw [hUE] at HM HUl
     clear hUE
     clear BL HLo HK HB3 hz1 hz2
     go_wp2_with fail
     have HO0:Aside0 (Kd.R k84 84 (wr.alloc (.cells #[] 84)) w.heap.size (fun k => k ≠ bm) (.slice (some ⟨wr.heap.size,0,none⟩) 0 0) (rowsL U 0)):=⟨Kd.R_mono (R_zeroC wr _ HB.out.size) (fun k hk => by have:=HM.out.lt; omega)⟩
     have HM0:=am_ (HM.out.alloc (.cells #[] 84))
     have HB0:=am_ (below_alloc HB.out (.cells #[] 84))
     clear HM HB HO
     generalize wr.heap.size = bo at HO0 ⊢
     generalize wr.alloc (.cells #[] 84) = W0 at HM0 HB0 HO0 ⊢
     go_loopg [11,75] 40 (fun gg u11 u75 wr => ∃ y:Nat,y ≤ 40 ∧ 40 - y ≤ gg ∧ u75 = .int .i64 y ∧ Aside0 (MapIs wr Tryd.prog 84 bm U.length cornV (inP U)) ∧ Aside0 (Kd.R k84 84 wr w.heap.size (fun k => k ≠ bm) u11 (rowsL U y)) ∧ Aside0 (Below w.heap.size w wr))
     case atStart => exact ⟨0,Nat.zero_le _,by omega,rfl,HM0,HO0,HB0⟩
     case round =>
      clear HM0 HO0 HB0
      obtain ⟨y,hy,hgy,rfl,HM,HO,HB⟩:=hrel
      by_cases hlt:y < 40
      ·have hltz:(y:Int) < 40:=by omega
       go_wp2_with fail
       have HO0:Aside0 (Kd.R k84 84 wr w.heap.size (fun k => k ≠ bm) u11 (rowsL U y ++ (scanL U y 0).2)):=⟨by show Kd.R _ _ _ _ _ _ (rowsL U y ++ []); rw [List.append_nil]; exact HO.out⟩
       clear HO
       go_loopg [11,13,78] 40 (fun gg u11 u13 u78 wr => ∃ x:Nat,x ≤ 40 ∧ 40 - x ≤ gg ∧ u78 = .int .i64 x ∧ u13 = .bool (scanL U y x).1 ∧ Aside0 (MapIs wr Tryd.prog 84 bm U.length cornV (inP U)) ∧ Aside0 (Kd.R k84 84 wr w.heap.size (fun k => k ≠ bm) u11 (rowsL U y ++ (scanL U y x).2)) ∧ Aside0 (Below w.heap.size w wr))
       case atStart => exact ⟨0,Nat.zero_le _,by omega,rfl,rfl,HM,HO0,HB⟩
       case round =>
        clear HM HO0 HB
        obtain ⟨x,hx,hgx,rfl,rfl,HM,HO,HB⟩:=hrel
        by_cases hxt:x < 40
        ·have hxtz:(x:Int) < 40:=by omega
         have hlk:(Instr.lookup 142 (.map (some bm)) (.agg #[.int .i64 (x:Int),.int .i64 (y:Int)]) false).run Tryd.prog wr = .ok (.bool (decide (((x:Int),(y:Int)) ∈ U))) wr:=by
          have h:=HM.out.look cornKeyed Tryd.underlying142 (z:=.bool false) (by kernel_rfl) (cornKey (x:Int) (y:Int) (i64_wf _ (by omega) (by omega)) (i64_wf _ (by omega) (by omega)))
          have e:(inP U ((x:Int),(y:Int))).getD (.bool false) = .bool (decide (((x:Int),(y:Int)) ∈ U)):=by unfold inP; by_cases hin:((x:Int),(y:Int)) ∈ U <;> simp [hin]
          rw [e] at h
          exact h
         have hl1:=rowsL_len U y
         have hl2:=scanL_len U y x
         have hll:(rowsL U y ++ (scanL U y x).2).length ≤ 2000:=by rw [List.length_append]; omega
         have hsc:scanL U y (x + 1) = (if decide (((x:Int),(y:Int)) ∈ U) then !(scanL U y x).1 else (scanL U y x).1,if (if decide (((x:Int),(y:Int)) ∈ U) then !(scanL U y x).1 else (scanL U y x).1) then (scanL U y x).2 ++ [⟨x,y⟩] else (scanL U y x).2):=by rw [scanL]; simp only [decide_eq_true_eq]
         generalize (scanL U y x).1 = b0 at hsc ⊢
         generalize (scanL U y x).2 = l0 at hsc hll HO ⊢
         generalize decide (((x:Int),(y:Int)) ∈ U) = d0 at hsc hlk
         clear hl1 hl2
         obtain ⟨A,c2,rfl⟩:=Kd.R_slice HO.out
         generalize hxs:rowsL U y ++ l0 = xs at HO hll ⊢
         cases d0 with
         | false =>
          cases b0 with
          | false =>
           go_wp2_with fail
           go_roundg (40 - (x + 1))
           case measure => omega
           case rel => exact ⟨x + 1,by omega,by omega,by go_num,by rw [hsc]; rfl,HM,⟨by rw [hsc]; show Kd.R _ _ _ _ _ _ (rowsL U y ++ l0); rw [hxs]; exact HO.out⟩,HB⟩
          | true =>
           go_wp2_with (first | (at_builtin; refine Kd.R_append k84 (w0:=w) w.heap.size rfl (.tmp 89) (.tmp 93) 80 84 (.agg #[(.int .i64 0),(.int .i64 0)]) 16 rfl Tryd.underlying80 info84 rfl (by decide) (by omega) (.slice A xs.length c2) xs ⟨(x:Int),(y:Int)⟩ [.int .i64 (x:Int),.int .i64 (y:Int)] (fun k => k ≠ bm) (fun _ => False) rfl rfl ?aP (fun _ hk => hk.elim) ?aF ?aO ?aB ?aS ?aL ?_; (case aP => exact k84_mkM _ _ _ (⟨(x:Int),(y:Int)⟩:S84)); (case aF => exact fun k hk => by have h_:=HM.out.lt; first | omega | (simp at hk; omega)); (case aO => exact HO.out); (case aB => exact HB.out); (case aS => exact HB.out.size); (case aL => omega); intro v1 w1 ho hb hg hat; have HOn:=am_ ho; have HBn:=am_ hb; have HMn:=am_ (HM.out.move (hg.block bm HM.out.lt (Kd.R_away HO.out (fun _ hk => hk)))); clear ho hb hg hat))
           go_roundg (40 - (x + 1))
           case measure => omega
           case rel => exact ⟨x + 1,by omega,by omega,by go_num,by rw [hsc]; rfl,HMn,⟨by rw [hsc]; show Kd.R _ _ _ _ _ _ (rowsL U y ++ (l0 ++ [⟨x,y⟩])); rw [← List.append_assoc,hxs]; exact HOn.out⟩,HBn⟩
         | true =>
          cases b0 with
          | false =>
           go_wp2_with (first | (at_builtin; refine Kd.R_append k84 (w0:=w) w.heap.size rfl (.tmp 89) (.tmp 93) 80 84 (.agg #[(.int .i64 0),(.int .i64 0)]) 16 rfl Tryd.underlying80 info84 rfl (by decide) (by omega) (.slice A xs.length c2) xs ⟨(x:Int),(y:Int)⟩ [.int .i64 (x:Int),.int .i64 (y:Int)] (fun k => k ≠ bm) (fun _ => False) rfl rfl ?aP (fun _ hk => hk.elim) ?aF ?aO ?aB ?aS ?aL ?_; (case aP => exact k84_mkM _ _ _ (⟨(x:Int),(y:Int)⟩:S84)); (case aF => exact fun k hk => by have h_:=HM.out.lt; first | omega | (simp at hk; omega)); (case aO => exact HO.out); (case aB => exact HB.out); (case aS => exact HB.out.size); (case aL => omega); intro v1 w1 ho hb hg hat; have HOn:=am_ ho; have HBn:=am_ hb; have HMn:=am_ (HM.out.move (hg.block bm HM.out.lt (Kd.R_away HO.out (fun _ hk => hk)))); clear ho hb hg hat))
           go_roundg (40 - (x + 1))
           case measure => omega
           case rel => exact ⟨x + 1,by omega,by omega,by go_num,by rw [hsc]; rfl,HMn,⟨by rw [hsc]; show Kd.R _ _ _ _ _ _ (rowsL U y ++ (l0 ++ [⟨x,y⟩])); rw [← List.append_assoc,hxs]; exact HOn.out⟩,HBn⟩
          | true =>
           go_wp2_with fail
           go_roundg (40 - (x + 1))
           case measure => omega
           case rel => exact ⟨x + 1,by omega,by omega,by go_num,by rw [hsc]; rfl,HM,⟨by rw [hsc]; show Kd.R _ _ _ _ _ _ (rowsL U y ++ l0); rw [hxs]; exact HO.out⟩,HB⟩
        ·have hxtz:¬ (x:Int) < 40:=by omega
         have hxe:x = 40:=by omega
         subst hxe
         go_wp2_with fail
         go_roundg (40 - (y + 1))
         case measure => omega
         case rel => exact ⟨y + 1,by omega,by omega,by go_num,HM,⟨by rw [rowsL_suc]; exact HO.out⟩,HB⟩
      ·have hltz:¬ (y:Int) < 40:=by omega
       have hye:y = 40:=by omega
       subst hye
       go_wp2_with fail
       go_ret
       rw [HLoE.out,HUE.out]
       exact ⟨_,rfl,Kd.R_mono HO.out (fun _ _ => trivial),HB.out⟩
def impl_cells.f (a0:ByteArray):Option (List S84):=if a0.size ≤ 40 then some (cellsW a0.data.toList) else none
theorem impl_cells.calls (a0:ByteArray) (r:List S84) (w:World) (h:impl_cells.f a0 = some r) :
  Calls Tryd.prog 67 #[.string a0] w fun e w' => ∃ v0_:Value,e = .returned v0_ ∧ Kd.R k84 84 w' w.heap.size (fun _ => True) v0_ r ∧ Below w.heap.size w w':=by
 unfold impl_cells.f at h
 split at h
 ·rename_i h0
  obtain rfl:=Option.some.inj h
  exact cells_any a0 h0 w
 ·cases h


def impl_sizeOf.l0:Nat → Int → Int → List (S84) → Int → Int → Option (Int × Int)
 | 0,_,_,_,_,_ => none
 | k + 1,x4,x5,x9,x10,x11 => if x11 < x10 then (if 0 ≤ x11 then (if x11 < (x9.length:Int) then (impl_sizeOf.l0 k (mx x4 (wrap64 (((rd_T84 x9 x11).f0) + 1))) (mx x5 (wrap64 (((rd_T84 x9 x11).f1) + 1))) x9 x10 (wrap64 (x11 + 1))) else (none)) else (none)) else (some (x4,x5))
def impl_sizeOf.f (k:Nat) (a0:ByteArray):Option (Int × Int):=(impl_cells.f a0).bind fun t826 => (impl_sizeOf.l0 k 0 0 t826 (t826.length:Int) 0)
theorem impl_sizeOf.mono_l:∀ k,(∀ y0 y1 y2 y3 y4,LeO (impl_sizeOf.l0 k y0 y1 y2 y3 y4) (impl_sizeOf.l0 (k + 1) y0 y1 y2 y3 y4))
 | 0 => fun _ _ _ _ _ r h => by simp [impl_sizeOf.l0] at h
 | k + 1 => by
  have ih0:=impl_sizeOf.mono_l k
  ·intro y0 y1 y2 y3 y4
   unfold impl_sizeOf.l0
   repeat' first | (with_reducible first | exact ih0 _ _ _ _ _ | exact LeO.refl _ | exact LeO.none _ | refine LeO.ite ?_ ?_ | refine LeO.bind ?_ (fun _ => ?_)) | exact ih0 _ _ _ _ _
theorem impl_sizeOf.mono:∀ a0 k,LeO (impl_sizeOf.f k a0) (impl_sizeOf.f (k + 1) a0):=by
 intro a0 k
 have ih0:=impl_sizeOf.mono_l k
 unfold impl_sizeOf.f
 repeat' first | (with_reducible first | exact ih0 _ _ _ _ _ | exact LeO.refl _ | exact LeO.none _ | refine LeO.ite ?_ ?_ | refine LeO.bind ?_ (fun _ => ?_)) | exact ih0 _ _ _ _ _
set_option maxHeartbeats 8000000 in
set_option maxRecDepth 100000 in
theorem impl_sizeOf.calls (k:Nat) (a0:ByteArray) (r1:Int) (r2:Int) (w:World) (h:impl_sizeOf.f k a0 = some (r1,r2)) :
  Calls Tryd.prog 66 #[.string a0] w fun e w' => e = .returned (.tuple #[.int .i64 r1,.int .i64 r2]) ∧ Below w.heap.size w w':=by
 have hu84:=Tryd.underlying84
 have HB:=am_ (Below.refl w.heap.size w)
 have H:((impl_cells.f a0).bind fun t826 => (impl_sizeOf.l0 k 0 0 t826 (t826.length:Int) 0)) = some (r1,r2):=h
 clear h
 replace H:=bi_ H
 obtain ⟨t826,A20,H⟩:=H
 replace H:(impl_sizeOf.l0 k 0 0 t826 (t826.length:Int) 0) = some (r1,r2):=H
 have A2:=am_ A20
 clear A20
 have H':=am_ H
 clear H
 go_enter Tryd.func66,Tryd.ntmps66
 go_wp2_with (first | (go_at_call 67; (with_reducible refine (impl_cells.calls a0 t826 _ A2.out).mono ?_); rintro e w3 ⟨v827,rfl,ho0,hb⟩; have n0_:=am_ (Kd.R_lower ho0 (below_size (bl0_ HB.out))); have n1_:=am_ (below_step (bl0_ HB.out) hb); clear HB; have HO828:=n0_; have HB:=n1_; clear n0_ n1_; (try clear hb); (try clear hb2); (try clear hk); (try clear hi); (try clear ho0); obtain ⟨Ao4,co4,eo4⟩:=Kd.R_slice HO828.out; subst eo4))
 repeat (go_quiet (first | (go_at_call 67; (with_reducible refine (impl_cells.calls a0 t826 _ A2.out).mono ?_); rintro e w3 ⟨v827,rfl,ho0,hb⟩; have n0_:=am_ (Kd.R_lower ho0 (below_size (bl0_ HB.out))); have n1_:=am_ (below_step (bl0_ HB.out) hb); clear HB; have HO828:=n0_; have HB:=n1_; clear n0_ n1_; (try clear hb); (try clear hb2); (try clear hk); (try clear hi); (try clear ho0); obtain ⟨Ao4,co4,eo4⟩:=Kd.R_slice HO828.out; subst eo4)); try go_wp2_with (first | (go_at_call 67; (with_reducible refine (impl_cells.calls a0 t826 _ A2.out).mono ?_); rintro e w3 ⟨v827,rfl,ho0,hb⟩; have n0_:=am_ (Kd.R_lower ho0 (below_size (bl0_ HB.out))); have n1_:=am_ (below_step (bl0_ HB.out) hb); clear HB; have HO828:=n0_; have HB:=n1_; clear n0_ n1_; (try clear hb); (try clear hb2); (try clear hk); (try clear hi); (try clear ho0); obtain ⟨Ao4,co4,eo4⟩:=Kd.R_slice HO828.out; subst eo4)))
 go_loopg [4,5,11] k (fun kq v4 v5 v11 w' => ∃ (x4_1:Int) (x5_1:Int) (x11_1:Int),v4 = .int .i64 x4_1 ∧ v5 = .int .i64 x5_1 ∧ v11 = .int .i64 x11_1 ∧ Aside0 (impl_sizeOf.l0 kq x4_1 x5_1 t826 (t826.length:Int) x11_1 = some (r1,r2)) ∧ Aside0 (kq ≤ k) ∧ Aside0 (Kd.R k84 84 w' w.heap.size (fun _ => True) (.slice Ao4 t826.length co4) t826) ∧ Aside0 (Below w.heap.size w w'))
 case atStart => exact ⟨(0),(0),(0),rs_,rs_,rs_,H',⟨Nat.le_refl _⟩,⟨kr_ HO828.out⟩,⟨bl0_ HB.out⟩⟩
 case round =>
  clear H'
  try clear p2
  obtain ⟨x4_1,x5_1,x11_1,rfl,rfl,rfl,HA,HK1,HO_9,HB⟩:=hrel
  cases gk with
  | zero => exact absurd HA.out (by simp [impl_sizeOf.l0])
  | succ k1 =>
   have H:=HA.out
   clear HA
   simp only [impl_sizeOf.l0] at H
   by_cases c5:x11_1 < (t826.length:Int)
   ·rw [if_pos c5] at H
    have c5b0:decide (x11_1 < (t826.length:Int)) = true:=decide_eq_true c5
    clear c5
    by_cases c6:0 ≤ x11_1
    ·rw [if_pos c6] at H
     have c6b0:decide (0 ≤ x11_1) = true:=decide_eq_true c6
     clear c6
     by_cases c7:x11_1 < (t826.length:Int)
     ·rw [if_pos c7] at H
      have c7b0:decide (x11_1 < (t826.length:Int)) = true:=decide_eq_true c7
      clear c7
      obtain ⟨ji8,hji8⟩:∃ j_:Int,(mx x4_1 (wrap64 (((rd_T84 t826 x11_1).f0) + 1))) = j_:=⟨_,rfl⟩
      replace H:(impl_sizeOf.l0 k1 ji8 (mx x5_1 (wrap64 (((rd_T84 t826 x11_1).f1) + 1))) t826 (t826.length:Int) (wrap64 (x11_1 + 1))) = some (r1,r2):=by first | (rw [hji8] at H; exact H) | (simp only [hji8] at H ⊢; exact H)
      have hji8_:(if x4_1 < (wrap64 (((rd_T84 t826 x11_1).f0) + 1)) then (wrap64 (((rd_T84 t826 x11_1).f0) + 1)) else x4_1) = ji8:=hji8
      obtain ⟨ji9,hji9⟩:∃ j_:Int,(mx x5_1 (wrap64 (((rd_T84 t826 x11_1).f1) + 1))) = j_:=⟨_,rfl⟩
      replace H:(impl_sizeOf.l0 k1 ji8 ji9 t826 (t826.length:Int) (wrap64 (x11_1 + 1))) = some (r1,r2):=by first | (rw [hji9] at H; exact H) | (simp only [hji9] at H ⊢; exact H)
      have hji9_:(if x5_1 < (wrap64 (((rd_T84 t826 x11_1).f1) + 1)) then (wrap64 (((rd_T84 t826 x11_1).f1) + 1)) else x5_1) = ji9:=hji9
      have H':=am_ H
      clear H
      have p829:0 ≤ (x11_1:Int):=of_decide_eq_true as_
      have q829:x11_1 < (t826.length:Int):=of_decide_eq_true as_
      obtain ⟨ad829,e829,hx829_0,hx829_1⟩:=at_T84 (Kd.R_reads' HO_9.out).2.2 x11_1 p829 q829
      cases e829
      replace p829:=eq_true p829
      replace q829:=eq_true q829
      go_wp2_with (first | ((with_reducible refine gate_dst (N:=7) rfl ?_); refine boxE_ (N:=7) (cs:=#[.int .i64 0,.int .i64 0]) (t:=84) ?_; intro gb830 hg w10 hbox hb; have n0_:=am_ (Kd.R_below (Kd.R_elderB (kr_ HO_9.out) gb830 (Nat.le_of_eq hg.symm)) hb); have n1_:=am_ (below_step (bl0_ HB.out) hb); have n2_:=am_ (hbox); have n3_:=am_ ((bs0_ hg HB.out:w.heap.size ≤ gb830)); have n4_:=am_ ((bs0_ hg HB.out:w.heap.size ≤ gb830)); clear HO_9; clear HB; have HO_9:=n0_; have HB:=n1_; have BK830:=n2_; have GW830:=n3_; have GE830:=n4_; clear n0_ n1_ n2_ n3_ n4_; clear hb hbox hg; have hcz11_0:w10.cell? ⟨gb830,0,none⟩ = some (.int .i64 0):=(bc_ BK830.out 0).trans rfl; have hcz11_1:w10.cell? ⟨gb830,1,none⟩ = some (.int .i64 0):=(bc_ BK830.out 1).trans rfl; have hfz11_0:=bz_ BK830.out 0; have hfz11_1:=bz_ BK830.out 1))
      repeat (go_quiet (first | ((with_reducible refine gate_dst (N:=7) rfl ?_); refine boxE_ (N:=7) (cs:=#[.int .i64 0,.int .i64 0]) (t:=84) ?_; intro gb830 hg w10 hbox hb; have n0_:=am_ (Kd.R_below (Kd.R_elderB (kr_ HO_9.out) gb830 (Nat.le_of_eq hg.symm)) hb); have n1_:=am_ (below_step (bl0_ HB.out) hb); have n2_:=am_ (hbox); have n3_:=am_ ((bs0_ hg HB.out:w.heap.size ≤ gb830)); have n4_:=am_ ((bs0_ hg HB.out:w.heap.size ≤ gb830)); clear HO_9; clear HB; have HO_9:=n0_; have HB:=n1_; have BK830:=n2_; have GW830:=n3_; have GE830:=n4_; clear n0_ n1_ n2_ n3_ n4_; clear hb hbox hg; have hcz11_0:w10.cell? ⟨gb830,0,none⟩ = some (.int .i64 0):=(bc_ BK830.out 0).trans rfl; have hcz11_1:w10.cell? ⟨gb830,1,none⟩ = some (.int .i64 0):=(bc_ BK830.out 1).trans rfl; have hfz11_0:=bz_ BK830.out 0; have hfz11_1:=bz_ BK830.out 1)); try go_wp2_with (first | ((with_reducible refine gate_dst (N:=7) rfl ?_); refine boxE_ (N:=7) (cs:=#[.int .i64 0,.int .i64 0]) (t:=84) ?_; intro gb830 hg w10 hbox hb; have n0_:=am_ (Kd.R_below (Kd.R_elderB (kr_ HO_9.out) gb830 (Nat.le_of_eq hg.symm)) hb); have n1_:=am_ (below_step (bl0_ HB.out) hb); have n2_:=am_ (hbox); have n3_:=am_ ((bs0_ hg HB.out:w.heap.size ≤ gb830)); have n4_:=am_ ((bs0_ hg HB.out:w.heap.size ≤ gb830)); clear HO_9; clear HB; have HO_9:=n0_; have HB:=n1_; have BK830:=n2_; have GW830:=n3_; have GE830:=n4_; clear n0_ n1_ n2_ n3_ n4_; clear hb hbox hg; have hcz11_0:w10.cell? ⟨gb830,0,none⟩ = some (.int .i64 0):=(bc_ BK830.out 0).trans rfl; have hcz11_1:w10.cell? ⟨gb830,1,none⟩ = some (.int .i64 0):=(bc_ BK830.out 1).trans rfl; have hfz11_0:=bz_ BK830.out 0; have hfz11_1:=bz_ BK830.out 1)))
      go_roundg k1
      case measure => have:=HK1.out; omega
      case rel => exact ⟨(ji8),(ji9),(wrap64 (x11_1 + 1)),(by first | rfl | (simp; done) | (simp only [← hji8] <;> (first | rfl | simp)) | (simp [*]; done)),(by first | rfl | (simp; done) | (simp only [← hji9] <;> (first | rfl | simp)) | (simp [*]; done)),rs_,H',⟨by have:=HK1.out; omega⟩,⟨by (with_reducible repeat (first | apply Kd.R_alloc | apply Kd.R_drewN | apply Kd.R_drew)); exact Kd.R_mono (Kd.R_far (p:=⟨gb830,1,none⟩) (Kd.R_far (p:=⟨gb830,0,none⟩) (Kd.R_mono HO_9.out (fun k_ hk => (⟨hk,hk.2⟩:_ ∧ k_ ≠ gb830))) (fun _ hk => hk.2) (.int .i64 ((rd_T84 t826 x11_1).f0))) (fun _ hk => hk.2) (.int .i64 ((rd_T84 t826 x11_1).f1))) (fun _ hk => trivial)⟩,⟨bl1_ HB.out GE830.out⟩⟩
     ·rw [if_neg c7] at H
      exact absurd H (by simp)
    ·rw [if_neg c6] at H
     exact absurd H (by simp)
   ·rw [if_neg c5] at H
    have c5b0:decide (x11_1 < (t826.length:Int)) = false:=decide_eq_false c5
    clear c5
    simp only [Option.some.injEq,Prod.mk.injEq] at H
    obtain ⟨rfl,rfl⟩:=H
    go_wp2
    repeat (go_quiet (fail); try go_wp2)
    go_ret2
    exact ⟨er_,bl0_ HB.out⟩


def impl_grid_isCell.f (a0_0:Int) (a0_1:Int) (a1:Int) (a2:Int):Option (Bool):=(impl_within.f a1 0 (wrap64 (a0_0 - 1))).bind fun t832 => (if t832 = true then ((impl_within.f a2 0 (wrap64 (a0_1 - 1))).bind fun t833 => (some t833)) else (some false))
set_option maxHeartbeats 8000000 in
set_option maxRecDepth 100000 in
theorem impl_grid_isCell.calls (a0_0:Int) (a0_1:Int) (a1:Int) (a2:Int) (r:Bool) (w:World) (h:impl_grid_isCell.f a0_0 a0_1 a1 a2 = some r) :
    Calls Tryd.prog 148 #[.agg #[.int .i64 a0_0,.int .i64 a0_1],.int .i64 a1,.int .i64 a2] w fun e w' => e = .returned (.bool r) ∧ Below w.heap.size w w':=by
  have hu75:=Tryd.underlying75
  have HB:=am_ (Below.refl w.heap.size w)
  have H:((impl_within.f a1 0 (wrap64 (a0_0 - 1))).bind fun t832 => (if t832 = true then ((impl_within.f a2 0 (wrap64 (a0_1 - 1))).bind fun t833 => (some t833)) else (some false))) = some r:=h
  clear h
  replace H:=bi_ H
  obtain ⟨t832,A40,H⟩:=H
  replace H:(if t832 = true then ((impl_within.f a2 0 (wrap64 (a0_1 - 1))).bind fun t833 => (some t833)) else (some false)) = some r:=H
  have A4:=am_ A40
  clear A40
  by_cases c5:t832 = true
  · subst c5
    have H1:((impl_within.f a2 0 (wrap64 (a0_1 - 1))).bind fun t833 => (some t833)) = some r:=by rw [if_pos rfl] at H; exact H
    clear H
    have H:=H1
    clear H1
    replace H:=bi_ H
    obtain ⟨t833,A60,H⟩:=H
    replace H:(some t833) = some r:=H
    have A6:=am_ A60
    clear A60
    obtain rfl:=Option.some.inj H
    go_enter Tryd.func148,Tryd.ntmps148
    go_wp2_with (first | ((with_reducible refine gate_dst (N:=3) rfl ?_); refine boxE_ (N:=3) (cs:=#[.int .i64 a0_0,.int .i64 a0_1]) (t:=75) ?_; intro gb831 hg w7 hbox hb; have n0_:=am_ (below_step (bl0_ HB.out) hb); have n1_:=am_ (hbox); have n2_:=am_ ((bs0_ hg HB.out:w.heap.size ≤ gb831)); have n3_:=am_ ((bs0_ hg HB.out:w.heap.size ≤ gb831)); clear HB; have HB:=n0_; have BK831:=n1_; have GW831:=n2_; have GE831:=n3_; clear n0_ n1_ n2_ n3_; clear hb hbox hg; have hcz8_0:w7.cell? ⟨gb831,0,none⟩ = some (.int .i64 a0_0):=(bc_ BK831.out 0).trans rfl; have hcz8_1:w7.cell? ⟨gb831,1,none⟩ = some (.int .i64 a0_1):=(bc_ BK831.out 1).trans rfl; have hfz8_0:=bz_ BK831.out 0; have hfz8_1:=bz_ BK831.out 1) | ((with_reducible refine gate_callee (f:=100) rfl ?_); refine goesL_ (some 11) rfl rfl Tryd.func100 (by kernel_rfl) rfl #[.int .i64 a1,.int .i64 0,.int .i64 (wrap64 (a0_0 - 1))] rfl ob_ ?_; (with_reducible refine (impl_within.calls a1 0 (wrap64 (a0_0 - 1)) true _ A4.out).mono ?_); rintro e w' ⟨rfl,⟨nd,rfl⟩⟩; refine ⟨_,rfl,?_⟩) | (go_at_call 100; (with_reducible refine (impl_within.calls a2 0 (wrap64 (a0_1 - 1)) t833 _ A6.out).mono ?_); rintro e w' ⟨rfl,⟨nd,rfl⟩⟩))
    go_ret
    exact ⟨er_,bl1_ HB.out GE831.out⟩
  · replace c5:=Bool.eq_false_iff.mpr c5
    subst c5
    have H1:(some false) = some r:=by rw [if_neg (show ¬ (false = true) by decide)] at H; exact H
    clear H
    have H:=H1
    clear H1
    obtain rfl:=Option.some.inj H
    go_enter Tryd.func148,Tryd.ntmps148
    go_wp2_with (first | ((with_reducible refine gate_dst (N:=3) rfl ?_); refine boxE_ (N:=3) (cs:=#[.int .i64 a0_0,.int .i64 a0_1]) (t:=75) ?_; intro gb831 hg w9 hbox hb; have n0_:=am_ (below_step (bl0_ HB.out) hb); have n1_:=am_ (hbox); have n2_:=am_ ((bs0_ hg HB.out:w.heap.size ≤ gb831)); have n3_:=am_ ((bs0_ hg HB.out:w.heap.size ≤ gb831)); clear HB; have HB:=n0_; have BK831:=n1_; have GW831:=n2_; have GE831:=n3_; clear n0_ n1_ n2_ n3_; clear hb hbox hg; have hcz10_0:w9.cell? ⟨gb831,0,none⟩ = some (.int .i64 a0_0):=(bc_ BK831.out 0).trans rfl; have hcz10_1:w9.cell? ⟨gb831,1,none⟩ = some (.int .i64 a0_1):=(bc_ BK831.out 1).trans rfl; have hfz10_0:=bz_ BK831.out 0; have hfz10_1:=bz_ BK831.out 1) | ((with_reducible refine gate_callee (f:=100) rfl ?_); refine goesL_ (some 11) rfl rfl Tryd.func100 (by kernel_rfl) rfl #[.int .i64 a1,.int .i64 0,.int .i64 (wrap64 (a0_0 - 1))] rfl ob_ ?_; (with_reducible refine (impl_within.calls a1 0 (wrap64 (a0_0 - 1)) false _ A4.out).mono ?_); rintro e w' ⟨rfl,⟨nd,rfl⟩⟩; refine ⟨_,rfl,?_⟩))
    go_ret
    exact ⟨er_,bl1_ HB.out GE831.out⟩


def besT (w h x y:Int):Int:=if impl_grid_isCell.f w h x y = some true then wrap64 (wrap64 (y * w) + x) else -1
set_option maxHeartbeats 4000000 in
theorem beside_lit (gw gh x y:Int) (B:Nat) (W:World) (h1:W.cell? ⟨B,0,none⟩ = some (.int .i64 gw)) (h2:W.cell? ⟨B,1,none⟩ = some (.int .i64 gh)) :
  Calls Tryd.prog 147 #[.int .i64 x,.int .i64 y,.pointer (some ⟨B,0,none⟩)] W fun e w' => e = .returned (.int .i64 (besT gw gh x y)) ∧ Below W.heap.size W w':=by
 have b1:=wl_ W _ h1
 obtain ⟨b,hM⟩:∃ b,impl_grid_isCell.f gw gh x y = some b:=by
  unfold impl_grid_isCell.f
  rw [within_f,Option.bind_some,within_f]
  split
  ·exact ⟨_,rfl⟩
  ·exact ⟨_,rfl⟩
 have hr:besT gw gh x y = if b = true then wrap64 (wrap64 (y * gw) + x) else -1:=by
  unfold besT
  rw [hM]
  cases b <;> simp
 rw [hr]
 have HM:=am_ hM
 clear hM hr
 cases b with
 | false =>
  go_enter Tryd.func147,Tryd.ntmps147
  go_wp2_with (go_at_call 148; refine (impl_grid_isCell.calls _ _ _ _ false _ HM.out).mono ?_; rintro e w1 ⟨rfl,hb1⟩)
  go_ret
  exact ⟨by first | rfl | simp,by first | exact hb1 | exact ((Below.refl _ _).drew).trans (hb1.mono (by simp))⟩
 | true =>
  go_enter Tryd.func147,Tryd.ntmps147
  go_wp2_with (go_at_call 148; refine (impl_grid_isCell.calls _ _ _ _ true _ HM.out).mono ?_; rintro e w1 ⟨rfl,hb1⟩; have h1':w1.cell? ⟨B,0,none⟩ = some (.int .i64 gw):=(hb1.cell (p:=⟨B,0,none⟩) (by simp <;> omega)).trans (by first | exact h1 | simpa using h1))
  go_ret
  exact ⟨by first | rfl | simp,by first | exact hb1 | exact ((Below.refl _ _).drew).trans (hb1.mono (by simp))⟩
def impl_grid_beside.f (w h k:Int):Option (Int × Int) :=
 if (1 ≤ w ∧ w ≤ 4) ∧ (1 ≤ h ∧ h ≤ 4) ∧ (0 ≤ k ∧ k ≤ 60) then
  if k < w * (h + 1) then some (besT w h (k % w) (k / w - 1),besT w h (k % w) (k / w))
  else some (besT w h ((k - w * (h + 1)) % (w + 1) - 1) ((k - w * (h + 1)) / (w + 1)),besT w h ((k - w * (h + 1)) % (w + 1)) ((k - w * (h + 1)) / (w + 1)))
 else none
set_option maxHeartbeats 8000000 in
theorem impl_grid_beside.calls (a0_0 a0_1 a1 r1 r2:Int) (w:World) (h:impl_grid_beside.f a0_0 a0_1 a1 = some (r1,r2)) :
  Calls Tryd.prog 120 #[.agg #[.int .i64 a0_0,.int .i64 a0_1],.int .i64 a1] w fun e w' => e = .returned (.tuple #[.int .i64 r1,.int .i64 r2]) ∧ Below w.heap.size w w':=by
 unfold impl_grid_beside.f at h
 by_cases hc:(1 ≤ a0_0 ∧ a0_0 ≤ 4) ∧ (1 ≤ a0_1 ∧ a0_1 ≤ 4) ∧ (0 ≤ a1 ∧ a1 ≤ 60)
 ·rw [if_pos hc] at h
  obtain ⟨⟨w1,w4⟩,⟨h1,h4⟩,k0,k6⟩:=hc
  obtain ⟨c1,c2,-,-⟩:=area_bounds w1 w4 h1 h4
  have eg:∀ args w,(callFunc 147 args).run Tryd.prog w = .ok (.enter 147 args) w:=Go.Proofs.enters_of Tryd.func147 (by kernel_rfl) rfl
  have hmf:∀ (fn:Fn) (first cap:Array Value) (w:World),(Instr.makeFunc fn first cap).run Tryd.prog w = .ok (.func fn first cap) w:=fun _ _ _ _ => rfl
  have hlev:impl_grid_levels.f a0_0 a0_1 = some (a0_0 * (a0_1 + 1)):=by
   unfold impl_grid_levels.f
   have e0:wrap64 (a0_1 + 1) = a0_1 + 1:=by unfold wrap64; omega
   have e1:wrap64 (a0_0 * (a0_1 + 1)) = a0_0 * (a0_1 + 1):=by unfold wrap64; omega
   rw [e0,e1]
  have HL:=am_ hlev
  clear hlev
  have hw0:a0_0 ≠ 0:=by omega
  generalize hL:a0_0 * (a0_1 + 1) = L at h HL c1 c2
  have e0:wrap64 (a0_0 + 1) = a0_0 + 1:=by unfold wrap64; omega
  have hw1:a0_0 + 1 ≠ 0:=by omega
  by_cases hk:a1 < L
  ·rw [if_pos hk] at h
   simp only [Option.some.injEq,Prod.mk.injEq] at h
   obtain ⟨rfl,rfl⟩:=h
   have tok0:True:=trivial
   go_enter Tryd.func120,Tryd.ntmps120
   go_wp2_with (go_at_call 101; refine (impl_grid_levels.calls _ _ _ _ HL.out).mono ?_; rintro e w1 ⟨rfl,hb1⟩; have q0:w1.cell? ⟨w.heap.size,0,none⟩ = some (.int .i64 a0_0):=(hb1.cell (p:=⟨w.heap.size,0,none⟩) (by simp)).trans (by first | rfl | simp); have q1:w1.cell? ⟨w.heap.size,1,none⟩ = some (.int .i64 a0_1):=(hb1.cell (p:=⟨w.heap.size,1,none⟩) (by simp)).trans (by first | rfl | simp))
   have tok1:True:=trivial
   go_region_held3 (fun w' => w'.cell? ⟨w.heap.size,0,none⟩ = some (.int .i64 a0_0) ∧ w'.cell? ⟨w.heap.size,1,none⟩ = some (.int .i64 a0_1))
    (first | (exact ⟨q0,q1⟩) | (go_split_ands; exact ⟨pw_cell_below hbB (by assumption),pw_cell_below hbB (by assumption)⟩) | (go_split_ands; exact ⟨pw_cell_below hbA (by assumption),pw_cell_below hbA (by assumption)⟩))
    ((first
     | (go_at_fn 147; have _t:=tok1; refine (beside_lit a0_0 a0_1 _ _ w.heap.size _ ?c1 ?c2).mono ?_; (case c1 => first | assumption | exact q0 | simpa using q0); (case c2 => first | assumption | exact q1 | simpa using q1); rintro e wA ⟨rfl,hbA⟩; clear _t tok1; have tok2:True:=trivial)
     | (go_at_fn 147; have _t:=tok2; refine (beside_lit a0_0 a0_1 _ _ w.heap.size _ ?c3 ?c4).mono ?_; (case c3 => first | assumption | (go_split_ands; assumption)); (case c4 => first | assumption | (go_split_ands; assumption)); rintro e wB ⟨rfl,hbB⟩; clear _t tok2)))
   have T0:a1.tmod a0_0 = a1 % a0_0:=Int.tmod_eq_emod_of_nonneg k0
   have T1:IntKind.i64.wrap (a1.tdiv a0_0) = a1 / a0_0:=by rw [Int.tdiv_eq_ediv_of_nonneg k0]; exact i64_small _ (Int.ediv_nonneg k0 (by omega)) (by have:=Int.ediv_le_self a0_0 k0; omega)
   have T2:IntKind.i64.wrap (a1 / a0_0 - 1) = a1 / a0_0 - 1:=by rw [IntKind.wrap_i64]; have:=Int.ediv_le_self a0_0 k0; have:=Int.ediv_nonneg k0 (show 0 ≤ a0_0 by omega); omega
   have HB:=am_ ((((Below.refl w.heap.size w).alloc (Nat.le_refl _) (.cells #[.int .i64 a0_0,.int .i64 a0_1] 75 (0,0))).trans (hb1.mono (by simp))))
   go_wp2
   go_ret2
   exact ⟨by rw [T0,T1,T2]; rfl,by first | exact (below_step (below_drew (below_step (below_drew HB.out) hbA)) hbB) | exact below_step (below_step (below_drew HB.out) hbA) hbB⟩
  ·rw [if_neg hk] at h
   simp only [Option.some.injEq,Prod.mk.injEq] at h
   obtain ⟨rfl,rfl⟩:=h
   have hk2:L ≤ a1:=by omega
   have tok0:True:=trivial
   go_enter Tryd.func120,Tryd.ntmps120
   go_wp2_with (first
    | (go_at_call 101; have _t:=tok0; refine (impl_grid_levels.calls _ _ _ _ HL.out).mono ?_; rintro e w1 ⟨rfl,hb1⟩; have q0:w1.cell? ⟨w.heap.size,0,none⟩ = some (.int .i64 a0_0):=(hb1.cell (p:=⟨w.heap.size,0,none⟩) (by simp)).trans (by first | rfl | simp); have q1:w1.cell? ⟨w.heap.size,1,none⟩ = some (.int .i64 a0_1):=(hb1.cell (p:=⟨w.heap.size,1,none⟩) (by simp)).trans (by first | rfl | simp); clear _t tok0; have tok1:True:=trivial)
    | (go_at_call 101; have _t:=tok1; refine (impl_grid_levels.calls _ _ _ _ HL.out).mono ?_; rintro e w2 ⟨rfl,hb2⟩; have q0n:=pw_cell_below hb2 q0; have q1n:=pw_cell_below hb2 q1; clear q0 q1; have q0:=q0n; have q1:=q1n; clear q0n q1n _t tok1; have tok2:True:=trivial))
   have hw2:IntKind.i64.wrap (a0_0 + 1) ≠ 0:=by rw [IntKind.wrap_i64]; omega
   go_region_held3 (fun w' => w'.cell? ⟨w.heap.size,0,none⟩ = some (.int .i64 a0_0) ∧ w'.cell? ⟨w.heap.size,1,none⟩ = some (.int .i64 a0_1))
    (first | (exact ⟨q0,q1⟩) | go_keep)
    (fail)
   have tok3:True:=trivial
   go_split_ands
   have d0:(w2.drew).cell? ⟨w.heap.size,0,none⟩ = some (.int .i64 a0_0):=q0
   have d1:(w2.drew).cell? ⟨w.heap.size,1,none⟩ = some (.int .i64 a0_1):=q1
   have HB:=am_ (below_step ((((Below.refl w.heap.size w).alloc (Nat.le_refl _) (.cells #[.int .i64 a0_0,.int .i64 a0_1] 75 (0,0))).trans (hb1.mono (by simp)))) hb2)
   have HE0:Aside0 (IntKind.i64.wrap (a0_0 + 1) = a0_0 + 1):=⟨by rw [IntKind.wrap_i64]; omega⟩
   have HW1:Aside0 (0 ≤ a1 - L ∧ a1 - L ≤ 60 ∧ 2 ≤ a0_0 + 1):=⟨by omega⟩
   clear hb1 hb2 q0 q1
   go_wp2_with (first
    | (go_at_fn 147; have _t:=tok3; refine (beside_lit a0_0 a0_1 _ _ w.heap.size _ ?c1 ?c2).mono ?_; (case c1 => exact d0); (case c2 => exact d1); rintro e wA ⟨rfl,hbA⟩; have dA0:=pw_cell_below hbA d0; have dA1:=pw_cell_below hbA d1; clear _t tok3 d0 d1; have tok4:True:=trivial)
    | (go_at_fn 147; have _t:=tok4; refine (beside_lit a0_0 a0_1 _ _ w.heap.size _ ?c3 ?c4).mono ?_; (case c3 => exact dA0); (case c4 => exact dA1); rintro e wB ⟨rfl,hbB⟩; clear _t tok4))
   obtain ⟨hD0,hD1,hD2⟩:=HW1.out
   have T0:(a1 - L).tmod (a0_0 + 1) = (a1 - L) % (a0_0 + 1):=Int.tmod_eq_emod_of_nonneg hD0
   have T1:IntKind.i64.wrap ((a1 - L).tdiv (a0_0 + 1)) = (a1 - L) / (a0_0 + 1):=by rw [Int.tdiv_eq_ediv_of_nonneg hD0]; exact i64_small _ (Int.ediv_nonneg hD0 (by omega)) (by have:=Int.ediv_le_self (a0_0 + 1) hD0; omega)
   have T2:wrap64 ((a1 - L) % (a0_0 + 1) - 1) = (a1 - L) % (a0_0 + 1) - 1:=by unfold wrap64; have:=Int.emod_nonneg (a1 - L) (show a0_0 + 1 ≠ 0 by omega); have:=Int.emod_lt_of_pos (a1 - L) (show 0 < a0_0 + 1 by omega); omega
   go_ret2
   exact ⟨by rw [HE0.out,T0,T1]; first | rfl | (rw [T2]; rfl),by first | exact (below_step (below_step (below_drew HB.out) hbA) hbB) | exact below_step (below_step (HB.out) hbA) hbB⟩
 ·rw [if_neg hc] at h; cases h


def slices_Index_int_int.l0:Nat → List Int → Int → Int → Int → Option (Int)
  | 0,_,_,_,_ => none
  | k + 1,x0,x1,x7,x8 => if x8 < x7 then (if 0 ≤ x8 then (if x8 < (x0.length:Int) then (if x1 = (rd x0 x8) then (some x8) else (slices_Index_int_int.l0 k x0 x1 x7 (wrap64 (x8 + 1)))) else (none)) else (none)) else (some (-1))
def slices_Index_int_int.f (k:Nat) (l0:List Int) (a1:Int):Option (Int):=slices_Index_int_int.l0 k l0 a1 (l0.length:Int) 0
theorem slices_Index_int_int.mono_l:∀ k,(∀ y0 y1 y2 y3,LeO (slices_Index_int_int.l0 k y0 y1 y2 y3) (slices_Index_int_int.l0 (k + 1) y0 y1 y2 y3))
  | 0 => fun _ _ _ _ r h => by simp [slices_Index_int_int.l0] at h
  | k + 1 => by
    have ih0:=slices_Index_int_int.mono_l k
    · intro y0 y1 y2 y3
      unfold slices_Index_int_int.l0
      repeat' first | (with_reducible first | exact ih0 _ _ _ _ | exact LeO.refl _ | exact LeO.none _ | refine LeO.ite ?_ ?_ | refine LeO.bind ?_ (fun _ => ?_)) | exact ih0 _ _ _ _
theorem slices_Index_int_int.mono:∀ a0 a1 k,LeO (slices_Index_int_int.f k a0 a1) (slices_Index_int_int.f (k + 1) a0 a1):=by
  intro a0 a1 k
  have ih0:=slices_Index_int_int.mono_l k
  unfold slices_Index_int_int.f
  repeat' first | (with_reducible first | exact ih0 _ _ _ _ | exact LeO.refl _ | exact LeO.none _ | refine LeO.ite ?_ ?_ | refine LeO.bind ?_ (fun _ => ?_)) | exact ih0 _ _ _ _
set_option maxHeartbeats 8000000 in
set_option maxRecDepth 100000 in
theorem slices_Index_int_int.calls (k:Nat) (A0:Option Addr) (c0:Nat) (l0:List Int) (a1:Int) (r:Int) (w:World) (hr0:Kd.C (Kd.int .i64) w A0 l0.length l0) (hc0:l0.length ≤ c0) (h:slices_Index_int_int.f k l0 a1 = some r) :
    Calls Tryd.prog 149 #[.slice A0 l0.length c0,.int .i64 a1] w fun e w' => e = .returned (.int .i64 r) ∧ Drawn0 w w':=by
  have HR0:=am_ hr0
  have HC0:=am_ hc0
  clear hr0 hc0
  have H:(slices_Index_int_int.l0 k l0 a1 (l0.length:Int) 0) = some r:=h
  clear h
  have H':=am_ H
  clear H
  go_enter Tryd.func149,Tryd.ntmps149
  go_wp2
  go_loopg [8] k (fun kq v8 w' => ∃ (x8_1:Int),v8 = .int .i64 x8_1 ∧ Aside0 (slices_Index_int_int.l0 kq l0 a1 (l0.length:Int) x8_1 = some r) ∧ Aside0 (kq ≤ k) ∧ Drawn0 w w')
  case atStart => exact ⟨(0),rs_,H',⟨Nat.le_refl _⟩,by repeat (first | exact Drawn0.refl _ | apply Drawn0.step)⟩
  case round =>
    clear H'
    try clear c1
    try clear p2
    obtain ⟨x8_1,rfl,HA,HK1,⟨m1,rfl⟩⟩:=hrel
    cases gk with
    | zero => exact absurd HA.out (by simp [slices_Index_int_int.l0])
    | succ k1 =>
      have H:=HA.out
      clear HA
      simp only [slices_Index_int_int.l0] at H
      by_cases c3:x8_1 < (l0.length:Int)
      · rw [if_pos c3] at H
        have c3b0:decide (x8_1 < (l0.length:Int)) = true:=decide_eq_true c3
        clear c3
        by_cases c4:0 ≤ x8_1
        · rw [if_pos c4] at H
          have c4b0:decide (0 ≤ x8_1) = true:=decide_eq_true c4
          clear c4
          by_cases c5:x8_1 < (l0.length:Int)
          · rw [if_pos c5] at H
            have c5b0:decide (x8_1 < (l0.length:Int)) = true:=decide_eq_true c5
            clear c5
            by_cases c6:a1 = (rd l0 x8_1)
            · rw [if_pos c6] at H
              have c6b0:(a1 == (rd l0 x8_1)) = true:=beq_iff_eq.mpr c6
              have c6b1:(a1 != (rd l0 x8_1)) = false:=bne_eq_false_iff_eq.mpr c6
              clear c6
              obtain rfl:=Option.some.inj H
              have p834:0 ≤ (x8_1:Int):=of_decide_eq_true as_
              have q834:x8_1 < (l0.length:Int):=of_decide_eq_true as_
              obtain ⟨ad834,e834,hx834_0⟩:=Kd.at_int HR0.out x8_1 p834 q834
              cases e834
              replace p834:=eq_true p834
              replace q834:=eq_true q834
              go_wp2
              go_ret
              exact ⟨by first | rfl | (simp; done) | (simp [*]; done),by repeat (first | exact Drawn0.refl _ | apply Drawn0.step)⟩
            · rw [if_neg c6] at H
              have c6b0:(a1 == (rd l0 x8_1)) = false:=beq_eq_false_iff_ne.mpr c6
              have c6b1:(a1 != (rd l0 x8_1)) = true:=bne_iff_ne.mpr c6
              have H':=am_ H
              clear H
              have p834:0 ≤ (x8_1:Int):=of_decide_eq_true as_
              have q834:x8_1 < (l0.length:Int):=of_decide_eq_true as_
              obtain ⟨ad834,e834,hx834_0⟩:=Kd.at_int HR0.out x8_1 p834 q834
              cases e834
              replace p834:=eq_true p834
              replace q834:=eq_true q834
              go_wp2
              go_roundg k1
              case measure => have:=HK1.out; omega
              case rel => exact ⟨(wrap64 (x8_1 + 1)),rs_,H',⟨by have:=HK1.out; omega⟩,by repeat (first | exact Drawn0.refl _ | apply Drawn0.step)⟩
          · rw [if_neg c5] at H
            exact absurd H (by simp)
        · rw [if_neg c4] at H
          exact absurd H (by simp)
      · rw [if_neg c3] at H
        have c3b0:decide (x8_1 < (l0.length:Int)) = false:=decide_eq_false c3
        clear c3
        obtain rfl:=Option.some.inj H
        go_wp2
        go_ret
        exact ⟨by first | rfl | (simp; done) | (simp [*]; done),by repeat (first | exact Drawn0.refl _ | apply Drawn0.step)⟩


def slices_Contains_int_int.f (k:Nat) (l0:List Int) (a1:Int):Option (Bool):=(slices_Index_int_int.f k l0 a1).bind fun t835 => (some (decide (t835 ≥ 0)))
theorem slices_Contains_int_int.mono:∀ a0 a1 k,LeO (slices_Contains_int_int.f k a0 a1) (slices_Contains_int_int.f (k + 1) a0 a1):=by
  intro a0 a1 k
  unfold slices_Contains_int_int.f
  repeat' first | (with_reducible first | exact slices_Index_int_int.mono _ _ _ | exact LeO.refl _ | exact LeO.none _ | refine LeO.ite ?_ ?_ | refine LeO.bind ?_ (fun _ => ?_)) | exact slices_Index_int_int.mono _ _ _
set_option maxHeartbeats 8000000 in
set_option maxRecDepth 100000 in
theorem slices_Contains_int_int.calls (k:Nat) (A0:Option Addr) (c0:Nat) (l0:List Int) (a1:Int) (r:Bool) (w:World) (hr0:Kd.C (Kd.int .i64) w A0 l0.length l0) (hc0:l0.length ≤ c0) (h:slices_Contains_int_int.f k l0 a1 = some r) :
    Calls Tryd.prog 121 #[.slice A0 l0.length c0,.int .i64 a1] w fun e w' => e = .returned (.bool r) ∧ Drawn0 w w':=by
  have HR0:=am_ hr0
  have HC0:=am_ hc0
  clear hr0 hc0
  have H:((slices_Index_int_int.f k l0 a1).bind fun t835 => (some (decide (t835 ≥ 0)))) = some r:=h
  clear h
  replace H:=bi_ H
  obtain ⟨t835,A30,H⟩:=H
  replace H:(some (decide (t835 ≥ 0))) = some r:=H
  have A3:=am_ A30
  clear A30
  obtain rfl:=Option.some.inj H
  go_enter Tryd.func121,Tryd.ntmps121
  go_wp2_with (first | ((with_reducible refine gate_callee (f:=149) rfl ?_); refine goesL_ (some 7) rfl rfl Tryd.func149 (by kernel_rfl) rfl #[.slice A0 l0.length c0,.int .i64 a1] rfl ob_ ?_; (with_reducible refine (slices_Index_int_int.calls k _ _ l0 a1 t835 _ ?side1 ?side2 A3.out).mono ?_); (case side1 => repeat (first | exact HR0.out | (with_reducible refine Kd.C_alloc ?_ _) | (with_reducible refine Kd.C_drewN ?_ _) | (with_reducible refine Kd.C_drew ?_))); (case side2 => exact HC0.out); rintro e w' ⟨rfl,⟨nd,rfl⟩⟩; refine ⟨_,rfl,?_⟩))
  go_ret
  exact ⟨by first | rfl | (simp; done) | (simp [*]; done),by repeat (first | exact Drawn0.refl _ | apply Drawn0.step)⟩


def impl_grid_border.l0:Nat → List Int → Int → Int → Int → Int → Int → Option (Int)
 | 0,_,_,_,_,_,_ => none
 | k + 1,x1,x5,x13,x14,x837000,x837001 => if x14 < x13 then ((impl_grid_beside.f x837000 x837001 x14).bind fun bt839 => ((slices_Contains_int_int.f k x1 bt839.1).bind fun t841 => ((slices_Contains_int_int.f k x1 bt839.2).bind fun t842 => (if (t841 != t842) = true then (if 0 ≤ x14 then (impl_grid_border.l0 k x1 (Go.bits .or .u64 x5 (shl .u64 1 x14)) x13 (wrap64 (x14 + 1)) x837000 x837001) else (none)) else (impl_grid_border.l0 k x1 x5 x13 (wrap64 (x14 + 1)) x837000 x837001))))) else (some x5)
def impl_grid_border.f (k:Nat) (a0_0:Int) (a0_1:Int) (l1:List Int):Option (Int):=(impl_grid_levels.f a0_0 a0_1).bind fun t837 => ((impl_grid_uprights.f a0_0 a0_1).bind fun t838 => (impl_grid_border.l0 k l1 0 (wrap64 (t837 + t838)) 0 a0_0 a0_1))
theorem impl_grid_border.mono_l:∀ k,(∀ y0 y1 y2 y3 y4 y5,LeO (impl_grid_border.l0 k y0 y1 y2 y3 y4 y5) (impl_grid_border.l0 (k + 1) y0 y1 y2 y3 y4 y5))
 | 0 => fun _ _ _ _ _ _ r h => by simp [impl_grid_border.l0] at h
 | k + 1 => by
  have ih0:=impl_grid_border.mono_l k
  ·intro y0 y1 y2 y3 y4 y5
   unfold impl_grid_border.l0
   repeat' first | (with_reducible first | exact ih0 _ _ _ _ _ _ | exact slices_Contains_int_int.mono _ _ _ | exact LeO.refl _ | exact LeO.none _ | refine LeO.ite ?_ ?_ | refine LeO.bind ?_ (fun _ => ?_)) | exact ih0 _ _ _ _ _ _ | exact slices_Contains_int_int.mono _ _ _
theorem impl_grid_border.mono:∀ a0 a1 a2 k,LeO (impl_grid_border.f k a0 a1 a2) (impl_grid_border.f (k + 1) a0 a1 a2):=by
 intro a0 a1 a2 k
 have ih0:=impl_grid_border.mono_l k
 unfold impl_grid_border.f
 repeat' first | (with_reducible first | exact ih0 _ _ _ _ _ _ | exact slices_Contains_int_int.mono _ _ _ | exact LeO.refl _ | exact LeO.none _ | refine LeO.ite ?_ ?_ | refine LeO.bind ?_ (fun _ => ?_)) | exact ih0 _ _ _ _ _ _ | exact slices_Contains_int_int.mono _ _ _
set_option maxHeartbeats 8000000 in
set_option maxRecDepth 100000 in
theorem impl_grid_border.calls (k:Nat) (a0_0:Int) (a0_1:Int) (A1:Option Addr) (c1:Nat) (l1:List Int) (r:Int) (w:World) (hr1:Kd.C (Kd.int .i64) w A1 l1.length l1) (hc1:l1.length ≤ c1) (h:impl_grid_border.f k a0_0 a0_1 l1 = some r) :
  Calls Tryd.prog 68 #[.agg #[.int .i64 a0_0,.int .i64 a0_1],.slice A1 l1.length c1] w fun e w' => e = .returned (.int .u64 r) ∧ Below w.heap.size w w':=by
 have hu75:=Tryd.underlying75
 have HR1:=am_ hr1
 have HC1:=am_ hc1
 clear hr1 hc1
 have HB:=am_ (Below.refl w.heap.size w)
 have H:((impl_grid_levels.f a0_0 a0_1).bind fun t837 => ((impl_grid_uprights.f a0_0 a0_1).bind fun t838 => (impl_grid_border.l0 k l1 0 (wrap64 (t837 + t838)) 0 a0_0 a0_1))) = some r:=h
 clear h
 replace H:=bi_ H
 obtain ⟨t837,A30,H⟩:=H
 replace H:((impl_grid_uprights.f a0_0 a0_1).bind fun t838 => (impl_grid_border.l0 k l1 0 (wrap64 (t837 + t838)) 0 a0_0 a0_1)) = some r:=H
 have A3:=am_ A30
 clear A30
 replace H:=bi_ H
 obtain ⟨t838,A40,H⟩:=H
 replace H:(impl_grid_border.l0 k l1 0 (wrap64 (t837 + t838)) 0 a0_0 a0_1) = some r:=H
 have A4:=am_ A40
 clear A40
 have H':=am_ H
 clear H
 go_enter Tryd.func68,Tryd.ntmps68
 try go_wp2_with (first | ((with_reducible refine gate_dst (N:=2) rfl ?_); refine boxE_ (N:=2) (cs:=#[.int .i64 a0_0,.int .i64 a0_1]) (t:=75) ?_; intro gb836 hg w5 hbox hb; have n0_:=am_ (below_step (bl0_ HB.out) hb); have n1_:=am_ (hbox); have n2_:=am_ ((bs0_ hg HB.out:w.heap.size ≤ gb836)); have n3_:=am_ ((bs0_ hg HB.out:w.heap.size ≤ gb836)); clear HB; have HB:=n0_; have BK836:=n1_; have GW836:=n2_; have GE836:=n3_; clear n0_ n1_ n2_ n3_; clear hb hbox hg))
 have n0_:=am_ (blk_drew BK836.out)
 have n1_:=am_ (below_drew1 HB.out)
 clear BK836
 clear HB
 have BK836:=n0_
 have HB:=n1_
 clear n0_ n1_
 refine start_ (n:=6) (S:=fun w' => w'.cell? ⟨gb836,0,none⟩ = some (.int .i64 a0_0) ∧ w'.cell? ⟨gb836,1,none⟩ = some (.int .i64 a0_1)) (ds:=[]) #[false,false,false,false,false,false] (by kernel_rfl) rfl rfl ⟨(bc_ BK836.out 0).trans rfl,(bc_ BK836.out 1).trans rfl⟩ (fun hHeld => ?_)
 generalize w5.drew = w6 at BK836 HB hHeld ⊢
 refine pure_ (i:=5) (N:=some 14) (v:=?_) (a':=?_) #[false,false,false,false,false,true] rfl rfl (by kernel_rfl) (fun _ _ _ h => h) (Or.inl ⟨by rfl,?_⟩) ?_ ?_
 rotate_left
 ·intro w'
  go_simp
  with_reducible rfl
 rotate_left
 ·simp only [Act.put,List.setIfInBounds_toArray,List.set_cons_zero,List.set_cons_succ,i64_w,i32_w]
  rfl
 refine take_ (i:=0) (N:=some 9) (v:=?_) (a':=?_) #[true,false,false,false,false,true] rfl rfl (by kernel_rfl) (fun _ _ _ h => h) (Or.inl ⟨by rfl,?_⟩) hHeld ?_ ?_
 rotate_left
 ·rintro w' ⟨s0,s1⟩
  go_simp
  with_reducible rfl
 rotate_left
 ·simp only [Act.put,List.setIfInBounds_toArray,List.set_cons_zero,List.set_cons_succ,i64_w,i32_w]
  rfl
 refine take_ (i:=2) (N:=some 11) (v:=?_) (a':=?_) #[true,false,true,false,false,true] rfl rfl (by kernel_rfl) (fun _ _ _ h => h) (Or.inl ⟨by rfl,?_⟩) hHeld ?_ ?_
 rotate_left
 ·rintro w' ⟨s0,s1⟩
  go_simp
  with_reducible rfl
 rotate_left
 ·simp only [Act.put,List.setIfInBounds_toArray,List.set_cons_zero,List.set_cons_succ,i64_w,i32_w]
  rfl
 refine one_ (i:=1) (N:=some 10) #[true,true,true,false,false,true] rfl rfl (by kernel_rfl) (by decide) (fun K hK => ?_)
 refine goes_ Tryd.func101 (by kernel_rfl) rfl #[.agg #[.int .i64 a0_0,.int .i64 a0_1]] (by rfl) rfl rfl ob_ ?_
 with_reducible refine (impl_grid_levels.calls a0_0 a0_1 t837 _ A3.out).mono ?_
 rintro e w7 ⟨rfl,hb⟩
 refine ⟨_,rfl,?_⟩
 have n0_:=am_ (bb_ BK836.out hb)
 have n1_:=am_ (below_step (bl1_ HB.out GE836.out) hb)
 clear BK836
 clear HB
 have BK836:=n0_
 have HB:=n1_
 clear n0_ n1_
 (try clear hb)
 (try clear hb2)
 (try clear hk)
 (try clear hi)
 refine hK.out _ _ ⟨(bc_ BK836.out 0).trans rfl,(bc_ BK836.out 1).trans rfl⟩ (fun hHeld => ?_)
 clear hK K
 refine norm_ (a':=?_) ?_ ?_
 rotate_left
 ·show Act.put _ (some 10) _ = _
  simp only [Act.put,List.setIfInBounds_toArray,List.set_cons_zero,List.set_cons_succ,i64_w,i32_w]
  rfl
 refine one_ (i:=3) (N:=some 12) #[true,true,true,true,false,true] rfl rfl (by kernel_rfl) (by decide) (fun K hK => ?_)
 refine goes_ Tryd.func119 (by kernel_rfl) rfl #[.agg #[.int .i64 a0_0,.int .i64 a0_1]] (by rfl) rfl rfl ob_ ?_
 with_reducible refine (impl_grid_uprights.calls a0_0 a0_1 t838 _ A4.out).mono ?_
 rintro e w8 ⟨rfl,hb⟩
 refine ⟨_,rfl,?_⟩
 have n0_:=am_ (bb_ BK836.out hb)
 have n1_:=am_ (below_step (bl1_ HB.out GE836.out) hb)
 clear BK836
 clear HB
 have BK836:=n0_
 have HB:=n1_
 clear n0_ n1_
 (try clear hb)
 (try clear hb2)
 (try clear hk)
 (try clear hi)
 refine hK.out _ _ ⟨(bc_ BK836.out 0).trans rfl,(bc_ BK836.out 1).trans rfl⟩ (fun hHeld => ?_)
 clear hK K
 refine norm_ (a':=?_) ?_ ?_
 rotate_left
 ·show Act.put _ (some 12) _ = _
  simp only [Act.put,List.setIfInBounds_toArray,List.set_cons_zero,List.set_cons_succ,i64_w,i32_w]
  rfl
 refine pure_ (i:=4) (N:=some 13) (v:=?_) (a':=?_) #[true,true,true,true,true,true] rfl rfl (by kernel_rfl) (fun _ _ _ h => h) (Or.inl ⟨by rfl,?_⟩) ?_ ?_
 rotate_left
 ·intro w'
  go_simp
  with_reducible rfl
 rotate_left
 ·simp only [Act.put,List.setIfInBounds_toArray,List.set_cons_zero,List.set_cons_succ,i64_w,i32_w]
  rfl
 refine done_ (by kernel_rfl) ?_
 try go_wp2
 go_loopg [5,14] k (fun kq v5 v14 w' => ∃ (x5_1:Int) (x14_1:Int),v5 = .int .u64 x5_1 ∧ v14 = .int .i64 x14_1 ∧ Aside0 (impl_grid_border.l0 kq l1 x5_1 (wrap64 (t837 + t838)) x14_1 a0_0 a0_1 = some r) ∧ Aside0 (kq ≤ k) ∧ Aside0 (w'.heap[gb836]? = some (.cells #[.int .i64 a0_0,.int .i64 a0_1] 75 (0,0))) ∧ Aside0 (Below w.heap.size w w'))
 case atStart => exact ⟨(0),(0),rs_,rs_,H',⟨Nat.le_refl _⟩,⟨bk_ BK836.out⟩,⟨bl1_ HB.out GE836.out⟩⟩
 case round =>
  clear H'
  try clear c1
  try clear p2
  try clear c6
  try clear p6
  obtain ⟨x5_1,x14_1,rfl,rfl,HA,HK1,BK836,HB⟩:=hrel
  cases gk with
  | zero => exact absurd HA.out (by simp [impl_grid_border.l0])
  | succ k1 =>
   have H:=HA.out
   clear HA
   simp only [impl_grid_border.l0] at H
   by_cases c9:x14_1 < (wrap64 (t837 + t838))
   ·rw [if_pos c9] at H
    have c9b0:decide (x14_1 < (wrap64 (t837 + t838))) = true:=decide_eq_true c9
    clear c9
    replace H:=bi_ H
    obtain ⟨⟨t839,t840⟩,A100,H⟩:=H
    replace H:((slices_Contains_int_int.f k1 l1 t839).bind fun t841 => ((slices_Contains_int_int.f k1 l1 t840).bind fun t842 => (if (t841 != t842) = true then (if 0 ≤ x14_1 then (impl_grid_border.l0 k1 l1 (Go.bits .or .u64 x5_1 (shl .u64 1 x14_1)) (wrap64 (t837 + t838)) (wrap64 (x14_1 + 1)) a0_0 a0_1) else (none)) else (impl_grid_border.l0 k1 l1 x5_1 (wrap64 (t837 + t838)) (wrap64 (x14_1 + 1)) a0_0 a0_1)))) = some r:=H
    have A10:=am_ A100
    clear A100
    replace H:=bi_ H
    obtain ⟨t841,A110,H⟩:=H
    replace H:((slices_Contains_int_int.f k1 l1 t840).bind fun t842 => (if (t841 != t842) = true then (if 0 ≤ x14_1 then (impl_grid_border.l0 k1 l1 (Go.bits .or .u64 x5_1 (shl .u64 1 x14_1)) (wrap64 (t837 + t838)) (wrap64 (x14_1 + 1)) a0_0 a0_1) else (none)) else (impl_grid_border.l0 k1 l1 x5_1 (wrap64 (t837 + t838)) (wrap64 (x14_1 + 1)) a0_0 a0_1))) = some r:=H
    have A11:=am_ A110
    clear A110
    replace H:=bi_ H
    obtain ⟨t842,A120,H⟩:=H
    replace H:(if (t841 != t842) = true then (if 0 ≤ x14_1 then (impl_grid_border.l0 k1 l1 (Go.bits .or .u64 x5_1 (shl .u64 1 x14_1)) (wrap64 (t837 + t838)) (wrap64 (x14_1 + 1)) a0_0 a0_1) else (none)) else (impl_grid_border.l0 k1 l1 x5_1 (wrap64 (t837 + t838)) (wrap64 (x14_1 + 1)) a0_0 a0_1)) = some r:=H
    have A12:=am_ A120
    clear A120
    by_cases c13:(t841 != t842) = true
    ·rw [if_pos c13] at H
     have c13b0:(t841 != t842) = true:=c13
     (try (have c13b1:decide (t841 = t842) = false:=by simpa using c13))
     (try (have c13b2:(t841 == t842) = false:=by simpa using c13))
     (try (have c13b3:¬ (t841 = t842):=by simpa using c13))
     clear c13
     by_cases c14:0 ≤ x14_1
     ·rw [if_pos c14] at H
      have c14b0:=eq_true c14
      have c14b1:decide (0 ≤ x14_1) = true:=decide_eq_true c14
      clear c14
      obtain ⟨ji15,hji15⟩:∃ j_:Int,(shl .u64 1 x14_1) = j_:=⟨_,rfl⟩
      replace H:(impl_grid_border.l0 k1 l1 (Go.bits .or .u64 x5_1 (ji15)) (wrap64 (t837 + t838)) (wrap64 (x14_1 + 1)) a0_0 a0_1) = some r:=by first | (rw [hji15] at H; exact H) | (simp only [hji15] at H ⊢; exact H)
      (try rw [hji15] at A10)
      (try rw [hji15] at A11)
      (try rw [hji15] at A12)
      have hji15_:(IntKind.u64.wrap (1 * 2 ^ min x14_1.toNat 64)) = ji15:=hji15
      have hji15z:x14_1 ≤ 64 → (IntKind.u64.wrap (1 * 2 ^ x14_1.toNat)) = ji15:=shl_small hji15
      have hji15u:(IntKind.u64.wrap (2 ^ min x14_1.toNat 64)) = ji15:=by have h_:=hji15_; rw [Int.one_mul] at h_; exact h_
      have hji15v:x14_1 ≤ 64 → (IntKind.u64.wrap (2 ^ x14_1.toNat)) = ji15:=fun hle_ => by have h_:=hji15z hle_; rw [Int.one_mul] at h_; exact h_
      have H':=am_ H
      clear H
      have hcz16_0:wr.cell? ⟨gb836,0,none⟩ = some (.int .i64 a0_0):=(bc_ BK836.out 0).trans rfl
      have hcz16_1:wr.cell? ⟨gb836,1,none⟩ = some (.int .i64 a0_1):=(bc_ BK836.out 1).trans rfl
      have hfz16_0:=bz_ BK836.out 0
      have hfz16_1:=bz_ BK836.out 1
      go_wp2_with (first | ((with_reducible refine gate_callee (f:=120) rfl ?_); refine goesL_ (some 20) rfl rfl Tryd.func120 (by kernel_rfl) rfl #[.agg #[.int .i64 a0_0,.int .i64 a0_1],.int .i64 x14_1] rfl ob_ ?_; (with_reducible refine (impl_grid_beside.calls a0_0 a0_1 x14_1 t839 t840 _ A10.out).mono ?_); rintro e w17 ⟨rfl,hb⟩; refine ⟨_,rfl,?_⟩; have n0_:=am_ (bb_ BK836.out hb); have n1_:=am_ (below_step (bl1_ HB.out GE836.out) hb); clear BK836; clear HB; have BK836:=n0_; have HB:=n1_; clear n0_ n1_; (try clear hb); (try clear hb2); (try clear hk); (try clear hi)) | ((with_reducible refine gate_callee (f:=121) rfl ?_); refine goesL_ (some 25) rfl rfl Tryd.func121 (by kernel_rfl) rfl #[.slice A1 l1.length c1,.int .i64 t839] rfl ob_ ?_; (with_reducible refine (slices_Contains_int_int.calls k1 _ _ l1 t839 t841 _ ?side1 ?side2 A11.out).mono ?_); (case side1 => exact kc_ (Kd.C_below HR1.out HB.out)); (case side2 => exact HC1.out); rintro e w' ⟨rfl,⟨nd,rfl⟩⟩; refine ⟨_,rfl,?_⟩) | ((with_reducible refine gate_callee (f:=121) rfl ?_); refine goesL_ (some 28) rfl rfl Tryd.func121 (by kernel_rfl) rfl #[.slice A1 l1.length c1,.int .i64 t840] rfl ob_ ?_; (with_reducible refine (slices_Contains_int_int.calls k1 _ _ l1 t840 t842 _ ?side1 ?side2 A12.out).mono ?_); (case side1 => repeat (first | exact (Kd.C_below HR1.out (bl1_ HB.out GE836.out)) | (with_reducible refine Kd.C_alloc ?_ _) | (with_reducible refine Kd.C_drewN ?_ _) | (with_reducible refine Kd.C_drew ?_))); (case side2 => exact HC1.out); rintro e w' ⟨rfl,⟨nd,rfl⟩⟩; refine ⟨_,rfl,?_⟩))
      go_roundg k1
      case measure => have:=HK1.out; omega
      case rel => exact ⟨(Go.bits .or .u64 x5_1 (ji15)),(wrap64 (x14_1 + 1)),(by first | rfl | (simp; done) | (simp only [← hji15] <;> (first | rfl | simp)) | (simp [*]; done)),rs_,H',⟨by have:=HK1.out; omega⟩,⟨bk_ BK836.out⟩,⟨bl1_ HB.out GE836.out⟩⟩
     ·rw [if_neg c14] at H
      exact absurd H (by simp)
    ·rw [if_neg c13] at H
     have c13b0:(t841 != t842) = false:=by simpa using c13
     (try (have c13b1:decide (t841 = t842) = true:=by simpa using c13))
     (try (have c13b2:(t841 == t842) = true:=by simpa using c13))
     clear c13
     have H':=am_ H
     clear H
     have hcz18_0:wr.cell? ⟨gb836,0,none⟩ = some (.int .i64 a0_0):=(bc_ BK836.out 0).trans rfl
     have hcz18_1:wr.cell? ⟨gb836,1,none⟩ = some (.int .i64 a0_1):=(bc_ BK836.out 1).trans rfl
     have hfz18_0:=bz_ BK836.out 0
     have hfz18_1:=bz_ BK836.out 1
     go_wp2_with (first | ((with_reducible refine gate_callee (f:=120) rfl ?_); refine goesL_ (some 20) rfl rfl Tryd.func120 (by kernel_rfl) rfl #[.agg #[.int .i64 a0_0,.int .i64 a0_1],.int .i64 x14_1] rfl ob_ ?_; (with_reducible refine (impl_grid_beside.calls a0_0 a0_1 x14_1 t839 t840 _ A10.out).mono ?_); rintro e w19 ⟨rfl,hb⟩; refine ⟨_,rfl,?_⟩; have n0_:=am_ (bb_ BK836.out hb); have n1_:=am_ (below_step (bl1_ HB.out GE836.out) hb); clear BK836; clear HB; have BK836:=n0_; have HB:=n1_; clear n0_ n1_; (try clear hb); (try clear hb2); (try clear hk); (try clear hi)) | ((with_reducible refine gate_callee (f:=121) rfl ?_); refine goesL_ (some 25) rfl rfl Tryd.func121 (by kernel_rfl) rfl #[.slice A1 l1.length c1,.int .i64 t839] rfl ob_ ?_; (with_reducible refine (slices_Contains_int_int.calls k1 _ _ l1 t839 t841 _ ?side1 ?side2 A11.out).mono ?_); (case side1 => exact kc_ (Kd.C_below HR1.out HB.out)); (case side2 => exact HC1.out); rintro e w' ⟨rfl,⟨nd,rfl⟩⟩; refine ⟨_,rfl,?_⟩) | ((with_reducible refine gate_callee (f:=121) rfl ?_); refine goesL_ (some 28) rfl rfl Tryd.func121 (by kernel_rfl) rfl #[.slice A1 l1.length c1,.int .i64 t840] rfl ob_ ?_; (with_reducible refine (slices_Contains_int_int.calls k1 _ _ l1 t840 t842 _ ?side1 ?side2 A12.out).mono ?_); (case side1 => repeat (first | exact (Kd.C_below HR1.out (bl1_ HB.out GE836.out)) | (with_reducible refine Kd.C_alloc ?_ _) | (with_reducible refine Kd.C_drewN ?_ _) | (with_reducible refine Kd.C_drew ?_))); (case side2 => exact HC1.out); rintro e w' ⟨rfl,⟨nd,rfl⟩⟩; refine ⟨_,rfl,?_⟩))
     go_roundg k1
     case measure => have:=HK1.out; omega
     case rel => exact ⟨(x5_1),(wrap64 (x14_1 + 1)),rs_,rs_,H',⟨by have:=HK1.out; omega⟩,⟨bk_ BK836.out⟩,⟨bl1_ HB.out GE836.out⟩⟩
   ·rw [if_neg c9] at H
    have c9b0:decide (x14_1 < (wrap64 (t837 + t838))) = false:=decide_eq_false c9
    clear c9
    obtain rfl:=Option.some.inj H
    go_wp2
    go_ret
    exact ⟨er_,bl1_ HB.out GE836.out⟩


def impl_FigureOfLoop.l0:Nat → Int → List Int → List (S84) → Int → Int → Int → Int → Option (Int × Int × List Int × List Int × Bool)
 | 0,_,_,_,_,_,_,_ => none
 | k + 1,x4,x7,x29,x30,x31,x852000,x852001 => if x31 < x30 then (if 0 ≤ x31 then (if x31 < (x29.length:Int) then (if x7.length < 17592186044416 then (impl_FigureOfLoop.l0 k x4 (x7 ++ [wrap64 ((wrap64 (((rd_T84 x29 x31).f1) * x4)) + ((rd_T84 x29 x31).f0))]) x29 x30 (wrap64 (x31 + 1)) x852000 x852001) else (none)) else (none)) else (none)) else ((impl_grid_border.f k x852000 x852001 x7).bind fun t860 => ((impl_grid_figure.f x852000 x852001 t860).bind fun bt861 => (some (bt861.1,bt861.2.1,bt861.2.2.1,bt861.2.2.2,true))))
def impl_FigureOfLoop.f (k:Nat) (a0:ByteArray):Option (Int × Int × List Int × List Int × Bool):=(impl_IsLoop.f a0).bind fun t844 => (if t844 = true then ((impl_sizeOf.f k a0).bind fun bt845 => ((impl_isGrid.f bt845.1 bt845.2).bind fun t847 => (if t847 = true then ((impl_cells.f a0).bind fun t852 => (impl_FigureOfLoop.l0 k bt845.1 (([]:List Int)) t852 (t852.length:Int) 0 bt845.1 bt845.2)) else (some (0,0,([]:List Int),([]:List Int),false))))) else (some (0,0,([]:List Int),([]:List Int),false)))
theorem impl_FigureOfLoop.mono_l:∀ k,(∀ y0 y1 y2 y3 y4 y5 y6,LeO (impl_FigureOfLoop.l0 k y0 y1 y2 y3 y4 y5 y6) (impl_FigureOfLoop.l0 (k + 1) y0 y1 y2 y3 y4 y5 y6))
 | 0 => fun _ _ _ _ _ _ _ r h => by simp [impl_FigureOfLoop.l0] at h
 | k + 1 => by
  have ih0:=impl_FigureOfLoop.mono_l k
  ·intro y0 y1 y2 y3 y4 y5 y6
   unfold impl_FigureOfLoop.l0
   repeat' first | (with_reducible first | exact ih0 _ _ _ _ _ _ _ | exact impl_grid_border.mono _ _ _ _ | exact impl_sizeOf.mono _ _ | exact LeO.refl _ | exact LeO.none _ | refine LeO.ite ?_ ?_ | refine LeO.bind ?_ (fun _ => ?_)) | exact ih0 _ _ _ _ _ _ _ | exact impl_grid_border.mono _ _ _ _ | exact impl_sizeOf.mono _ _
theorem impl_FigureOfLoop.mono:∀ a0 k,LeO (impl_FigureOfLoop.f k a0) (impl_FigureOfLoop.f (k + 1) a0):=by
 intro a0 k
 have ih0:=impl_FigureOfLoop.mono_l k
 unfold impl_FigureOfLoop.f
 repeat' first | (with_reducible first | exact ih0 _ _ _ _ _ _ _ | exact impl_grid_border.mono _ _ _ _ | exact impl_sizeOf.mono _ _ | exact LeO.refl _ | exact LeO.none _ | refine LeO.ite ?_ ?_ | refine LeO.bind ?_ (fun _ => ?_)) | exact ih0 _ _ _ _ _ _ _ | exact impl_grid_border.mono _ _ _ _ | exact impl_sizeOf.mono _ _
set_option maxHeartbeats 8000000 in
set_option maxRecDepth 100000 in
theorem impl_FigureOfLoop.calls (k:Nat) (a0:ByteArray) (r1:Int) (r2:Int) (r3:List Int) (r4:List Int) (r5:Bool) (w:World) (hT_:TB w) (h:impl_FigureOfLoop.f k a0 = some (r1,r2,r3,r4,r5)) :
  Calls Tryd.prog 27 #[.string a0] w fun e w' => ∃ v2_ v3_:Value,e = .returned (.tuple #[.agg #[.int .i64 r1,.int .i64 r2,v2_,v3_],.bool r5]) ∧ Kd.R (Kd.int .i64) 3 w' w.heap.size (fun k_ => some k_ ≠ (v3_:Value).ownBlock) v2_ r3 ∧ Kd.R (Kd.int .i64) 3 w' w.heap.size (fun k_ => some k_ ≠ (v2_:Value).ownBlock) v3_ r4 ∧ Below w.heap.size w w':=by
 have hu36:=Tryd.underlying36
 have hu75:=Tryd.underlying75
 have hu84:=Tryd.underlying84
 have HB:=am_ (Below.refl w.heap.size w)
 have HTB:=am_ hT_
 clear hT_
 have H:((impl_IsLoop.f a0).bind fun t844 => (if t844 = true then ((impl_sizeOf.f k a0).bind fun bt845 => ((impl_isGrid.f bt845.1 bt845.2).bind fun t847 => (if t847 = true then ((impl_cells.f a0).bind fun t852 => (impl_FigureOfLoop.l0 k bt845.1 (([]:List Int)) t852 (t852.length:Int) 0 bt845.1 bt845.2)) else (some (0,0,([]:List Int),([]:List Int),false))))) else (some (0,0,([]:List Int),([]:List Int),false)))) = some (r1,r2,r3,r4,r5):=h
 clear h
 replace H:=bi_ H
 obtain ⟨t844,A20,H⟩:=H
 replace H:(if t844 = true then ((impl_sizeOf.f k a0).bind fun bt845 => ((impl_isGrid.f bt845.1 bt845.2).bind fun t847 => (if t847 = true then ((impl_cells.f a0).bind fun t852 => (impl_FigureOfLoop.l0 k bt845.1 (([]:List Int)) t852 (t852.length:Int) 0 bt845.1 bt845.2)) else (some (0,0,([]:List Int),([]:List Int),false))))) else (some (0,0,([]:List Int),([]:List Int),false))) = some (r1,r2,r3,r4,r5):=H
 have A2:=am_ A20
 clear A20
 by_cases c3:t844 = true
 ·subst c3
  have H1:((impl_sizeOf.f k a0).bind fun bt845 => ((impl_isGrid.f bt845.1 bt845.2).bind fun t847 => (if t847 = true then ((impl_cells.f a0).bind fun t852 => (impl_FigureOfLoop.l0 k bt845.1 (([]:List Int)) t852 (t852.length:Int) 0 bt845.1 bt845.2)) else (some (0,0,([]:List Int),([]:List Int),false))))) = some (r1,r2,r3,r4,r5):=by rw [if_pos rfl] at H; exact H
  clear H
  have H:=H1
  clear H1
  replace H:=bi_ H
  obtain ⟨⟨t845,t846⟩,A40,H⟩:=H
  replace H:((impl_isGrid.f t845 t846).bind fun t847 => (if t847 = true then ((impl_cells.f a0).bind fun t852 => (impl_FigureOfLoop.l0 k t845 (([]:List Int)) t852 (t852.length:Int) 0 t845 t846)) else (some (0,0,([]:List Int),([]:List Int),false)))) = some (r1,r2,r3,r4,r5):=H
  have A4:=am_ A40
  clear A40
  replace H:=bi_ H
  obtain ⟨t847,A50,H⟩:=H
  replace H:(if t847 = true then ((impl_cells.f a0).bind fun t852 => (impl_FigureOfLoop.l0 k t845 (([]:List Int)) t852 (t852.length:Int) 0 t845 t846)) else (some (0,0,([]:List Int),([]:List Int),false))) = some (r1,r2,r3,r4,r5):=H
  have A5:=am_ A50
  clear A50
  by_cases c6:t847 = true
  ·subst c6
   have H1:((impl_cells.f a0).bind fun t852 => (impl_FigureOfLoop.l0 k t845 (([]:List Int)) t852 (t852.length:Int) 0 t845 t846)) = some (r1,r2,r3,r4,r5):=by rw [if_pos rfl] at H; exact H
   clear H
   have H:=H1
   clear H1
   obtain ⟨y848,hy848⟩:∃ y_:List Int,y_ = (([]:List Int)):=⟨_,rfl⟩
   replace H:((impl_cells.f a0).bind fun t852 => (impl_FigureOfLoop.l0 k t845 y848 t852 (t852.length:Int) 0 t845 t846)) = some (r1,r2,r3,r4,r5):=by first | (rw [hy848]; with_reducible exact H) | (have H2_:=(Option.bind_some _ _).symm.trans H; rw [hy848]; with_reducible exact H2_) | (have H2_:=(Option.bind_some _ _).symm.trans H; with_reducible exact H2_) | with_reducible exact H | (rw [hy848]; exact H) | exact H
   have Ny848:=am_ hy848
   clear hy848
   replace H:=bi_ H
   obtain ⟨t852,A70,H⟩:=H
   replace H:(impl_FigureOfLoop.l0 k t845 y848 t852 (t852.length:Int) 0 t845 t846) = some (r1,r2,r3,r4,r5):=H
   have A7:=am_ A70
   clear A70
   have H':=am_ H
   clear H
   go_enter Tryd.func27,Tryd.ntmps27
   go_wp2_with (first | ((with_reducible refine gate_dst (N:=2) rfl ?_); refine boxE_ (N:=2) (cs:=#[.int .i64 0,.int .i64 0,.slice none 0 0,.slice none 0 0]) (t:=36) ?_; intro gb843 hg w8 hbox hb; have n0_:=am_ (below_step (bl0_ HB.out) hb); have n1_:=am_ (hbox); have n2_:=am_ ((bs0_ hg HB.out:w.heap.size ≤ gb843)); have n3_:=am_ ((bs0_ hg HB.out:w.heap.size ≤ gb843)); clear HB; have HB:=n0_; have BK843:=n1_; have GW843:=n2_; have GE843:=n3_; clear n0_ n1_ n2_ n3_; clear hb hbox hg) | ((with_reducible refine gate_callee (f:=65) rfl ?_); refine goesL_ (some 11) rfl rfl Tryd.func65 (by kernel_rfl) rfl #[.string a0] rfl ob_ ?_; (with_reducible refine (impl_IsLoop.calls a0 true _ A2.out).mono ?_); rintro e w9 ⟨rfl,hb⟩; refine ⟨_,rfl,?_⟩; have n0_:=am_ (bb_ BK843.out hb); have n1_:=am_ (below_step (bl1_ HB.out GE843.out) hb); clear BK843; clear HB; have BK843:=n0_; have HB:=n1_; clear n0_ n1_; (try clear hb); (try clear hb2); (try clear hk); (try clear hi)) | ((with_reducible refine gate_callee (f:=66) rfl ?_); refine goesL_ (some 16) rfl rfl Tryd.func66 (by kernel_rfl) rfl #[.string a0] rfl ob_ ?_; (with_reducible refine (impl_sizeOf.calls k a0 t845 t846 _ A4.out).mono ?_); rintro e w10 ⟨rfl,hb⟩; refine ⟨_,rfl,?_⟩; have n0_:=am_ (bb_ BK843.out hb); have n1_:=am_ (below_step (bl1_ HB.out GE843.out) hb); clear BK843; clear HB; have BK843:=n0_; have HB:=n1_; clear n0_ n1_; (try clear hb); (try clear hb2); (try clear hk); (try clear hi)) | ((with_reducible refine gate_callee (f:=53) rfl ?_); refine goesL_ (some 21) rfl rfl Tryd.func53 (by kernel_rfl) rfl #[.int .i64 t845,.int .i64 t846] rfl ob_ ?_; (with_reducible refine (impl_isGrid.calls t845 t846 true _ A5.out).mono ?_); rintro e w' ⟨rfl,⟨nd,rfl⟩⟩; refine ⟨_,rfl,?_⟩; (try (rw [drewN_self w10]; generalize hq_:World.drewN w10 _ = w10; have n0_:Aside0 (w10.heap[gb843]? = some (.cells #[.int .i64 0,.int .i64 0,.slice none 0 0,.slice none 0 0] 36 (0,0))):=⟨by rw [← hq_]; exact (bk_ BK843.out)⟩; have n1_:Aside0 (Below w.heap.size w w10):=⟨by rw [← hq_]; exact (bl1_ HB.out GE843.out)⟩; clear BK843 HB hq_; have BK843:=n0_; have HB:=n1_; clear n0_ n1_))) | ((with_reducible refine gate_dst (N:=27) rfl ?_); refine Kd.R_lit (Kd.int .i64) _ 3 ?hg (N:=27) ?hd (xs:=([]:List Int)) (inner:=[]) (ok:=fun _ => True) (okp:=fun _ => True) ?hr ?hp (fun _ hk => hk) trivial (Below.refl _ _) (Nat.le_refl _) (by simp) ?_; (case hd => rfl); (case hg => rfl); (case hr => first | (go_simp; done) | (go_simp; rfl)); (case hp => exact (Reps.none _ _)); intro v849 w11 ho12 hb hg_ hnew_; clear hg_ hnew_; (first | rw [← Ny848.out] at ho12 | (simp only [Int.reduceToNat] at ho12; rw [← Ny848.out] at ho12)); have n0_:=am_ (Kd.R_lower ho12 (below_size (bl1_ HB.out GE843.out))); have n1_:=am_ (bb_ BK843.out hb); have n2_:=am_ (below_step (bl1_ HB.out GE843.out) hb); clear BK843; clear HB; have HO850:=n0_; have BK843:=n1_; have HB:=n2_; clear n0_ n1_ n2_; clear hb ho12) | ((with_reducible refine gate_dst (N:=6) rfl ?_); refine boxE_ (N:=6) (cs:=#[.int .i64 0,.int .i64 0]) (t:=75) ?_; intro gb851 hg w13 hbox hb; have n0_:=am_ (Kd.R_below (kr_ HO850.out) hb); have n1_:=am_ (bb_ BK843.out hb); have n2_:=am_ (below_step (bl1_ HB.out GE843.out) hb); have n3_:=am_ (hbox); have n4_:=am_ ((bs1_ hg HB.out GE843.out:w.heap.size ≤ gb851)); have n5_:=am_ ((bs1_ hg HB.out GE843.out:w.heap.size ≤ gb851)); have n6_:=am_ ((nl_ hg BK843.out:gb843 ≠ gb851)); have n7_:=am_ ((ng_ hg BK843.out:gb851 ≠ gb843)); clear HO850; clear BK843; clear HB; have HO850:=n0_; have BK843:=n1_; have HB:=n2_; have BK851:=n3_; have GW851:=n4_; have GE851:=n5_; have NB843_851:=n6_; have NB851_843:=n7_; clear n0_ n1_ n2_ n3_ n4_ n5_ n6_ n7_; clear hb hbox hg; have hnb14:=NB851_843.out; have hnc14:=NB843_851.out; have hcz15_0:w13.cell? ⟨gb851,0,none⟩ = some (.int .i64 0):=(bc_ BK851.out 0).trans rfl; have hcz15_1:w13.cell? ⟨gb851,1,none⟩ = some (.int .i64 0):=(bc_ BK851.out 1).trans rfl; have hfz15_0:=bz_ BK851.out 0; have hfz15_1:=bz_ BK851.out 1) | ((with_reducible refine gate_callee (f:=67) rfl ?_); refine goesL_ (some 29) rfl rfl Tryd.func67 (by kernel_rfl) rfl #[.string a0] rfl ob_ ?_; (with_reducible refine (impl_cells.calls a0 t852 _ A7.out).mono ?_); rintro e w16 ⟨v853,rfl,ho0,hb⟩; refine ⟨_,rfl,?_⟩; have n0_:=am_ (Kd.R_below (by (with_reducible repeat (first | apply Kd.R_alloc | apply Kd.R_drewN | apply Kd.R_drew)); exact (Kd.R_mono (Kd.R_far (p:=⟨gb851,1,none⟩) (Kd.R_far (p:=⟨gb851,0,none⟩) (Kd.R_types HO850.out BK851.out (by decide)) (fun _ hk => hk.2) (.int .i64 t845)) (fun _ hk => hk.2) (.int .i64 t846)) (fun _ h_ => h_.1))) hb); have n1_:=am_ (Kd.R_lower ho0 (below_size (bl2_ HB.out GE843.out GE851.out))); have n2_:=am_ (blk_below (g:=gb843) (o:=.cells #[.int .i64 0,.int .i64 0,.slice none 0 0,.slice none 0 0] 36 (0,0)) (bf2_ NB843_851.out NB843_851.out BK843.out) hb); have n3_:=am_ (blk_below (g:=gb851) (o:=.cells #[.int .i64 t845,.int .i64 t846] 75 (0,0)) (by (with_reducible repeat (first | refine blk_drewN ?_ _ | refine blk_drew ?_ | refine blk_alloc ?_ _)); refine blk_put (cs:=#[.int .i64 t845,.int .i64 0]) ?_ 1 _ rfl; (with_reducible repeat (first | refine blk_drewN ?_ _ | refine blk_drew ?_ | refine blk_alloc ?_ _)); refine blk_put (cs:=#[.int .i64 0,.int .i64 0]) ?_ 0 _ rfl; (with_reducible repeat (first | refine blk_drewN ?_ _ | refine blk_drew ?_ | refine blk_alloc ?_ _)); exact BK851.out) hb); have n4_:=am_ (below_step (bl2_ HB.out GE843.out GE851.out) hb); clear HO850; clear BK843; clear BK851; clear HB; have HO850:=n0_; have HO854:=n1_; have BK843:=n2_; have BK851:=n3_; have HB:=n4_; clear n0_ n1_ n2_ n3_ n4_; (try clear hb); (try clear hb2); (try clear hk); (try clear hi); (try clear ho0); obtain ⟨Ao17,co17,eo17⟩:=Kd.R_slice HO854.out; subst eo17))
   go_loopg [7,31] k (fun kq v7 v31 w' => ∃ (x7_1:List Int) (x31_1:Int),v31 = .int .i64 x31_1 ∧ Aside0 (impl_FigureOfLoop.l0 kq t845 x7_1 t852 (t852.length:Int) x31_1 t845 t846 = some (r1,r2,r3,r4,r5)) ∧ Aside0 (kq ≤ k) ∧ Aside0 (Kd.R (Kd.int .i64) 3 w' w.heap.size (fun _ => True) v7 x7_1) ∧ Aside0 (Kd.R k84 84 w' w.heap.size (fun _ => True) (.slice Ao17 t852.length co17) t852) ∧ Aside0 (w'.heap[gb843]? = some (.cells #[.int .i64 0,.int .i64 0,(.slice none 0 0),(.slice none 0 0)] 36 (0,0))) ∧ Aside0 (w'.heap[gb851]? = some (.cells #[.int .i64 t845,.int .i64 t846] 75 (0,0))) ∧ Aside0 (Below w.heap.size w w'))
   case atStart => exact ⟨(y848),(0),rs_,H',⟨Nat.le_refl _⟩,⟨kr_ HO850.out⟩,⟨kr_ HO854.out⟩,⟨bk_ BK843.out⟩,⟨bk_ BK851.out⟩,⟨bl2_ HB.out GE843.out GE851.out⟩⟩
   case round =>
    clear H'
    try clear c1
    try clear c2
    try clear p2
    try clear c3
    try clear c5
    try clear c6
    try clear c14
    try clear hcz15_0
    try clear hcz15_1
    try clear hfz15_0
    try clear hfz15_1
    obtain ⟨x7_1,x31_1,rfl,HA,HK1,HO_7,HO_29,BK843,BK851,HB⟩:=hrel
    cases gk with
    | zero => exact absurd HA.out (by simp [impl_FigureOfLoop.l0])
    | succ k1 =>
     have H:=HA.out
     clear HA
     simp only [impl_FigureOfLoop.l0] at H
     by_cases c18:x31_1 < (t852.length:Int)
     ·rw [if_pos c18] at H
      have c18b0:decide (x31_1 < (t852.length:Int)) = true:=decide_eq_true c18
      clear c18
      by_cases c19:0 ≤ x31_1
      ·rw [if_pos c19] at H
       have c19b0:decide (0 ≤ x31_1) = true:=decide_eq_true c19
       clear c19
       by_cases c20:x31_1 < (t852.length:Int)
       ·rw [if_pos c20] at H
        have c20b0:decide (x31_1 < (t852.length:Int)) = true:=decide_eq_true c20
        clear c20
        by_cases c21:x7_1.length < 17592186044416
        ·rw [if_pos c21] at H
         have LMc21:=am_ c21
         clear c21
         obtain ⟨y857,hy857⟩:∃ y_:List Int,y_ = (x7_1 ++ [wrap64 ((wrap64 (((rd_T84 t852 x31_1).f1) * t845)) + ((rd_T84 t852 x31_1).f0))]):=⟨_,rfl⟩
         replace H:(impl_FigureOfLoop.l0 k1 t845 y857 t852 (t852.length:Int) (wrap64 (x31_1 + 1)) t845 t846) = some (r1,r2,r3,r4,r5):=by first | (rw [hy857]; with_reducible exact H) | (have H2_:=(Option.bind_some _ _).symm.trans H; rw [hy857]; with_reducible exact H2_) | (have H2_:=(Option.bind_some _ _).symm.trans H; with_reducible exact H2_) | with_reducible exact H | (rw [hy857]; exact H) | exact H
         have Ny857:=am_ hy857
         clear hy857
         have H':=am_ H
         clear H
         have p855:0 ≤ (x31_1:Int):=of_decide_eq_true as_
         have q855:x31_1 < (t852.length:Int):=of_decide_eq_true as_
         obtain ⟨ad855,e855,hx855_0,hx855_1⟩:=at_T84 (Kd.R_reads' HO_29.out).2.2 x31_1 p855 q855
         cases e855
         replace p855:=eq_true p855
         replace q855:=eq_true q855
         go_wp2_with (first | ((with_reducible refine gate_dst (N:=9) rfl ?_); refine boxE_ (N:=9) (cs:=#[.int .i64 0,.int .i64 0]) (t:=84) ?_; intro gb856 hg w22 hbox hb; have n0_:=am_ (Kd.R_below (kr_ HO_7.out) hb); have n1_:=am_ (Kd.R_below (Kd.R_elderB (kr_ HO_29.out) gb856 (Nat.le_of_eq hg.symm)) hb); have n2_:=am_ (bb_ BK843.out hb); have n3_:=am_ (bb_ BK851.out hb); have n4_:=am_ (below_step (bl2_ HB.out GE843.out GE851.out) hb); have n5_:=am_ (hbox); have n6_:=am_ ((bs2_ hg HB.out GE843.out GE851.out:w.heap.size ≤ gb856)); have n7_:=am_ ((bs2_ hg HB.out GE843.out GE851.out:w.heap.size ≤ gb856)); have n8_:=am_ ((nl_ hg BK843.out:gb843 ≠ gb856)); have n9_:=am_ ((ng_ hg BK843.out:gb856 ≠ gb843)); have n10_:=am_ ((nl_ hg BK851.out:gb851 ≠ gb856)); have n11_:=am_ ((ng_ hg BK851.out:gb856 ≠ gb851)); clear HO_7; clear HO_29; clear BK843; clear BK851; clear HB; have HO_7:=n0_; have HO_29:=n1_; have BK843:=n2_; have BK851:=n3_; have HB:=n4_; have BK856:=n5_; have GW856:=n6_; have GE856:=n7_; have NB843_856:=n8_; have NB856_843:=n9_; have NB851_856:=n10_; have NB856_851:=n11_; clear n0_ n1_ n2_ n3_ n4_ n5_ n6_ n7_ n8_ n9_ n10_ n11_; clear hb hbox hg; have hnb23:=NB856_843.out; have hnc23:=NB843_856.out; have hnb24:=NB856_851.out; have hnc24:=NB851_856.out; have hcz25_0:w22.cell? ⟨gb856,0,none⟩ = some (.int .i64 0):=(bc_ BK856.out 0).trans rfl; have hcz25_1:w22.cell? ⟨gb856,1,none⟩ = some (.int .i64 0):=(bc_ BK856.out 1).trans rfl; have hfz25_0:=bz_ BK856.out 0; have hfz25_1:=bz_ BK856.out 1) | ((with_reducible refine gate_builtin (b:=.append) (xs:=#[.tmp 35,.tmp 43]) rfl ?_); at_builtin; refine Kd.R_append (Kd.int .i64) (w0:=w) w.heap.size rfl (.tmp 35) (.tmp 43) 22 3 (.int .i64 0) 8 rfl Tryd.underlying22 info3 rfl (by decide) (by omega) u7 x7_1 (wrap64 ((wrap64 (((rd_T84 t852 x31_1).f1) * t845)) + ((rd_T84 t852 x31_1).f0))) [.int .i64 (wrap64 ((wrap64 (((rd_T84 t852 x31_1).f1) * t845)) + ((rd_T84 t852 x31_1).f0)))] (fun _ => True) (fun _ => False) rfl (by first | (go_simp; done) | (go_simp; rfl)) ?aP (fun _ hk => hk.elim) ?aF ?aO ?aB ?aS ?aL ?_; (case aP => exact rfl); (case aB => exact (bl3_ HB.out GE843.out GE851.out GE856.out)); (case aF => exact (fun _ _ => trivial)); (case aO => exact (by (with_reducible repeat (first | apply Kd.R_alloc | apply Kd.R_drewN | apply Kd.R_drew)); exact Kd.R_mono (Kd.R_far (p:=⟨gb856,1,none⟩) (Kd.R_far (p:=⟨gb856,0,none⟩) (Kd.R_types HO_7.out BK856.out (by decide)) (fun _ hk => hk.2) (.int .i64 ((rd_T84 t852 x31_1).f0))) (fun _ hk => hk.2) (.int .i64 ((rd_T84 t852 x31_1).f1))) (fun _ hk => trivial))); (case aS => exact (below_size (bl3_ HB.out GE843.out GE851.out GE856.out))); (case aL => have:=LMc21.out; omega); intro v858 w26 ho hb hg hat; rw [← Ny857.out] at ho; have n0_:=am_ (Kd.R_over' (by (with_reducible repeat (first | apply Kd.R_alloc | apply Kd.R_drewN | apply Kd.R_drew)); exact (Kd.R_mono (Kd.R_far (p:=⟨gb856,1,none⟩) (Kd.R_far (p:=⟨gb856,0,none⟩) (Kd.R_mono HO_29.out (fun k_ hk => (⟨hk,hk.2⟩:_ ∧ k_ ≠ gb856))) (fun _ hk => hk.2) (.int .i64 ((rd_T84 t852 x31_1).f0))) (fun _ hk => hk.2) (.int .i64 ((rd_T84 t852 x31_1).f1))) (fun _ h_ => h_.1))) (Kd.R_typed (by (with_reducible repeat (first | apply Kd.R_alloc | apply Kd.R_drewN | apply Kd.R_drew)); exact (Kd.R_mono (Kd.R_far (p:=⟨gb856,1,none⟩) (Kd.R_far (p:=⟨gb856,0,none⟩) (Kd.R_types HO_7.out BK856.out (by decide)) (fun _ hk => hk.2) (.int .i64 ((rd_T84 t852 x31_1).f0))) (fun _ hk => hk.2) (.int .i64 ((rd_T84 t852 x31_1).f1))) (fun _ h_ => h_.1)))) (by decide) hg); have n1_:=am_ (blk_grown (g:=gb843) (o:=.cells #[.int .i64 0,.int .i64 0,.slice none 0 0,.slice none 0 0] 36 (0,0)) (bf2_ NB843_856.out NB843_856.out BK843.out) hg (Kd.R_ne HO_7.out BK843.out (by decide))); have n2_:=am_ (blk_grown (g:=gb851) (o:=.cells #[.int .i64 t845,.int .i64 t846] 75 (0,0)) (bf2_ NB851_856.out NB851_856.out BK851.out) hg (Kd.R_ne HO_7.out BK851.out (by decide))); have n3_:=am_ (blk_grown (g:=gb856) (o:=.cells #[.int .i64 ((rd_T84 t852 x31_1).f0),.int .i64 ((rd_T84 t852 x31_1).f1)] 84 (0,0)) (by (with_reducible repeat (first | refine blk_drewN ?_ _ | refine blk_drew ?_ | refine blk_alloc ?_ _)); refine blk_put (cs:=#[.int .i64 ((rd_T84 t852 x31_1).f0),.int .i64 0]) ?_ 1 _ rfl; (with_reducible repeat (first | refine blk_drewN ?_ _ | refine blk_drew ?_ | refine blk_alloc ?_ _)); refine blk_put (cs:=#[.int .i64 0,.int .i64 0]) ?_ 0 _ rfl; (with_reducible repeat (first | refine blk_drewN ?_ _ | refine blk_drew ?_ | refine blk_alloc ?_ _)); exact BK856.out) hg (Kd.R_ne HO_7.out BK856.out (by decide))); have n4_:=am_ (hb); have n5_:=am_ (ho); clear HO_29; clear BK843; clear BK851; clear BK856; clear HB; clear HO_7; have HO_29:=n0_; have BK843:=n1_; have BK851:=n2_; have BK856:=n3_; have HB:=n4_; have HO859:=n5_; clear n0_ n1_ n2_ n3_ n4_ n5_; clear ho hb hg hat))
         go_roundg k1
         case measure => have:=HK1.out; omega
         case rel => exact ⟨(y857),(wrap64 (x31_1 + 1)),rs_,H',⟨by have:=HK1.out; omega⟩,⟨kr_ HO859.out⟩,⟨by (with_reducible repeat (first | apply Kd.R_alloc | apply Kd.R_drewN | apply Kd.R_drew)); exact Kd.R_mono HO_29.out (fun _ hk => trivial)⟩,⟨bk_ BK843.out⟩,⟨bk_ BK851.out⟩,⟨bl3_ HB.out GE843.out GE851.out GE856.out⟩⟩
        ·rw [if_neg c21] at H
         exact absurd H (by simp)
       ·rw [if_neg c20] at H
        exact absurd H (by simp)
      ·rw [if_neg c19] at H
       exact absurd H (by simp)
     ·rw [if_neg c18] at H
      have c18b0:decide (x31_1 < (t852.length:Int)) = false:=decide_eq_false c18
      clear c18
      replace H:=bi_ H
      obtain ⟨t860,A270,H⟩:=H
      replace H:((impl_grid_figure.f t845 t846 t860).bind fun bt861 => (some (bt861.1,bt861.2.1,bt861.2.2.1,bt861.2.2.2,true))) = some (r1,r2,r3,r4,r5):=H
      have A27:=am_ A270
      clear A270
      replace H:=bi_ H
      obtain ⟨⟨t861,t862,t863,t866⟩,A280,H⟩:=H
      replace H:(some (t861,t862,t863,t866,true)) = some (r1,r2,r3,r4,r5):=H
      have A28:=am_ A280
      clear A280
      simp only [Option.some.injEq,Prod.mk.injEq] at H
      obtain ⟨rfl,rfl,rfl,rfl,rfl⟩:=H
      try go_wp2
      have n0_:=am_ (Kd.R_drew HO_7.out)
      have n1_:=am_ (Kd.R_drew HO_29.out)
      have n2_:=am_ (blk_drew BK843.out)
      have n3_:=am_ (blk_drew BK851.out)
      have n4_:=am_ (below_drew1 HB.out)
      clear HO_7
      clear HO_29
      clear BK843
      clear BK851
      clear HB
      have HO_7:=n0_
      have HO_29:=n1_
      have BK843:=n2_
      have BK851:=n3_
      have HB:=n4_
      clear n0_ n1_ n2_ n3_ n4_
      obtain ⟨Ao30,co30,eo30⟩:=Kd.R_slice HO_7.out
      (first | subst eo30 | (injection eo30 with f1_ f2_ f3_; have f4_:=f1_.symm; have f5_:=f3_.symm; clear f1_ f2_ f3_; subst f4_; subst f5_))
      refine start_ (n:=7) (S:=fun w' => w'.cell? ⟨gb851,0,none⟩ = some (.int .i64 t845) ∧ w'.cell? ⟨gb851,1,none⟩ = some (.int .i64 t846)) (ds:=[]) #[false,false,false,false,false,false,false] (by kernel_rfl) rfl rfl ⟨(bc_ BK851.out 0).trans rfl,(bc_ BK851.out 1).trans rfl⟩ (fun hHeld => ?_)
      generalize wr.drew = w29 at HO_7 HO_29 BK843 BK851 HB hHeld ⊢
      refine pure_ (i:=2) (N:=some 48) (v:=?_) (a':=?_) #[false,false,true,false,false,false,false] rfl rfl (by kernel_rfl) (fun _ _ _ h => h) (Or.inl ⟨by rfl,?_⟩) ?_ ?_
      rotate_left
      ·intro w'
       go_simp
       with_reducible rfl
      rotate_left
      ·simp only [Act.put,List.setIfInBounds_toArray,List.set_cons_zero,List.set_cons_succ,i64_w,i32_w]
       rfl
      refine take_ (i:=0) (N:=some 46) (v:=?_) (a':=?_) #[true,false,true,false,false,false,false] rfl rfl (by kernel_rfl) (fun _ _ _ h => h) (Or.inl ⟨by rfl,?_⟩) hHeld ?_ ?_
      rotate_left
      ·rintro w' ⟨s0,s1⟩
       go_simp
       with_reducible rfl
      rotate_left
      ·simp only [Act.put,List.setIfInBounds_toArray,List.set_cons_zero,List.set_cons_succ,i64_w,i32_w]
       rfl
      refine take_ (i:=1) (N:=some 47) (v:=?_) (a':=?_) #[true,true,true,false,false,false,false] rfl rfl (by kernel_rfl) (fun _ _ _ h => h) (Or.inl ⟨by rfl,?_⟩) hHeld ?_ ?_
      rotate_left
      ·rintro w' ⟨s0,s1⟩
       go_simp
       with_reducible rfl
      rotate_left
      ·simp only [Act.put,List.setIfInBounds_toArray,List.set_cons_zero,List.set_cons_succ,i64_w,i32_w]
       rfl
      refine one_ (i:=3) (N:=some 49) #[true,true,true,true,false,false,false] rfl rfl (by kernel_rfl) (by decide) (fun K hK => ?_)
      refine goes_ Tryd.func68 (by kernel_rfl) rfl #[.agg #[.int .i64 t845,.int .i64 t846],.slice Ao30 x7_1.length co30] (by rfl) rfl rfl ob_ ?_
      with_reducible refine (impl_grid_border.calls k1 t845 t846 _ _ x7_1 t860 _ ?side1 ?side2 A27.out).mono ?_
      (case side1 => repeat (first | exact (Kd.R_reads' HO_7.out).2.2 | (with_reducible refine Kd.C_alloc ?_ _) | (with_reducible refine Kd.C_drewN ?_ _) | (with_reducible refine Kd.C_drew ?_)))
      (case side2 => exact (Kd.R_reads' HO_7.out).2.1)
      rintro e w31 ⟨rfl,hb⟩
      refine ⟨_,rfl,?_⟩
      have n0_:=am_ (Kd.R_below (kr_ HO_7.out) hb)
      have n1_:=am_ (Kd.R_below (kr_ HO_29.out) hb)
      have n2_:=am_ (bb_ BK843.out hb)
      have n3_:=am_ (bb_ BK851.out hb)
      have n4_:=am_ (below_step (bl2_ HB.out GE843.out GE851.out) hb)
      clear HO_7
      clear HO_29
      clear BK843
      clear BK851
      clear HB
      have HO_7:=n0_
      have HO_29:=n1_
      have BK843:=n2_
      have BK851:=n3_
      have HB:=n4_
      clear n0_ n1_ n2_ n3_ n4_
      (try clear hb)
      (try clear hb2)
      (try clear hk)
      (try clear hi)
      refine hK.out _ _ ⟨(bc_ BK851.out 0).trans rfl,(bc_ BK851.out 1).trans rfl⟩ (fun hHeld => ?_)
      clear hK K
      refine norm_ (a':=?_) ?_ ?_
      rotate_left
      ·show Act.put _ (some 49) _ = _
       simp only [Act.put,List.setIfInBounds_toArray,List.set_cons_zero,List.set_cons_succ,i64_w,i32_w]
       rfl
      refine one_ (i:=4) (N:=some 50) #[true,true,true,true,true,false,false] rfl rfl (by kernel_rfl) (by decide) (fun K hK => ?_)
      refine goes_ Tryd.func56 (by kernel_rfl) rfl #[.agg #[.int .i64 t845,.int .i64 t846],.int .u64 t860] (by rfl) rfl rfl ob_ ?_
      with_reducible refine (impl_grid_figure.calls t845 t846 t860 t861 t862 t863 t866 _ (TB.below HTB.out (bl2_ HB.out GE843.out GE851.out)) A28.out).mono ?_
      rintro e w32 ⟨v864,v867,rfl,ho0,ho1,hb⟩
      refine ⟨_,rfl,?_⟩
      have n0_:=am_ (Kd.R_mono (Kd.R_told (Kd.R_told (Kd.R_old (kr_ HO_7.out) hb) (Kd.R_base ho0)) (Kd.R_base ho1)) (fun _ h_ => h_.1))
      have n1_:=am_ (Kd.R_below (kr_ HO_29.out) hb)
      have n2_:=am_ (Kd.R_lower (Kd.R_new' ho0 (Kd.R_lt (kr_ HO_7.out))) (below_size (bl2_ HB.out GE843.out GE851.out)))
      have n3_:=am_ (Kd.R_lower (Kd.R_new' ho1 (Kd.R_lt (kr_ HO_7.out))) (below_size (bl2_ HB.out GE843.out GE851.out)))
      have n4_:=am_ (bb_ BK843.out hb)
      have n5_:=am_ (bb_ BK851.out hb)
      have n6_:=am_ (below_step (bl2_ HB.out GE843.out GE851.out) hb)
      clear HO_7
      clear HO_29
      clear BK843
      clear BK851
      clear HB
      have HO_7:=n0_
      have HO_29:=n1_
      have HO865:=n2_
      have HO868:=n3_
      have BK843:=n4_
      have BK851:=n5_
      have HB:=n6_
      clear n0_ n1_ n2_ n3_ n4_ n5_ n6_
      (try clear hb)
      (try clear hb2)
      (try clear hk)
      (try clear hi)
      (try clear ho0)
      (try clear ho1)
      obtain ⟨Ao35,co35,eo35⟩:=Kd.R_slice HO865.out
      (first | subst eo35 | (injection eo35 with f1_ f2_ f3_; have f4_:=f1_.symm; have f5_:=f3_.symm; clear f1_ f2_ f3_; subst f4_; subst f5_))
      obtain ⟨Ao37,co37,eo37⟩:=Kd.R_slice HO868.out
      (first | subst eo37 | (injection eo37 with f1_ f2_ f3_; have f4_:=f1_.symm; have f5_:=f3_.symm; clear f1_ f2_ f3_; subst f4_; subst f5_))
      refine hK.out _ _ ⟨(bc_ BK851.out 0).trans rfl,(bc_ BK851.out 1).trans rfl⟩ (fun hHeld => ?_)
      clear hK K
      refine norm_ (a':=?_) ?_ ?_
      rotate_left
      ·show Act.put _ (some 50) _ = _
       simp only [Act.put,List.setIfInBounds_toArray,List.set_cons_zero,List.set_cons_succ,i64_w,i32_w]
       rfl
      refine one_ (i:=5) (N:=none) #[true,true,true,true,true,true,false] rfl rfl (by kernel_rfl) (by decide) (fun K hK => ?_)
      have hs33:w32.cell? ⟨gb843,0,none⟩ = some (.int .i64 0):=(bc_ BK843.out 0).trans rfl
      have hfs33:=bz_ BK843.out 0
      have hns33_1:=NB851_843.out
      have hms33_1:=NB843_851.out
      have hs34:w32.cell? ⟨gb843,1,none⟩ = some (.int .i64 0):=(bc_ BK843.out 1).trans rfl
      have hfs34:=bz_ BK843.out 1
      have hns34_1:=NB851_843.out
      have hms34_1:=NB843_851.out
      have hs36:w32.cell? ⟨gb843,2,none⟩ = some (.slice none 0 0):=(bc_ BK843.out 2).trans rfl
      have hfs36:=bz_ BK843.out 2
      have hns36_1:=NB851_843.out
      have hms36_1:=NB843_851.out
      have hs38:w32.cell? ⟨gb843,3,none⟩ = some (.slice none 0 0):=(bc_ BK843.out 3).trans rfl
      have hfs38:=bz_ BK843.out 3
      have hns38_1:=NB851_843.out
      have hms38_1:=NB843_851.out
      refine skip_ (w1:=?_) (by rfl) rfl ?_ ?_
      rotate_left
      ·go_simp
       rfl
      refine hK.out _ _ ⟨((cell_far (p:=⟨gb843,_,none⟩) NB851_843.out _).trans (((cell_far (p:=⟨gb843,_,none⟩) NB851_843.out _).trans (((cell_far (p:=⟨gb843,_,none⟩) NB851_843.out _).trans (((cell_far (p:=⟨gb843,_,none⟩) NB851_843.out _).trans (hHeld.1)))))))),((cell_far (p:=⟨gb843,_,none⟩) NB851_843.out _).trans (((cell_far (p:=⟨gb843,_,none⟩) NB851_843.out _).trans (((cell_far (p:=⟨gb843,_,none⟩) NB851_843.out _).trans (((cell_far (p:=⟨gb843,_,none⟩) NB851_843.out _).trans (hHeld.2))))))))⟩ (fun hHeld => ?_)
      clear hK K
      refine pure_ (i:=6) (N:=some 3) (v:=?_) (a':=?_) #[true,true,true,true,true,true,true] rfl rfl (by kernel_rfl) (fun _ _ _ h => h) (Or.inl ⟨by rfl,?_⟩) ?_ ?_
      rotate_left
      ·intro w'
       go_simp
       with_reducible rfl
      rotate_left
      ·simp only [Act.put,List.setIfInBounds_toArray,List.set_cons_zero,List.set_cons_succ,i64_w,i32_w]
       rfl
      refine done_ (by kernel_rfl) ?_
      try go_wp2
      refine bodyPost_ret (results_ct rfl _ _ gb843 36 #[.int .i64 t861,.int .i64 t862,.slice Ao35 t863.length co35,.slice Ao37 t866.length co37] (0,0) _ rfl (by (with_reducible repeat (first | refine blk_drewN ?_ _ | refine blk_drew ?_ | refine blk_alloc ?_ _)); refine blk_put (cs:=#[.int .i64 t861,.int .i64 t862,.slice Ao35 t863.length co35,.slice none 0 0]) ?_ 3 _ rfl; (with_reducible repeat (first | refine blk_drewN ?_ _ | refine blk_drew ?_ | refine blk_alloc ?_ _)); refine blk_put (cs:=#[.int .i64 t861,.int .i64 t862,.slice none 0 0,.slice none 0 0]) ?_ 2 _ rfl; (with_reducible repeat (first | refine blk_drewN ?_ _ | refine blk_drew ?_ | refine blk_alloc ?_ _)); refine blk_put (cs:=#[.int .i64 t861,.int .i64 0,.slice none 0 0,.slice none 0 0]) ?_ 1 _ rfl; (with_reducible repeat (first | refine blk_drewN ?_ _ | refine blk_drew ?_ | refine blk_alloc ?_ _)); refine blk_put (cs:=#[.int .i64 0,.int .i64 0,.slice none 0 0,.slice none 0 0]) ?_ 0 _ rfl; (with_reducible repeat (first | refine blk_drewN ?_ _ | refine blk_drew ?_ | refine blk_alloc ?_ _)); exact BK843.out) Tryd.underlying36 rfl (by kernel_rfl)) rfl ?_
      exact ⟨_,_,er_,by (with_reducible repeat (first | apply Kd.R_alloc | apply Kd.R_drewN | apply Kd.R_drew)); exact Kd.R_mono (Kd.R_far (p:=⟨gb843,3,none⟩) (Kd.R_far (p:=⟨gb843,2,none⟩) (Kd.R_far (p:=⟨gb843,1,none⟩) (Kd.R_far (p:=⟨gb843,0,none⟩) (Kd.R_types HO865.out BK843.out (by decide)) (fun _ hk => hk.2) (.int .i64 t861)) (fun _ hk => hk.2) (.int .i64 t862)) (fun _ hk => hk.2) (.slice Ao35 t863.length co35)) (fun _ hk => hk.2) (.slice Ao37 t866.length co37)) (fun _ hk => hk.1.1),by (with_reducible repeat (first | apply Kd.R_alloc | apply Kd.R_drewN | apply Kd.R_drew)); exact Kd.R_mono (Kd.R_far (p:=⟨gb843,3,none⟩) (Kd.R_far (p:=⟨gb843,2,none⟩) (Kd.R_far (p:=⟨gb843,1,none⟩) (Kd.R_far (p:=⟨gb843,0,none⟩) (Kd.R_types HO868.out BK843.out (by decide)) (fun _ hk => hk.2) (.int .i64 t861)) (fun _ hk => hk.2) (.int .i64 t862)) (fun _ hk => hk.2) (.slice Ao35 t863.length co35)) (fun _ hk => hk.2) (.slice Ao37 t866.length co37)) (fun _ hk => hk.1.1),bl2_ HB.out GE843.out GE851.out⟩
  ·replace c6:=Bool.eq_false_iff.mpr c6
   subst c6
   have H1:(some (0,0,([]:List Int),([]:List Int),false)) = some (r1,r2,r3,r4,r5):=by rw [if_neg (show ¬ (false = true) by decide)] at H; exact H
   clear H
   have H:=H1
   clear H1
   simp only [Option.some.injEq,Prod.mk.injEq] at H
   obtain ⟨rfl,rfl,rfl,rfl,rfl⟩:=H
   go_enter Tryd.func27,Tryd.ntmps27
   go_wp2_with (first | ((with_reducible refine gate_dst (N:=2) rfl ?_); refine boxE_ (N:=2) (cs:=#[.int .i64 0,.int .i64 0,.slice none 0 0,.slice none 0 0]) (t:=36) ?_; intro gb843 hg w39 hbox hb; have n0_:=am_ (below_step (bl0_ HB.out) hb); have n1_:=am_ (hbox); have n2_:=am_ ((bs0_ hg HB.out:w.heap.size ≤ gb843)); have n3_:=am_ ((bs0_ hg HB.out:w.heap.size ≤ gb843)); clear HB; have HB:=n0_; have BK843:=n1_; have GW843:=n2_; have GE843:=n3_; clear n0_ n1_ n2_ n3_; clear hb hbox hg) | ((with_reducible refine gate_callee (f:=65) rfl ?_); refine goesL_ (some 11) rfl rfl Tryd.func65 (by kernel_rfl) rfl #[.string a0] rfl ob_ ?_; (with_reducible refine (impl_IsLoop.calls a0 true _ A2.out).mono ?_); rintro e w40 ⟨rfl,hb⟩; refine ⟨_,rfl,?_⟩; have n0_:=am_ (bb_ BK843.out hb); have n1_:=am_ (below_step (bl1_ HB.out GE843.out) hb); clear BK843; clear HB; have BK843:=n0_; have HB:=n1_; clear n0_ n1_; (try clear hb); (try clear hb2); (try clear hk); (try clear hi)) | ((with_reducible refine gate_callee (f:=66) rfl ?_); refine goesL_ (some 16) rfl rfl Tryd.func66 (by kernel_rfl) rfl #[.string a0] rfl ob_ ?_; (with_reducible refine (impl_sizeOf.calls k a0 t845 t846 _ A4.out).mono ?_); rintro e w41 ⟨rfl,hb⟩; refine ⟨_,rfl,?_⟩; have n0_:=am_ (bb_ BK843.out hb); have n1_:=am_ (below_step (bl1_ HB.out GE843.out) hb); clear BK843; clear HB; have BK843:=n0_; have HB:=n1_; clear n0_ n1_; (try clear hb); (try clear hb2); (try clear hk); (try clear hi)) | ((with_reducible refine gate_callee (f:=53) rfl ?_); refine goesL_ (some 21) rfl rfl Tryd.func53 (by kernel_rfl) rfl #[.int .i64 t845,.int .i64 t846] rfl ob_ ?_; (with_reducible refine (impl_isGrid.calls t845 t846 false _ A5.out).mono ?_); rintro e w' ⟨rfl,⟨nd,rfl⟩⟩; refine ⟨_,rfl,?_⟩; (try (rw [drewN_self w41]; generalize hq_:World.drewN w41 _ = w41; have n0_:Aside0 (w41.heap[gb843]? = some (.cells #[.int .i64 0,.int .i64 0,.slice none 0 0,.slice none 0 0] 36 (0,0))):=⟨by rw [← hq_]; exact (bk_ BK843.out)⟩; have n1_:Aside0 (Below w.heap.size w w41):=⟨by rw [← hq_]; exact (bl1_ HB.out GE843.out)⟩; clear BK843 HB hq_; have BK843:=n0_; have HB:=n1_; clear n0_ n1_)); have hcz42_0:w41.cell? ⟨gb843,0,none⟩ = some (.int .i64 0):=(bc_ BK843.out 0).trans rfl; have hcz42_1:w41.cell? ⟨gb843,1,none⟩ = some (.int .i64 0):=(bc_ BK843.out 1).trans rfl; have hcz42_2:w41.cell? ⟨gb843,2,none⟩ = some (.slice none 0 0):=(bc_ BK843.out 2).trans rfl; have hcz42_3:w41.cell? ⟨gb843,3,none⟩ = some (.slice none 0 0):=(bc_ BK843.out 3).trans rfl; have hfz42_0:=bz_ BK843.out 0; have hfz42_1:=bz_ BK843.out 1; have hfz42_2:=bz_ BK843.out 2; have hfz42_3:=bz_ BK843.out 3))
   refine bodyPost_ret (results_ct rfl _ _ gb843 36 #[.int .i64 0,.int .i64 0,.slice none 0 0,.slice none 0 0] (0,0) _ rfl (by (with_reducible repeat (first | refine blk_drewN ?_ _ | refine blk_drew ?_ | refine blk_alloc ?_ _)); refine blk_put (cs:=#[.int .i64 0,.int .i64 0,.slice none 0 0,.slice none 0 0]) ?_ 3 _ rfl; (with_reducible repeat (first | refine blk_drewN ?_ _ | refine blk_drew ?_ | refine blk_alloc ?_ _)); refine blk_put (cs:=#[.int .i64 0,.int .i64 0,.slice none 0 0,.slice none 0 0]) ?_ 2 _ rfl; (with_reducible repeat (first | refine blk_drewN ?_ _ | refine blk_drew ?_ | refine blk_alloc ?_ _)); refine blk_put (cs:=#[.int .i64 0,.int .i64 0,.slice none 0 0,.slice none 0 0]) ?_ 1 _ rfl; (with_reducible repeat (first | refine blk_drewN ?_ _ | refine blk_drew ?_ | refine blk_alloc ?_ _)); refine blk_put (cs:=#[.int .i64 0,.int .i64 0,.slice none 0 0,.slice none 0 0]) ?_ 0 _ rfl; (with_reducible repeat (first | refine blk_drewN ?_ _ | refine blk_drew ?_ | refine blk_alloc ?_ _)); exact BK843.out) Tryd.underlying36 rfl (by kernel_rfl)) rfl ?_
   exact ⟨_,_,er_,by first | exact Kd.R_nil _ _ _ _ _ | exact Kd.N_nil _ _ _ _ _ | exact Kd.V_nil _ _ _ _ _ | exact Kd.Q_nil _ _ _ _ _ | exact Kd.S_nil _ _ _ _ _,by first | exact Kd.R_nil _ _ _ _ _ | exact Kd.N_nil _ _ _ _ _ | exact Kd.V_nil _ _ _ _ _ | exact Kd.Q_nil _ _ _ _ _ | exact Kd.S_nil _ _ _ _ _,bl1_ HB.out GE843.out⟩
 ·replace c3:=Bool.eq_false_iff.mpr c3
  subst c3
  have H1:(some (0,0,([]:List Int),([]:List Int),false)) = some (r1,r2,r3,r4,r5):=by rw [if_neg (show ¬ (false = true) by decide)] at H; exact H
  clear H
  have H:=H1
  clear H1
  simp only [Option.some.injEq,Prod.mk.injEq] at H
  obtain ⟨rfl,rfl,rfl,rfl,rfl⟩:=H
  go_enter Tryd.func27,Tryd.ntmps27
  go_wp2_with (first | ((with_reducible refine gate_dst (N:=2) rfl ?_); refine boxE_ (N:=2) (cs:=#[.int .i64 0,.int .i64 0,.slice none 0 0,.slice none 0 0]) (t:=36) ?_; intro gb843 hg w43 hbox hb; have n0_:=am_ (below_step (bl0_ HB.out) hb); have n1_:=am_ (hbox); have n2_:=am_ ((bs0_ hg HB.out:w.heap.size ≤ gb843)); have n3_:=am_ ((bs0_ hg HB.out:w.heap.size ≤ gb843)); clear HB; have HB:=n0_; have BK843:=n1_; have GW843:=n2_; have GE843:=n3_; clear n0_ n1_ n2_ n3_; clear hb hbox hg) | ((with_reducible refine gate_callee (f:=65) rfl ?_); refine goesL_ (some 11) rfl rfl Tryd.func65 (by kernel_rfl) rfl #[.string a0] rfl ob_ ?_; (with_reducible refine (impl_IsLoop.calls a0 false _ A2.out).mono ?_); rintro e w44 ⟨rfl,hb⟩; refine ⟨_,rfl,?_⟩; have n0_:=am_ (bb_ BK843.out hb); have n1_:=am_ (below_step (bl1_ HB.out GE843.out) hb); clear BK843; clear HB; have BK843:=n0_; have HB:=n1_; clear n0_ n1_; (try clear hb); (try clear hb2); (try clear hk); (try clear hi); have hcz45_0:w44.cell? ⟨gb843,0,none⟩ = some (.int .i64 0):=(bc_ BK843.out 0).trans rfl; have hcz45_1:w44.cell? ⟨gb843,1,none⟩ = some (.int .i64 0):=(bc_ BK843.out 1).trans rfl; have hcz45_2:w44.cell? ⟨gb843,2,none⟩ = some (.slice none 0 0):=(bc_ BK843.out 2).trans rfl; have hcz45_3:w44.cell? ⟨gb843,3,none⟩ = some (.slice none 0 0):=(bc_ BK843.out 3).trans rfl; have hfz45_0:=bz_ BK843.out 0; have hfz45_1:=bz_ BK843.out 1; have hfz45_2:=bz_ BK843.out 2; have hfz45_3:=bz_ BK843.out 3))
  refine bodyPost_ret (results_ct rfl _ _ gb843 36 #[.int .i64 0,.int .i64 0,.slice none 0 0,.slice none 0 0] (0,0) _ rfl (by (with_reducible repeat (first | refine blk_drewN ?_ _ | refine blk_drew ?_ | refine blk_alloc ?_ _)); refine blk_put (cs:=#[.int .i64 0,.int .i64 0,.slice none 0 0,.slice none 0 0]) ?_ 3 _ rfl; (with_reducible repeat (first | refine blk_drewN ?_ _ | refine blk_drew ?_ | refine blk_alloc ?_ _)); refine blk_put (cs:=#[.int .i64 0,.int .i64 0,.slice none 0 0,.slice none 0 0]) ?_ 2 _ rfl; (with_reducible repeat (first | refine blk_drewN ?_ _ | refine blk_drew ?_ | refine blk_alloc ?_ _)); refine blk_put (cs:=#[.int .i64 0,.int .i64 0,.slice none 0 0,.slice none 0 0]) ?_ 1 _ rfl; (with_reducible repeat (first | refine blk_drewN ?_ _ | refine blk_drew ?_ | refine blk_alloc ?_ _)); refine blk_put (cs:=#[.int .i64 0,.int .i64 0,.slice none 0 0,.slice none 0 0]) ?_ 0 _ rfl; (with_reducible repeat (first | refine blk_drewN ?_ _ | refine blk_drew ?_ | refine blk_alloc ?_ _)); exact BK843.out) Tryd.underlying36 rfl (by kernel_rfl)) rfl ?_
  exact ⟨_,_,er_,by first | exact Kd.R_nil _ _ _ _ _ | exact Kd.N_nil _ _ _ _ _ | exact Kd.V_nil _ _ _ _ _ | exact Kd.Q_nil _ _ _ _ _ | exact Kd.S_nil _ _ _ _ _,by first | exact Kd.R_nil _ _ _ _ _ | exact Kd.N_nil _ _ _ _ _ | exact Kd.V_nil _ _ _ _ _ | exact Kd.Q_nil _ _ _ _ _ | exact Kd.S_nil _ _ _ _ _,bl1_ HB.out GE843.out⟩

end Go.Proofs.YtehjfaddhmdicaaDoor.P
