/- For every input the law FnExactPartsOfFigure answers true: the program's PartsOfFigure tells what the reference's PartsOfFigure tells; no condition. (part 3 of the proof; the words of the kit's print tool and the texts of this seat, merged by a program) -/
import Derived.Test.YtjnajeplfgdklaaDoorMPOF2
namespace Go.Proofs.YtjnajeplfgdklaaDoor.P
open Go.RowKit Go.Proofs.YtjnajeplfgdklaaDoorW.PrintWords Go.Proofs.YtjnajeplfgdklaaDoorW.PrintLast Go.Proofs.YtjnajeplfgdklaaDoorW.PrintMore
attribute [local go_sem] max2_int min2_int max_two min_two max_three min_three max_four min_four   -- for this text's walks alone
set_option linter.unusedVariables false
set_option linter.unusedSimpArgs false

def impl_PartsOfFigure.l0:Nat → List (S26) → List Int → Int → Int → Int → Int → List Int → List Int → Option ((List (S26)) × Bool)
 | 0,_,_,_,_,_,_,_,_ => none
 | k + 1,x4,x15,x16,x17,x789000,x789001,x789002,x789003 => if x17 < x16 then (if 0 ≤ x17 then (if x17 < (x15.length:Int) then ((impl_Figure_grid.f x789000 x789001 x789002 x789003).bind fun bt800 => ((impl_grid_figure.f bt800.1 bt800.2 (rd x15 x17)).bind fun bt802 => (if x4.length < 2199023255552 then (impl_PartsOfFigure.l0 k (x4 ++ [(⟨bt802.1,bt802.2.1,bt802.2.2.1,bt802.2.2.2⟩:S26)]) x15 x16 (wrap64 (x17 + 1)) x789000 x789001 x789002 x789003) else (none)))) else (none)) else (none)) else (some (x4,true))
def impl_PartsOfFigure.f (k:Nat) (a0_0:Int) (a0_1:Int) (l0_2:List Int) (l0_3:List Int):Option ((List (S26)) × Bool):=(impl_IsFigure.f k a0_0 a0_1 l0_2 l0_3).bind fun t789 => (if t789 = true then ((impl_Figure_grid.f a0_0 a0_1 l0_2 l0_3).bind fun bt793 => ((impl_Figure_set.f k a0_0 a0_1 l0_2 l0_3).bind fun t795 => ((impl_grid_parts.f k bt793.1 bt793.2 t795).bind fun t796 => (impl_PartsOfFigure.l0 k (([]:List (S26))) t796 (t796.length:Int) 0 a0_0 a0_1 l0_2 l0_3)))) else (some (([]:List (S26)),false)))
theorem impl_PartsOfFigure.mono_l:∀ k,(∀ y0 y1 y2 y3 y4 y5 y6 y7,LeO (impl_PartsOfFigure.l0 k y0 y1 y2 y3 y4 y5 y6 y7) (impl_PartsOfFigure.l0 (k + 1) y0 y1 y2 y3 y4 y5 y6 y7))
 | 0 => fun _ _ _ _ _ _ _ _ r h => by simp [impl_PartsOfFigure.l0] at h
 | k + 1 => by
  have ih0:=impl_PartsOfFigure.mono_l k
  ·intro y0 y1 y2 y3 y4 y5 y6 y7
   unfold impl_PartsOfFigure.l0
   repeat' first
   | (with_reducible exact ih0 _ _ _ _ _ _ _ _)
   | (with_reducible exact impl_Figure_set.mono _ _ _ _ _)
   | (with_reducible exact impl_IsFigure.mono _ _ _ _ _)
   | (with_reducible exact impl_grid_parts.mono _ _ _ _)
   | (with_reducible exact LeO.refl _)
   | (with_reducible exact LeO.none _)
   | (with_reducible refine LeO.ite ?_ ?_)
   | (with_reducible refine LeO.bind ?_ (fun _ => ?_))
   | exact ih0 _ _ _ _ _ _ _ _
   | exact impl_Figure_set.mono _ _ _ _ _
   | exact impl_IsFigure.mono _ _ _ _ _
   | exact impl_grid_parts.mono _ _ _ _
   | exact LeO.none _
   | refine LeO.ite ?_ ?_
   | refine LeO.bind ?_ (fun _ => ?_)
theorem impl_PartsOfFigure.mono:∀ a0 a1 a2 a3 k,LeO (impl_PartsOfFigure.f k a0 a1 a2 a3) (impl_PartsOfFigure.f (k + 1) a0 a1 a2 a3):=by
 intro a0 a1 a2 a3 k
 have ih0:=impl_PartsOfFigure.mono_l k
 unfold impl_PartsOfFigure.f
 repeat' first
   | (with_reducible exact ih0 _ _ _ _ _ _ _ _)
   | (with_reducible exact impl_Figure_set.mono _ _ _ _ _)
   | (with_reducible exact impl_IsFigure.mono _ _ _ _ _)
   | (with_reducible exact impl_grid_parts.mono _ _ _ _)
   | (with_reducible exact LeO.refl _)
   | (with_reducible exact LeO.none _)
   | (with_reducible refine LeO.ite ?_ ?_)
   | (with_reducible refine LeO.bind ?_ (fun _ => ?_))
   | exact ih0 _ _ _ _ _ _ _ _
   | exact impl_Figure_set.mono _ _ _ _ _
   | exact impl_IsFigure.mono _ _ _ _ _
   | exact impl_grid_parts.mono _ _ _ _
   | exact LeO.none _
   | refine LeO.ite ?_ ?_
   | refine LeO.bind ?_ (fun _ => ?_)
set_option maxHeartbeats 8000000 in
set_option maxRecDepth 100000 in
theorem impl_PartsOfFigure.calls (k:Nat) (a0_0:Int) (a0_1:Int) (A0_2:Option Addr) (c0_2:Nat) (l0_2:List Int) (A0_3:Option Addr) (c0_3:Nat) (l0_3:List Int) (r1:List (S26)) (r2:Bool) (w:World) (hr0_2:Kd.C (Kd.int .i64) w A0_2 l0_2.length l0_2) (hc0_2:l0_2.length ≤ c0_2) (hr0_3:Kd.C (Kd.int .i64) w A0_3 l0_3.length l0_3) (hc0_3:l0_3.length ≤ c0_3) (hT_:TB w) (h:impl_PartsOfFigure.f k a0_0 a0_1 l0_2 l0_3 = some (r1,r2)) :
  Calls Tryd.prog 29 #[.agg #[.int .i64 a0_0,.int .i64 a0_1,.slice A0_2 l0_2.length c0_2,.slice A0_3 l0_3.length c0_3]] w fun e w' => ∃ v0_:Value,e = .returned (.tuple #[v0_,.bool r2]) ∧ Kd.S kF 26 w' w.heap.size (fun _ => True) v0_ r1 ∧ Below w.heap.size w w':=by
 have hu26:=Tryd.underlying26
 have HR0_2:=Aside0.mk hr0_2
 have HC0_2:=Aside0.mk hc0_2
 clear hr0_2 hc0_2
 have HR0_3:=Aside0.mk hr0_3
 have HC0_3:=Aside0.mk hc0_3
 clear hr0_3 hc0_3
 have HB:=Aside0.mk (Below.refl w.heap.size w)
 have HTB:=Aside0.mk hT_
 clear hT_
 have H:((impl_IsFigure.f k a0_0 a0_1 l0_2 l0_3).bind fun t789 => (if t789 = true then ((impl_Figure_grid.f a0_0 a0_1 l0_2 l0_3).bind fun bt793 => ((impl_Figure_set.f k a0_0 a0_1 l0_2 l0_3).bind fun t795 => ((impl_grid_parts.f k bt793.1 bt793.2 t795).bind fun t796 => (impl_PartsOfFigure.l0 k (([]:List (S26))) t796 (t796.length:Int) 0 a0_0 a0_1 l0_2 l0_3)))) else (some (([]:List (S26)),false)))) = some (r1,r2):=h
 clear h
 replace H:=Option.bind_eq_some_iff.mp H
 obtain ⟨t789,A20,H⟩:=H
 replace H:(if t789 = true then ((impl_Figure_grid.f a0_0 a0_1 l0_2 l0_3).bind fun bt793 => ((impl_Figure_set.f k a0_0 a0_1 l0_2 l0_3).bind fun t795 => ((impl_grid_parts.f k bt793.1 bt793.2 t795).bind fun t796 => (impl_PartsOfFigure.l0 k (([]:List (S26))) t796 (t796.length:Int) 0 a0_0 a0_1 l0_2 l0_3)))) else (some (([]:List (S26)),false))) = some (r1,r2):=H
 have A2:=Aside0.mk A20
 clear A20
 by_cases c3:t789 = true
 ·subst c3
  have H1:((impl_Figure_grid.f a0_0 a0_1 l0_2 l0_3).bind fun bt793 => ((impl_Figure_set.f k a0_0 a0_1 l0_2 l0_3).bind fun t795 => ((impl_grid_parts.f k bt793.1 bt793.2 t795).bind fun t796 => (impl_PartsOfFigure.l0 k (([]:List (S26))) t796 (t796.length:Int) 0 a0_0 a0_1 l0_2 l0_3)))) = some (r1,r2):=by rw [if_pos rfl] at H; exact H
  clear H
  have H:=H1
  clear H1
  obtain ⟨y790,hy790⟩:∃ y_:List (S26),y_ = (([]:List (S26))):=⟨_,rfl⟩
  replace H:((impl_Figure_grid.f a0_0 a0_1 l0_2 l0_3).bind fun bt793 => ((impl_Figure_set.f k a0_0 a0_1 l0_2 l0_3).bind fun t795 => ((impl_grid_parts.f k bt793.1 bt793.2 t795).bind fun t796 => (impl_PartsOfFigure.l0 k y790 t796 (t796.length:Int) 0 a0_0 a0_1 l0_2 l0_3)))) = some (r1,r2):=by first | (rw [hy790]; with_reducible exact H) | (have H2_:=(Option.bind_some _ _).symm.trans H; rw [hy790]; with_reducible exact H2_) | (have H2_:=(Option.bind_some _ _).symm.trans H; with_reducible exact H2_) | with_reducible exact H | (rw [hy790]; exact H) | exact H
  have Ny790:=Aside0.mk hy790
  clear hy790
  replace H:=Option.bind_eq_some_iff.mp H
  obtain ⟨⟨t793,t794⟩,A40,H⟩:=H
  replace H:((impl_Figure_set.f k a0_0 a0_1 l0_2 l0_3).bind fun t795 => ((impl_grid_parts.f k t793 t794 t795).bind fun t796 => (impl_PartsOfFigure.l0 k y790 t796 (t796.length:Int) 0 a0_0 a0_1 l0_2 l0_3))) = some (r1,r2):=H
  have A4:=Aside0.mk A40
  clear A40
  replace H:=Option.bind_eq_some_iff.mp H
  obtain ⟨t795,A50,H⟩:=H
  replace H:((impl_grid_parts.f k t793 t794 t795).bind fun t796 => (impl_PartsOfFigure.l0 k y790 t796 (t796.length:Int) 0 a0_0 a0_1 l0_2 l0_3)) = some (r1,r2):=H
  have A5:=Aside0.mk A50
  clear A50
  replace H:=Option.bind_eq_some_iff.mp H
  obtain ⟨t796,A60,H⟩:=H
  replace H:(impl_PartsOfFigure.l0 k y790 t796 (t796.length:Int) 0 a0_0 a0_1 l0_2 l0_3) = some (r1,r2):=H
  have A6:=Aside0.mk A60
  clear A60
  have H':=Aside0.mk H
  clear H
  go_enter Tryd.func29,Tryd.ntmps29
  try go_wp2_with (first | ((with_reducible refine gate_dst (N:=1) rfl ?_); refine boxE_ (N:=1) (cs:=#[.int .i64 a0_0,.int .i64 a0_1,.slice A0_2 l0_2.length c0_2,.slice A0_3 l0_3.length c0_3]) (t:=26) ?_; intro gb788 hg w7 hbox hb; have n0_:=Aside0.mk (below_step (bl0_ HB.out) hb); have n1_:=Aside0.mk (hbox); have n2_:=Aside0.mk ((bs0_ hg HB.out:w.heap.size ≤ gb788)); have n3_:=Aside0.mk ((bs0_ hg HB.out:w.heap.size ≤ gb788)); clear HB; have HB:=n0_; have BK788:=n1_; have GW788:=n2_; have GE788:=n3_; clear n0_ n1_ n2_ n3_; clear hb hbox hg; have hcz8_0:w7.cell? ⟨gb788,0,none⟩ = some (.int .i64 a0_0):=(blk_cell BK788.out 0).trans rfl; have hcz8_1:w7.cell? ⟨gb788,1,none⟩ = some (.int .i64 a0_1):=(blk_cell BK788.out 1).trans rfl; have hcz8_2:w7.cell? ⟨gb788,2,none⟩ = some (.slice A0_2 l0_2.length c0_2):=(blk_cell BK788.out 2).trans rfl; have hcz8_3:w7.cell? ⟨gb788,3,none⟩ = some (.slice A0_3 l0_3.length c0_3):=(blk_cell BK788.out 3).trans rfl; have hfz8_0:=blk_frozen BK788.out 0; have hfz8_1:=blk_frozen BK788.out 1; have hfz8_2:=blk_frozen BK788.out 2; have hfz8_3:=blk_frozen BK788.out 3) | ((with_reducible refine gate_callee (f:=48) rfl ?_); refine goesL_ (some 8) rfl rfl Tryd.func48 (by kernel_rfl) rfl #[.agg #[.int .i64 a0_0,.int .i64 a0_1,.slice A0_2 l0_2.length c0_2,.slice A0_3 l0_3.length c0_3]] rfl ob_ ?_; (with_reducible refine (impl_IsFigure.calls k a0_0 a0_1 _ _ l0_2 _ _ l0_3 true _ ?side1 ?side2 ?side3 ?side4 A2.out).mono ?_); (case side1 => exact kc_ (Kd.C_below HR0_2.out HB.out)); (case side2 => exact HC0_2.out); (case side3 => exact kc_ (Kd.C_below HR0_3.out HB.out)); (case side4 => exact HC0_3.out); rintro e w9 ⟨rfl,hb⟩; refine ⟨_,rfl,?_⟩; have n0_:=Aside0.mk (bb_ BK788.out hb); have n1_:=Aside0.mk (below_step (bl1_ HB.out GE788.out) hb); clear BK788; clear HB; have BK788:=n0_; have HB:=n1_; clear n0_ n1_; (try clear hb); (try clear hb2); (try clear hk); (try clear hi)) | ((with_reducible refine gate_dst (N:=10) rfl ?_); refine Kd.S_lit kF _ 26 ?hg (N:=10) ?hd (xs:=([]:List (S26))) (inner:=[]) (ok:=fun _ => True) (okp:=fun _ => True) ?hr ?hp (fun _ hk => hk) trivial (Below.refl _ _) (Nat.le_refl _) (by simp) ?_; (case hd => rfl); (case hg => rfl); (case hr => first | (go_simp; done) | (go_simp; rfl)); (case hp => exact (Reps.none _ _)); intro v791 w10 ho11 hb hg_ hnew_; clear hg_ hnew_; (first | rw [← Ny790.out] at ho11 | (simp only [Int.reduceToNat] at ho11; rw [← Ny790.out] at ho11)); have n0_:=Aside0.mk (Kd.S_lower (Kd.S_newB ho11 (g:=gb788) (o:=.cells #[.int .i64 a0_0,.int .i64 a0_1,.slice A0_2 l0_2.length c0_2,.slice A0_3 l0_3.length c0_3] 26 (0,0)) (bk_ BK788.out)) (below_size (bl1_ HB.out GE788.out))); have n1_:=Aside0.mk (bb_ BK788.out hb); have n2_:=Aside0.mk (below_step (bl1_ HB.out GE788.out) hb); clear BK788; clear HB; have HO792:=n0_; have BK788:=n1_; have HB:=n2_; clear n0_ n1_ n2_; clear hb ho11))
  have n0_:=Aside0.mk (Kd.S_drew HO792.out)
  have n1_:=Aside0.mk (blk_drew BK788.out)
  have n2_:=Aside0.mk (below_drew1 HB.out)
  clear HO792
  clear BK788
  clear HB
  have HO792:=n0_
  have BK788:=n1_
  have HB:=n2_
  clear n0_ n1_ n2_
  refine start_ (n:=7) (S:=fun w' => w'.cell? ⟨gb788,0,none⟩ = some (.int .i64 a0_0) ∧ w'.cell? ⟨gb788,1,none⟩ = some (.int .i64 a0_1) ∧ w'.cell? ⟨gb788,2,none⟩ = some (.slice A0_2 l0_2.length c0_2) ∧ w'.cell? ⟨gb788,3,none⟩ = some (.slice A0_3 l0_3.length c0_3)) (ds:=[]) #[false,false,false,false,false,false,false] (by kernel_rfl) rfl rfl ⟨(blk_cell BK788.out 0).trans rfl,(blk_cell BK788.out 1).trans rfl,(blk_cell BK788.out 2).trans rfl,(blk_cell BK788.out 3).trans rfl⟩ (fun hHeld => ?_)
  generalize w10.drew = w12 at HO792 BK788 HB hHeld ⊢
  refine pure_ (i:=6) (N:=some 17) (v:=?_) (a':=?_) #[false,false,false,false,false,false,true] rfl rfl (by kernel_rfl) (fun _ _ _ h => h) (Or.inl ⟨by rfl,?_⟩) ?_ ?_
  rotate_left
  ·intro w'
   go_simp
   with_reducible rfl
  rotate_left
  ·simp only [Act.put,List.setIfInBounds_toArray,List.set_cons_zero,List.set_cons_succ,i64_w,i32_w]
   rfl
  refine take_ (i:=0) (N:=some 11) (v:=?_) (a':=?_) #[true,false,false,false,false,false,true] rfl rfl (by kernel_rfl) (fun _ _ _ h => h) (Or.inl ⟨by rfl,?_⟩) hHeld ?_ ?_
  rotate_left
  ·rintro w' ⟨s0,s1,s2,s3⟩
   go_simp
   with_reducible rfl
  rotate_left
  ·simp only [Act.put,List.setIfInBounds_toArray,List.set_cons_zero,List.set_cons_succ,i64_w,i32_w]
   rfl
  refine take_ (i:=2) (N:=some 13) (v:=?_) (a':=?_) #[true,false,true,false,false,false,true] rfl rfl (by kernel_rfl) (fun _ _ _ h => h) (Or.inl ⟨by rfl,?_⟩) hHeld ?_ ?_
  rotate_left
  ·rintro w' ⟨s0,s1,s2,s3⟩
   go_simp
   with_reducible rfl
  rotate_left
  ·simp only [Act.put,List.setIfInBounds_toArray,List.set_cons_zero,List.set_cons_succ,i64_w,i32_w]
   rfl
  refine one_ (i:=1) (N:=some 12) #[true,true,true,false,false,false,true] rfl rfl (by kernel_rfl) (by decide) (fun K hK => ?_)
  refine goes_ Tryd.func39 (by kernel_rfl) rfl #[.agg #[.int .i64 a0_0,.int .i64 a0_1,.slice A0_2 l0_2.length c0_2,.slice A0_3 l0_3.length c0_3]] (by rfl) rfl rfl ob_ ?_
  with_reducible refine (impl_Figure_grid.calls a0_0 a0_1 _ _ l0_2 _ _ l0_3 t793 t794 _ ?side1 ?side2 ?side3 ?side4 A4.out).mono ?_
  (case side1 => exact kc_ (Kd.C_below HR0_2.out HB.out))
  (case side2 => exact HC0_2.out)
  (case side3 => exact kc_ (Kd.C_below HR0_3.out HB.out))
  (case side4 => exact HC0_3.out)
  rintro e w13 ⟨rfl,hb⟩
  refine ⟨_,rfl,?_⟩
  have n0_:=Aside0.mk (Kd.S_below (by (with_reducible repeat (first | apply Kd.S_alloc | apply Kd.S_drewN | apply Kd.S_drew)); exact HO792.out) hb)
  have n1_:=Aside0.mk (bb_ BK788.out hb)
  have n2_:=Aside0.mk (below_step (bl1_ HB.out GE788.out) hb)
  clear HO792
  clear BK788
  clear HB
  have HO792:=n0_
  have BK788:=n1_
  have HB:=n2_
  clear n0_ n1_ n2_
  (try clear hb)
  (try clear hb2)
  (try clear hk)
  (try clear hi)
  refine hK.out _ _ ⟨(blk_cell BK788.out 0).trans rfl,(blk_cell BK788.out 1).trans rfl,(blk_cell BK788.out 2).trans rfl,(blk_cell BK788.out 3).trans rfl⟩ (fun hHeld => ?_)
  clear hK K
  refine norm_ (a':=?_) ?_ ?_
  rotate_left
  ·show Act.put _ (some 12) _ = _
   simp only [Act.put,List.setIfInBounds_toArray,List.set_cons_zero,List.set_cons_succ,i64_w,i32_w]
   rfl
  refine one_ (i:=3) (N:=some 14) #[true,true,true,true,false,false,true] rfl rfl (by kernel_rfl) (by decide) (fun K hK => ?_)
  refine goes_ Tryd.func41 (by kernel_rfl) rfl #[.agg #[.int .i64 a0_0,.int .i64 a0_1,.slice A0_2 l0_2.length c0_2,.slice A0_3 l0_3.length c0_3]] (by rfl) rfl rfl ob_ ?_
  with_reducible refine (impl_Figure_set.calls k a0_0 a0_1 _ _ l0_2 _ _ l0_3 t795 _ ?side1 ?side2 ?side3 ?side4 A5.out).mono ?_
  (case side1 => exact kc_ (Kd.C_below HR0_2.out HB.out))
  (case side2 => exact HC0_2.out)
  (case side3 => exact kc_ (Kd.C_below HR0_3.out HB.out))
  (case side4 => exact HC0_3.out)
  rintro e w14 ⟨rfl,hb⟩
  refine ⟨_,rfl,?_⟩
  have n0_:=Aside0.mk (Kd.S_below (by (with_reducible repeat (first | apply Kd.S_alloc | apply Kd.S_drewN | apply Kd.S_drew)); exact HO792.out) hb)
  have n1_:=Aside0.mk (bb_ BK788.out hb)
  have n2_:=Aside0.mk (below_step (bl1_ HB.out GE788.out) hb)
  clear HO792
  clear BK788
  clear HB
  have HO792:=n0_
  have BK788:=n1_
  have HB:=n2_
  clear n0_ n1_ n2_
  (try clear hb)
  (try clear hb2)
  (try clear hk)
  (try clear hi)
  refine hK.out _ _ ⟨(blk_cell BK788.out 0).trans rfl,(blk_cell BK788.out 1).trans rfl,(blk_cell BK788.out 2).trans rfl,(blk_cell BK788.out 3).trans rfl⟩ (fun hHeld => ?_)
  clear hK K
  refine norm_ (a':=?_) ?_ ?_
  rotate_left
  ·show Act.put _ (some 14) _ = _
   simp only [Act.put,List.setIfInBounds_toArray,List.set_cons_zero,List.set_cons_succ,i64_w,i32_w]
   rfl
  refine one_ (i:=4) (N:=some 15) #[true,true,true,true,true,false,true] rfl rfl (by kernel_rfl) (by decide) (fun K hK => ?_)
  refine goes_ Tryd.func66 (by kernel_rfl) rfl #[.agg #[.int .i64 t793,.int .i64 t794],.int .u64 t795] (by rfl) rfl rfl ob_ ?_
  with_reducible refine (impl_grid_parts.calls k t793 t794 t795 t796 _ A6.out).mono ?_
  rintro e w15 ⟨v797,rfl,ho0,hb⟩
  refine ⟨_,rfl,?_⟩
  have n0_:=Aside0.mk (Kd.S_below (by (with_reducible repeat (first | apply Kd.S_alloc | apply Kd.S_drewN | apply Kd.S_drew)); exact HO792.out) hb)
  have n1_:=Aside0.mk (Kd.R_lower ho0 (below_size (bl1_ HB.out GE788.out)))
  have n2_:=Aside0.mk (bb_ BK788.out hb)
  have n3_:=Aside0.mk (below_step (bl1_ HB.out GE788.out) hb)
  clear HO792
  clear BK788
  clear HB
  have HO792:=n0_
  have HO798:=n1_
  have BK788:=n2_
  have HB:=n3_
  clear n0_ n1_ n2_ n3_
  (try clear hb)
  (try clear hb2)
  (try clear hk)
  (try clear hi)
  (try clear ho0)
  obtain ⟨Ao16,co16,eo16⟩:=Kd.R_slice HO798.out
  (first | subst eo16 | (injection eo16 with f1_ f2_ f3_; have f4_:=f1_.symm; have f5_:=f3_.symm; clear f1_ f2_ f3_; subst f4_; subst f5_))
  refine hK.out _ _ ⟨(blk_cell BK788.out 0).trans rfl,(blk_cell BK788.out 1).trans rfl,(blk_cell BK788.out 2).trans rfl,(blk_cell BK788.out 3).trans rfl⟩ (fun hHeld => ?_)
  clear hK K
  refine norm_ (a':=?_) ?_ ?_
  rotate_left
  ·show Act.put _ (some 15) _ = _
   simp only [Act.put,List.setIfInBounds_toArray,List.set_cons_zero,List.set_cons_succ,i64_w,i32_w]
   rfl
  refine pure_ (i:=5) (N:=some 16) (v:=?_) (a':=?_) #[true,true,true,true,true,true,true] rfl rfl (by kernel_rfl) (fun _ _ _ h => h) (Or.inl ⟨by rfl,?_⟩) ?_ ?_
  rotate_left
  ·intro w'
   go_simp
   with_reducible rfl
  rotate_left
  ·simp only [Act.put,List.setIfInBounds_toArray,List.set_cons_zero,List.set_cons_succ,i64_w,i32_w]
   rfl
  refine done_ (by kernel_rfl) ?_
  try go_wp2
  go_loopg [4,17] k (fun kq v4 v17 w' => ∃ (x4_1:List (S26)) (x17_1:Int),v17 = .int .i64 x17_1 ∧ Aside0 (impl_PartsOfFigure.l0 kq x4_1 t796 (t796.length:Int) x17_1 a0_0 a0_1 l0_2 l0_3 = some (r1,r2)) ∧ Aside0 (kq ≤ k) ∧ Aside0 (Kd.S kF 26 w' w.heap.size (fun k_ => k_ ≠ gb788) v4 x4_1) ∧ Aside0 (Kd.R (Kd.int .u64) 53 w' w.heap.size (fun _ => True) (.slice Ao16 t796.length co16) t796) ∧ Aside0 (w'.heap[gb788]? = some (.cells #[.int .i64 a0_0,.int .i64 a0_1,(.slice A0_2 l0_2.length c0_2),(.slice A0_3 l0_3.length c0_3)] 26 (0,0))) ∧ Aside0 (Below w.heap.size w w'))
  case atStart => exact ⟨(y790),(0),rs_,H',⟨Nat.le_refl _⟩,⟨by (with_reducible repeat (first | apply Kd.S_alloc | apply Kd.S_drewN | apply Kd.S_drew)); exact Kd.S_mono HO792.out (fun _ hk => hk.2)⟩,⟨kr_ HO798.out⟩,⟨bk_ BK788.out⟩,⟨bl1_ HB.out GE788.out⟩⟩
  case round =>
   clear H'
   try clear c2
   try clear p2
   try clear c3
   try clear c4
   try clear c6
   try clear hcz8_0
   try clear hcz8_1
   try clear hcz8_2
   try clear hcz8_3
   try clear hfz8_0
   try clear hfz8_1
   try clear hfz8_2
   try clear hfz8_3
   obtain ⟨x4_1,x17_1,rfl,HA,HK1,HO_4,HO_15,BK788,HB⟩:=hrel
   cases gk with
   | zero => exact absurd HA.out (by simp [impl_PartsOfFigure.l0])
   | succ k1 =>
    have H:=HA.out
    clear HA
    simp only [impl_PartsOfFigure.l0] at H
    by_cases c17:x17_1 < (t796.length:Int)
    ·rw [if_pos c17] at H
     have c17b0:decide (x17_1 < (t796.length:Int)) = true:=decide_eq_true c17
     clear c17
     by_cases c18:0 ≤ x17_1
     ·rw [if_pos c18] at H
      have c18b0:decide (0 ≤ x17_1) = true:=decide_eq_true c18
      clear c18
      by_cases c19:x17_1 < (t796.length:Int)
      ·rw [if_pos c19] at H
       have c19b0:decide (x17_1 < (t796.length:Int)) = true:=decide_eq_true c19
       clear c19
       replace H:=Option.bind_eq_some_iff.mp H
       obtain ⟨⟨t800,t801⟩,A200,H⟩:=H
       replace H:((impl_grid_figure.f t800 t801 (rd t796 x17_1)).bind fun bt802 => (if x4_1.length < 2199023255552 then (impl_PartsOfFigure.l0 k1 (x4_1 ++ [(⟨bt802.1,bt802.2.1,bt802.2.2.1,bt802.2.2.2⟩:S26)]) t796 (t796.length:Int) (wrap64 (x17_1 + 1)) a0_0 a0_1 l0_2 l0_3) else (none))) = some (r1,r2):=H
       have A20:=Aside0.mk A200
       clear A200
       replace H:=Option.bind_eq_some_iff.mp H
       obtain ⟨⟨t802,t803,t804,t807⟩,A210,H⟩:=H
       replace H:(if x4_1.length < 2199023255552 then (impl_PartsOfFigure.l0 k1 (x4_1 ++ [(⟨t802,t803,t804,t807⟩:S26)]) t796 (t796.length:Int) (wrap64 (x17_1 + 1)) a0_0 a0_1 l0_2 l0_3) else (none)) = some (r1,r2):=H
       have A21:=Aside0.mk A210
       clear A210
       by_cases c22:x4_1.length < 2199023255552
       ·rw [if_pos c22] at H
        have LMc22:=Aside0.mk c22
        clear c22
        obtain ⟨y810,hy810⟩:∃ y_:List (S26),y_ = (x4_1 ++ [(⟨t802,t803,t804,t807⟩:S26)]):=⟨_,rfl⟩
        replace H:(impl_PartsOfFigure.l0 k1 y810 t796 (t796.length:Int) (wrap64 (x17_1 + 1)) a0_0 a0_1 l0_2 l0_3) = some (r1,r2):=by first | (rw [hy810]; with_reducible exact H) | (have H2_:=(Option.bind_some _ _).symm.trans H; rw [hy810]; with_reducible exact H2_) | (have H2_:=(Option.bind_some _ _).symm.trans H; with_reducible exact H2_) | with_reducible exact H | (rw [hy810]; exact H) | exact H
        have Ny810:=Aside0.mk hy810
        clear hy810
        have H':=Aside0.mk H
        clear H
        have p799:0 ≤ (x17_1:Int):=of_decide_eq_true as_
        have q799:x17_1 < (t796.length:Int):=of_decide_eq_true as_
        obtain ⟨ad799,e799,hx799_0⟩:=Kd.at_int (Kd.R_reads' HO_15.out).2.2 x17_1 p799 q799
        cases e799
        replace p799:=eq_true p799
        replace q799:=eq_true q799
        have hcz23_0:wr.cell? ⟨gb788,0,none⟩ = some (.int .i64 a0_0):=(blk_cell BK788.out 0).trans rfl
        have hcz23_1:wr.cell? ⟨gb788,1,none⟩ = some (.int .i64 a0_1):=(blk_cell BK788.out 1).trans rfl
        have hcz23_2:wr.cell? ⟨gb788,2,none⟩ = some (.slice A0_2 l0_2.length c0_2):=(blk_cell BK788.out 2).trans rfl
        have hcz23_3:wr.cell? ⟨gb788,3,none⟩ = some (.slice A0_3 l0_3.length c0_3):=(blk_cell BK788.out 3).trans rfl
        have hfz23_0:=blk_frozen BK788.out 0
        have hfz23_1:=blk_frozen BK788.out 1
        have hfz23_2:=blk_frozen BK788.out 2
        have hfz23_3:=blk_frozen BK788.out 3
        go_wp2_with (first | ((with_reducible refine gate_callee (f:=39) rfl ?_); refine goesL_ (some 23) rfl rfl Tryd.func39 (by kernel_rfl) rfl #[.agg #[.int .i64 a0_0,.int .i64 a0_1,.slice A0_2 l0_2.length c0_2,.slice A0_3 l0_3.length c0_3]] rfl ob_ ?_; (with_reducible refine (impl_Figure_grid.calls a0_0 a0_1 _ _ l0_2 _ _ l0_3 t800 t801 _ ?side1 ?side2 ?side3 ?side4 A20.out).mono ?_); (case side1 => exact kc_ (Kd.C_below HR0_2.out HB.out)); (case side2 => exact HC0_2.out); (case side3 => exact kc_ (Kd.C_below HR0_3.out HB.out)); (case side4 => exact HC0_3.out); rintro e w24 ⟨rfl,hb⟩; refine ⟨_,rfl,?_⟩; have n0_:=Aside0.mk (Kd.S_below (by (with_reducible repeat (first | apply Kd.S_alloc | apply Kd.S_drewN | apply Kd.S_drew)); exact HO_4.out) hb); have n1_:=Aside0.mk (Kd.R_below (kr_ HO_15.out) hb); have n2_:=Aside0.mk (bb_ BK788.out hb); have n3_:=Aside0.mk (below_step (bl1_ HB.out GE788.out) hb); clear HO_4; clear HO_15; clear BK788; clear HB; have HO_4:=n0_; have HO_15:=n1_; have BK788:=n2_; have HB:=n3_; clear n0_ n1_ n2_ n3_; (try clear hb); (try clear hb2); (try clear hk); (try clear hi)) | ((with_reducible refine gate_callee (f:=40) rfl ?_); refine goesL_ (some 25) rfl rfl Tryd.func40 (by kernel_rfl) rfl #[.agg #[.int .i64 t800,.int .i64 t801],.int .u64 (rd t796 x17_1)] rfl ob_ ?_; (with_reducible refine (impl_grid_figure.calls t800 t801 (rd t796 x17_1) t802 t803 t804 t807 _ (TB.below HTB.out (bl1_ HB.out GE788.out)) A21.out).mono ?_); rintro e w25 ⟨v805,v808,rfl,ho0,ho1,hb⟩; refine ⟨_,rfl,?_⟩; have n0_:=Aside0.mk (Kd.S_mono (Kd.S_told (Kd.S_told (Kd.S_old (by (with_reducible repeat (first | apply Kd.S_alloc | apply Kd.S_drewN | apply Kd.S_drew)); exact HO_4.out) hb) (Kd.R_base ho0)) (Kd.R_base ho1)) (fun _ h_ => h_.1)); have n1_:=Aside0.mk (Kd.R_below (kr_ HO_15.out) hb); have n2_:=Aside0.mk (Kd.R_lower ho0 (below_size (bl1_ HB.out GE788.out))); have n3_:=Aside0.mk (Kd.R_lower ho1 (below_size (bl1_ HB.out GE788.out))); have n4_:=Aside0.mk (bb_ BK788.out hb); have n5_:=Aside0.mk (below_step (bl1_ HB.out GE788.out) hb); clear HO_4; clear HO_15; clear BK788; clear HB; have HO_4:=n0_; have HO_15:=n1_; have HO806:=n2_; have HO809:=n3_; have BK788:=n4_; have HB:=n5_; clear n0_ n1_ n2_ n3_ n4_ n5_; (try clear hb); (try clear hb2); (try clear hk); (try clear hi); (try clear ho0); (try clear ho1); obtain ⟨Ao27,co27,eo27⟩:=Kd.R_slice HO806.out; subst eo27; obtain ⟨Ao28,co28,eo28⟩:=Kd.R_slice HO809.out; subst eo28) | ((with_reducible refine gate_builtin (b:=.append) (xs:=#[.tmp 21,.tmp 26]) rfl ?_); at_builtin; refine Kd.S_append kF (w0:=w) w.heap.size rfl (.tmp 21) (.tmp 26) 39 26 (.agg #[(.int .i64 0),(.int .i64 0),(.slice none 0 0),(.slice none 0 0)]) 64 rfl Tryd.underlying39 info26 rfl (by decide) (by omega) u4 x4_1 (⟨t802,t803,t804,t807⟩:S26) [.int .i64 t802,.int .i64 t803,.slice Ao27 t804.length co27,.slice Ao28 t807.length co28] (fun k_ => k_ ≠ gb788) (fun k_ => some k_ = (.slice Ao27 t804.length co27:Value).ownBlock ∨ some k_ = (.slice Ao28 t807.length co28:Value).ownBlock) rfl rfl ?aP (fun k_ hk_ => hk_.elim (fun h_ => ((Kd.R_mono (ok':=fun k_ => ((fun k_ => k_ ≠ gb788)) k_ ∧ some k_ ≠ (u4:Value).ownBlock) (Kd.R_types (Kd.R_apart' (HO806.out) (Kd.S_typed HO_4.out) (by decide)) BK788.out (by decide)) (fun k_ hk => ⟨hk.2,hk.1.2⟩))).1 k_ h_.symm) (fun h_ => ((Kd.R_mono (ok':=fun k_ => ((fun k_ => k_ ≠ gb788)) k_ ∧ some k_ ≠ (u4:Value).ownBlock) (Kd.R_types (Kd.R_apart' (HO809.out) (Kd.S_typed HO_4.out) (by decide)) BK788.out (by decide)) (fun k_ hk => ⟨hk.2,hk.1.2⟩))).1 k_ h_.symm)) ?aF ?aO ?aB ?aS ?aL ?_; (case aP => exact kF_mkM _ _ _ (⟨t802,t803,t804,t807⟩:S26) (Kd.R_mono (Kd.R_tight rfl (Kd.R_mono (ok':=fun k_ => ((fun k_ => k_ ≠ gb788)) k_ ∧ some k_ ≠ (u4:Value).ownBlock) (Kd.R_types (Kd.R_apart' (HO806.out) (Kd.S_typed HO_4.out) (by decide)) BK788.out (by decide)) (fun k_ hk => ⟨hk.2,hk.1.2⟩))) (fun _ h_ => Or.inl h_)) (Kd.R_mono (Kd.R_tight rfl (Kd.R_mono (ok':=fun k_ => ((fun k_ => k_ ≠ gb788)) k_ ∧ some k_ ≠ (u4:Value).ownBlock) (Kd.R_types (Kd.R_apart' (HO809.out) (Kd.S_typed HO_4.out) (by decide)) BK788.out (by decide)) (fun k_ hk => ⟨hk.2,hk.1.2⟩))) (fun _ h_ => Or.inr (h_))) (fun k_ e_ => HO806.out.1 k_ e_.symm)); (case aB => exact (bl1_ HB.out GE788.out)); (case aF => exact (fun k_ hk => Kd.freshB (g:=gb788) (o:=.cells #[.int .i64 a0_0,.int .i64 a0_1,.slice A0_2 l0_2.length c0_2,.slice A0_3 l0_3.length c0_3] 26 (0,0)) (bk_ BK788.out) k_ hk)); (case aO => exact (by (with_reducible repeat (first | apply Kd.S_alloc | apply Kd.S_drewN | apply Kd.S_drew)); exact Kd.S_mono HO_4.out (fun k_ hk => ⟨hk.1.1,fun e_ => e_.elim (fun h_ => hk.1.2 h_) (fun h_ => hk.2 h_)⟩))); (case aS => exact (below_size (bl1_ HB.out GE788.out))); (case aL => have:=LMc22.out; omega); intro v811 w26 ho hb hg hat; rw [← Ny810.out] at ho; have n0_:=Aside0.mk (Kd.R_over' (kr_ HO_15.out) (Kd.S_typed (by (with_reducible repeat (first | apply Kd.S_alloc | apply Kd.S_drewN | apply Kd.S_drew)); exact HO_4.out)) (by decide) hg); have n1_:=Aside0.mk (blk_grown (g:=gb788) (o:=.cells #[.int .i64 a0_0,.int .i64 a0_1,.slice A0_2 l0_2.length c0_2,.slice A0_3 l0_3.length c0_3] 26 (0,0)) (bk_ BK788.out) hg (Kd.S_away HO_4.out (fun _ hk => hk.1.1))); have n2_:=Aside0.mk (hb); have n3_:=Aside0.mk (ho); clear HO_15; clear BK788; clear HB; clear HO_4; clear HO806; clear HO809; have HO_15:=n0_; have BK788:=n1_; have HB:=n2_; have HO812:=n3_; clear n0_ n1_ n2_ n3_; clear ho hb hg hat))
        go_roundg k1
        case measure => have:=HK1.out; omega
        case rel => exact ⟨(y810),(wrap64 (x17_1 + 1)),rs_,H',⟨by have:=HK1.out; omega⟩,⟨by (with_reducible repeat (first | apply Kd.S_alloc | apply Kd.S_drewN | apply Kd.S_drew)); exact HO812.out⟩,⟨kr_ HO_15.out⟩,⟨bk_ BK788.out⟩,⟨bl1_ HB.out GE788.out⟩⟩
       ·rw [if_neg c22] at H
        exact absurd H (by simp)
      ·rw [if_neg c19] at H
       exact absurd H (by simp)
     ·rw [if_neg c18] at H
      exact absurd H (by simp)
    ·rw [if_neg c17] at H
     have c17b0:decide (x17_1 < (t796.length:Int)) = false:=decide_eq_false c17
     clear c17
     simp only [Option.some.injEq,Prod.mk.injEq] at H
     obtain ⟨rfl,rfl⟩:=H
     go_wp2
     go_ret2
     exact ⟨_,er_,by (with_reducible repeat (first | apply Kd.S_alloc | apply Kd.S_drewN | apply Kd.S_drew)); exact Kd.S_mono HO_4.out (fun _ hk => trivial),bl1_ HB.out GE788.out⟩
 ·replace c3:=Bool.eq_false_iff.mpr c3
  subst c3
  have H1:(some (([]:List (S26)),false)) = some (r1,r2):=by rw [if_neg (show ¬ (false = true) by decide)] at H; exact H
  clear H
  have H:=H1
  clear H1
  simp only [Option.some.injEq,Prod.mk.injEq] at H
  obtain ⟨rfl,rfl⟩:=H
  go_enter Tryd.func29,Tryd.ntmps29
  go_wp2_with (first | ((with_reducible refine gate_dst (N:=1) rfl ?_); refine boxE_ (N:=1) (cs:=#[.int .i64 a0_0,.int .i64 a0_1,.slice A0_2 l0_2.length c0_2,.slice A0_3 l0_3.length c0_3]) (t:=26) ?_; intro gb788 hg w29 hbox hb; have n0_:=Aside0.mk (below_step (bl0_ HB.out) hb); have n1_:=Aside0.mk (hbox); have n2_:=Aside0.mk ((bs0_ hg HB.out:w.heap.size ≤ gb788)); have n3_:=Aside0.mk ((bs0_ hg HB.out:w.heap.size ≤ gb788)); clear HB; have HB:=n0_; have BK788:=n1_; have GW788:=n2_; have GE788:=n3_; clear n0_ n1_ n2_ n3_; clear hb hbox hg; have hcz30_0:w29.cell? ⟨gb788,0,none⟩ = some (.int .i64 a0_0):=(blk_cell BK788.out 0).trans rfl; have hcz30_1:w29.cell? ⟨gb788,1,none⟩ = some (.int .i64 a0_1):=(blk_cell BK788.out 1).trans rfl; have hcz30_2:w29.cell? ⟨gb788,2,none⟩ = some (.slice A0_2 l0_2.length c0_2):=(blk_cell BK788.out 2).trans rfl; have hcz30_3:w29.cell? ⟨gb788,3,none⟩ = some (.slice A0_3 l0_3.length c0_3):=(blk_cell BK788.out 3).trans rfl; have hfz30_0:=blk_frozen BK788.out 0; have hfz30_1:=blk_frozen BK788.out 1; have hfz30_2:=blk_frozen BK788.out 2; have hfz30_3:=blk_frozen BK788.out 3) | ((with_reducible refine gate_callee (f:=48) rfl ?_); refine goesL_ (some 8) rfl rfl Tryd.func48 (by kernel_rfl) rfl #[.agg #[.int .i64 a0_0,.int .i64 a0_1,.slice A0_2 l0_2.length c0_2,.slice A0_3 l0_3.length c0_3]] rfl ob_ ?_; (with_reducible refine (impl_IsFigure.calls k a0_0 a0_1 _ _ l0_2 _ _ l0_3 false _ ?side1 ?side2 ?side3 ?side4 A2.out).mono ?_); (case side1 => exact kc_ (Kd.C_below HR0_2.out HB.out)); (case side2 => exact HC0_2.out); (case side3 => exact kc_ (Kd.C_below HR0_3.out HB.out)); (case side4 => exact HC0_3.out); rintro e w31 ⟨rfl,hb⟩; refine ⟨_,rfl,?_⟩; have n0_:=Aside0.mk (bb_ BK788.out hb); have n1_:=Aside0.mk (below_step (bl1_ HB.out GE788.out) hb); clear BK788; clear HB; have BK788:=n0_; have HB:=n1_; clear n0_ n1_; (try clear hb); (try clear hb2); (try clear hk); (try clear hi)))
  go_ret2
  exact ⟨_,er_,by first | exact Kd.S_nil _ _ _ _ _ | exact Kd.N_nil _ _ _ _ _ | exact Kd.V_nil _ _ _ _ _ | exact Kd.Q_nil _ _ _ _ _ | exact Kd.R_nil _ _ _ _ _,bl1_ HB.out GE788.out⟩


def spec_l1In.f (a0:Int) (a1:Int) (a2:Int):Option (Bool):=if a0 ≥ a1 then (some (decide (a0 ≤ a2))) else (some false)
set_option maxHeartbeats 8000000 in
set_option maxRecDepth 100000 in
theorem spec_l1In.calls (a0:Int) (a1:Int) (a2:Int) (r:Bool) (w:World) (h:spec_l1In.f a0 a1 a2 = some r) :
    Calls Tryd.prog 71 #[.int .i64 a0,.int .i64 a1,.int .i64 a2] w fun e w' => e = .returned (.bool r) ∧ Drawn0 w w':=by
  have H:(if a0 ≥ a1 then (some (decide (a0 ≤ a2))) else (some false)) = some r:=h
  clear h
  by_cases c4:a0 ≥ a1
  · rw [if_pos c4] at H
    have c4b0:decide (a1 ≤ a0) = true:=decide_eq_true c4
    clear c4
    obtain rfl:=Option.some.inj H
    go_enter Tryd.func71,Tryd.ntmps71
    go_wp2
    go_ret
    exact ⟨by first | rfl | (simp; done) | (simp [*]; done),by repeat (first | exact Drawn0.refl _ | apply Drawn0.step)⟩
  · rw [if_neg c4] at H
    have c4b0:decide (a1 ≤ a0) = false:=decide_eq_false c4
    clear c4
    obtain rfl:=Option.some.inj H
    go_enter Tryd.func71,Tryd.ntmps71
    go_wp2
    go_ret
    exact ⟨by first | rfl | (simp; done) | (simp [*]; done),by repeat (first | exact Drawn0.refl _ | apply Drawn0.step)⟩


def spec_fiGrid.f (a0:Int) (a1:Int):Option (Bool):=(spec_l1In.f a0 1 4).bind fun t104 => (if t104 = true then ((spec_l1In.f a1 1 4).bind fun t105 => (some t105)) else (some false))
set_option maxHeartbeats 8000000 in
set_option maxRecDepth 100000 in
theorem spec_fiGrid.calls (a0:Int) (a1:Int) (r:Bool) (w:World) (h:spec_fiGrid.f a0 a1 = some r) :
    Calls Tryd.prog 83 #[.int .i64 a0,.int .i64 a1] w fun e w' => e = .returned (.bool r) ∧ Drawn0 w w':=by
  have H:((spec_l1In.f a0 1 4).bind fun t104 => (if t104 = true then ((spec_l1In.f a1 1 4).bind fun t105 => (some t105)) else (some false))) = some r:=h
  clear h
  replace H:=Option.bind_eq_some_iff.mp H
  obtain ⟨t104,A30,H⟩:=H
  replace H:(if t104 = true then ((spec_l1In.f a1 1 4).bind fun t105 => (some t105)) else (some false)) = some r:=H
  have A3:=Aside0.mk A30
  clear A30
  by_cases c4:t104 = true
  · subst c4
    have H1:((spec_l1In.f a1 1 4).bind fun t105 => (some t105)) = some r:=by rw [if_pos rfl] at H; exact H
    clear H
    have H:=H1
    clear H1
    replace H:=Option.bind_eq_some_iff.mp H
    obtain ⟨t105,A50,H⟩:=H
    replace H:(some t105) = some r:=H
    have A5:=Aside0.mk A50
    clear A50
    obtain rfl:=Option.some.inj H
    go_enter Tryd.func83,Tryd.ntmps83
    go_wp2_with (first | ((with_reducible refine gate_callee (f:=71) rfl ?_); refine goesL_ (some 6) rfl rfl Tryd.func71 (by kernel_rfl) rfl #[.int .i64 a0,.int .i64 1,.int .i64 4] rfl ob_ ?_; (with_reducible refine (spec_l1In.calls a0 1 4 true _ A3.out).mono ?_); rintro e w' ⟨rfl,⟨nd,rfl⟩⟩; refine ⟨_,rfl,?_⟩) | (go_at_call 71; (with_reducible refine (spec_l1In.calls a1 1 4 t105 _ A5.out).mono ?_); rintro e w' ⟨rfl,⟨nd,rfl⟩⟩))
    go_ret
    exact ⟨by first | rfl | (simp; done) | (simp [*]; done),by repeat (first | exact Drawn0.refl _ | apply Drawn0.step)⟩
  · replace c4:=Bool.eq_false_iff.mpr c4
    subst c4
    have H1:(some false) = some r:=by rw [if_neg (show ¬ (false = true) by decide)] at H; exact H
    clear H
    have H:=H1
    clear H1
    obtain rfl:=Option.some.inj H
    go_enter Tryd.func83,Tryd.ntmps83
    go_wp2_with (first | ((with_reducible refine gate_callee (f:=71) rfl ?_); refine goesL_ (some 6) rfl rfl Tryd.func71 (by kernel_rfl) rfl #[.int .i64 a0,.int .i64 1,.int .i64 4] rfl ob_ ?_; (with_reducible refine (spec_l1In.calls a0 1 4 false _ A3.out).mono ?_); rintro e w' ⟨rfl,⟨nd,rfl⟩⟩; refine ⟨_,rfl,?_⟩))
    go_ret
    exact ⟨by first | rfl | (simp; done) | (simp [*]; done),by repeat (first | exact Drawn0.refl _ | apply Drawn0.step)⟩


def spec_l1All.l0:Nat → Int → Int → List Int → Int → Int → Option (Bool)
  | 0,_,_,_,_,_ => none
  | k + 1,x1,x2,x9,x10,x11 => if x11 < x10 then (if 0 ≤ x11 then (if x11 < (x9.length:Int) then ((spec_l1In.f (rd x9 x11) x1 x2).bind fun t107 => (if t107 = true then (spec_l1All.l0 k x1 x2 x9 x10 (wrap64 (x11 + 1))) else (some false))) else (none)) else (none)) else (some true)
def spec_l1All.f (k:Nat) (l0:List Int) (a1:Int) (a2:Int):Option (Bool):=spec_l1All.l0 k a1 a2 l0 (l0.length:Int) 0
theorem spec_l1All.mono_l:∀ k,(∀ y0 y1 y2 y3 y4,LeO (spec_l1All.l0 k y0 y1 y2 y3 y4) (spec_l1All.l0 (k + 1) y0 y1 y2 y3 y4))
  | 0 => fun _ _ _ _ _ r h => by simp [spec_l1All.l0] at h
  | k + 1 => by
    have ih0:=spec_l1All.mono_l k
    · intro y0 y1 y2 y3 y4
      unfold spec_l1All.l0
      repeat' first
      | (with_reducible exact ih0 _ _ _ _ _)
      | (with_reducible exact LeO.refl _)
      | (with_reducible exact LeO.none _)
      | (with_reducible refine LeO.ite ?_ ?_)
      | (with_reducible refine LeO.bind ?_ (fun _ => ?_))
      | exact ih0 _ _ _ _ _
      | exact LeO.none _
      | refine LeO.ite ?_ ?_
      | refine LeO.bind ?_ (fun _ => ?_)
theorem spec_l1All.mono:∀ a0 a1 a2 k,LeO (spec_l1All.f k a0 a1 a2) (spec_l1All.f (k + 1) a0 a1 a2):=by
  intro a0 a1 a2 k
  have ih0:=spec_l1All.mono_l k
  unfold spec_l1All.f
  repeat' first
      | (with_reducible exact ih0 _ _ _ _ _)
      | (with_reducible exact LeO.refl _)
      | (with_reducible exact LeO.none _)
      | (with_reducible refine LeO.ite ?_ ?_)
      | (with_reducible refine LeO.bind ?_ (fun _ => ?_))
      | exact ih0 _ _ _ _ _
      | exact LeO.none _
      | refine LeO.ite ?_ ?_
      | refine LeO.bind ?_ (fun _ => ?_)
set_option maxHeartbeats 8000000 in
set_option maxRecDepth 100000 in
theorem spec_l1All.calls (k:Nat) (A0:Option Addr) (c0:Nat) (l0:List Int) (a1:Int) (a2:Int) (r:Bool) (w:World) (hr0:Kd.C (Kd.int .i64) w A0 l0.length l0) (hc0:l0.length ≤ c0) (h:spec_l1All.f k l0 a1 a2 = some r) :
    Calls Tryd.prog 101 #[.slice A0 l0.length c0,.int .i64 a1,.int .i64 a2] w fun e w' => e = .returned (.bool r) ∧ Drawn0 w w':=by
  have HR0:=Aside0.mk hr0
  have HC0:=Aside0.mk hc0
  clear hr0 hc0
  have H:(spec_l1All.l0 k a1 a2 l0 (l0.length:Int) 0) = some r:=h
  clear h
  have H':=Aside0.mk H
  clear H
  go_enter Tryd.func101,Tryd.ntmps101
  go_wp2
  go_loopg [11] k (fun kq v11 w' => ∃ (x11_1:Int),v11 = .int .i64 x11_1 ∧ Aside0 (spec_l1All.l0 kq a1 a2 l0 (l0.length:Int) x11_1 = some r) ∧ Aside0 (kq ≤ k) ∧ Drawn0 w w')
  case atStart => exact ⟨(0),rs_,H',⟨Nat.le_refl _⟩,by repeat (first | exact Drawn0.refl _ | apply Drawn0.step)⟩
  case round =>
    clear H'
    try clear c1
    try clear p2
    obtain ⟨x11_1,rfl,HA,HK1,⟨m1,rfl⟩⟩:=hrel
    cases gk with
    | zero => exact absurd HA.out (by simp [spec_l1All.l0])
    | succ k1 =>
      have H:=HA.out
      clear HA
      simp only [spec_l1All.l0] at H
      by_cases c4:x11_1 < (l0.length:Int)
      · rw [if_pos c4] at H
        have c4b0:decide (x11_1 < (l0.length:Int)) = true:=decide_eq_true c4
        clear c4
        by_cases c5:0 ≤ x11_1
        · rw [if_pos c5] at H
          have c5b0:decide (0 ≤ x11_1) = true:=decide_eq_true c5
          clear c5
          by_cases c6:x11_1 < (l0.length:Int)
          · rw [if_pos c6] at H
            have c6b0:decide (x11_1 < (l0.length:Int)) = true:=decide_eq_true c6
            clear c6
            replace H:=Option.bind_eq_some_iff.mp H
            obtain ⟨t107,A70,H⟩:=H
            replace H:(if t107 = true then (spec_l1All.l0 k1 a1 a2 l0 (l0.length:Int) (wrap64 (x11_1 + 1))) else (some false)) = some r:=H
            have A7:=Aside0.mk A70
            clear A70
            by_cases c8:t107 = true
            · subst c8
              have H1:(spec_l1All.l0 k1 a1 a2 l0 (l0.length:Int) (wrap64 (x11_1 + 1))) = some r:=by rw [if_pos rfl] at H; exact H
              clear H
              have H:=H1
              clear H1
              have H':=Aside0.mk H
              clear H
              have p106:0 ≤ (x11_1:Int):=of_decide_eq_true as_
              have q106:x11_1 < (l0.length:Int):=of_decide_eq_true as_
              obtain ⟨ad106,e106,hx106_0⟩:=Kd.at_int HR0.out x11_1 p106 q106
              cases e106
              replace p106:=eq_true p106
              replace q106:=eq_true q106
              go_wp2_with (first | ((with_reducible refine gate_callee (f:=71) rfl ?_); refine goesL_ (some 18) rfl rfl Tryd.func71 (by kernel_rfl) rfl #[.int .i64 (rd l0 x11_1),.int .i64 a1,.int .i64 a2] rfl ob_ ?_; (with_reducible refine (spec_l1In.calls (rd l0 x11_1) a1 a2 true _ A7.out).mono ?_); rintro e w' ⟨rfl,⟨nd,rfl⟩⟩; refine ⟨_,rfl,?_⟩))
              go_roundg k1
              case measure => have:=HK1.out; omega
              case rel => exact ⟨(wrap64 (x11_1 + 1)),rs_,H',⟨by have:=HK1.out; omega⟩,by repeat (first | exact Drawn0.refl _ | apply Drawn0.step)⟩
            · replace c8:=Bool.eq_false_iff.mpr c8
              subst c8
              have H1:(some false) = some r:=by rw [if_neg (show ¬ (false = true) by decide)] at H; exact H
              clear H
              have H:=H1
              clear H1
              obtain rfl:=Option.some.inj H
              have p106:0 ≤ (x11_1:Int):=of_decide_eq_true as_
              have q106:x11_1 < (l0.length:Int):=of_decide_eq_true as_
              obtain ⟨ad106,e106,hx106_0⟩:=Kd.at_int HR0.out x11_1 p106 q106
              cases e106
              replace p106:=eq_true p106
              replace q106:=eq_true q106
              go_wp2_with (first | ((with_reducible refine gate_callee (f:=71) rfl ?_); refine goesL_ (some 18) rfl rfl Tryd.func71 (by kernel_rfl) rfl #[.int .i64 (rd l0 x11_1),.int .i64 a1,.int .i64 a2] rfl ob_ ?_; (with_reducible refine (spec_l1In.calls (rd l0 x11_1) a1 a2 false _ A7.out).mono ?_); rintro e w' ⟨rfl,⟨nd,rfl⟩⟩; refine ⟨_,rfl,?_⟩))
              go_ret
              exact ⟨by first | rfl | (simp; done) | (simp [*]; done),by repeat (first | exact Drawn0.refl _ | apply Drawn0.step)⟩
          · rw [if_neg c6] at H
            exact absurd H (by simp)
        · rw [if_neg c5] at H
          exact absurd H (by simp)
      · rw [if_neg c4] at H
        have c4b0:decide (x11_1 < (l0.length:Int)) = false:=decide_eq_false c4
        clear c4
        obtain rfl:=Option.some.inj H
        go_wp2
        go_ret
        exact ⟨by first | rfl | (simp; done) | (simp [*]; done),by repeat (first | exact Drawn0.refl _ | apply Drawn0.step)⟩


mutual
def spec_fiRises.j0:Nat → List Int → Bool → Option (Bool)
 | 0,_,_ => none
 | k + 1,x0,x16 => if x16 = true then (some false) else (spec_fiRises.l0 k x0 1)
def spec_fiRises.l0:Nat → List Int → Int → Option (Bool)
 | 0,_,_ => none
 | k + 1,x0,x5 => if x5 < (x0.length:Int) then (if 0 ≤ (wrap64 (x5 - 1)) then (if (wrap64 (x5 - 1)) < (x0.length:Int) then (if 0 ≤ x5 then (if (rd x0 (wrap64 (x5 - 1))) ≥ (rd x0 x5) then (some false) else (spec_fiRises.l0 k x0 (wrap64 (x5 + 1)))) else (none)) else (none)) else (none)) else (some true)
end
def spec_fiRises.f (k:Nat) (l0:List Int) (a1:Int):Option (Bool):=if (l0.length:Int) > (wrap64 (a1 + 1)) then (spec_fiRises.j0 k l0 true) else ((spec_l1All.f k l0 0 a1).bind fun t108 => (spec_fiRises.j0 k l0 (!t108)))
theorem spec_fiRises.mono_l:∀ k,(∀ y0 y1,LeO (spec_fiRises.j0 k y0 y1) (spec_fiRises.j0 (k + 1) y0 y1)) ∧ (∀ y0 y1,LeO (spec_fiRises.l0 k y0 y1) (spec_fiRises.l0 (k + 1) y0 y1))
 | 0 => ⟨fun _ _ r h => by simp [spec_fiRises.j0] at h,fun _ _ r h => by simp [spec_fiRises.l0] at h⟩
 | k + 1 => by
  obtain ⟨ih0,ih1⟩:=spec_fiRises.mono_l k
  refine ⟨?_,?_⟩
  ·intro y0 y1
   unfold spec_fiRises.j0
   repeat' first
   | (with_reducible exact ih0 _ _)
   | (with_reducible exact ih1 _ _)
   | (with_reducible exact spec_l1All.mono _ _ _ _)
   | (with_reducible exact LeO.refl _)
   | (with_reducible exact LeO.none _)
   | (with_reducible refine LeO.ite ?_ ?_)
   | (with_reducible refine LeO.bind ?_ (fun _ => ?_))
   | exact ih0 _ _
   | exact ih1 _ _
   | exact spec_l1All.mono _ _ _ _
   | exact LeO.none _
   | refine LeO.ite ?_ ?_
   | refine LeO.bind ?_ (fun _ => ?_)
  ·intro y0 y1
   unfold spec_fiRises.l0
   repeat' first
   | (with_reducible exact ih0 _ _)
   | (with_reducible exact ih1 _ _)
   | (with_reducible exact spec_l1All.mono _ _ _ _)
   | (with_reducible exact LeO.refl _)
   | (with_reducible exact LeO.none _)
   | (with_reducible refine LeO.ite ?_ ?_)
   | (with_reducible refine LeO.bind ?_ (fun _ => ?_))
   | exact ih0 _ _
   | exact ih1 _ _
   | exact spec_l1All.mono _ _ _ _
   | exact LeO.none _
   | refine LeO.ite ?_ ?_
   | refine LeO.bind ?_ (fun _ => ?_)
theorem spec_fiRises.mono:∀ a0 a1 k,LeO (spec_fiRises.f k a0 a1) (spec_fiRises.f (k + 1) a0 a1):=by
 intro a0 a1 k
 obtain ⟨ih0,ih1⟩:=spec_fiRises.mono_l k
 unfold spec_fiRises.f
 repeat' first
   | (with_reducible exact ih0 _ _)
   | (with_reducible exact ih1 _ _)
   | (with_reducible exact spec_l1All.mono _ _ _ _)
   | (with_reducible exact LeO.refl _)
   | (with_reducible exact LeO.none _)
   | (with_reducible refine LeO.ite ?_ ?_)
   | (with_reducible refine LeO.bind ?_ (fun _ => ?_))
   | exact ih0 _ _
   | exact ih1 _ _
   | exact spec_l1All.mono _ _ _ _
   | exact LeO.none _
   | refine LeO.ite ?_ ?_
   | refine LeO.bind ?_ (fun _ => ?_)
set_option maxHeartbeats 8000000 in
set_option maxRecDepth 100000 in
theorem spec_fiRises.calls (k:Nat) (A0:Option Addr) (c0:Nat) (l0:List Int) (a1:Int) (r:Bool) (w:World) (hr0:Kd.C (Kd.int .i64) w A0 l0.length l0) (hc0:l0.length ≤ c0) (h:spec_fiRises.f k l0 a1 = some r) :
  Calls Tryd.prog 84 #[.slice A0 l0.length c0,.int .i64 a1] w fun e w' => e = .returned (.bool r) ∧ Drawn0 w w':=by
 have HR0:=Aside0.mk hr0
 have HC0:=Aside0.mk hc0
 clear hr0 hc0
 have H:(if (l0.length:Int) > (wrap64 (a1 + 1)) then (spec_fiRises.j0 k l0 true) else ((spec_l1All.f k l0 0 a1).bind fun t108 => (spec_fiRises.j0 k l0 (!t108)))) = some r:=h
 clear h
 have HC3:=Aside0.mk H
 clear H
 go_enter Tryd.func84,Tryd.ntmps84
 go_upto_region 1 with (fail)
 repeat (go_quiet (fail); go_upto_region 1 with (fail))
 go_cut [16] (fun v16 wc => ∃ (kq:Nat) (x16_2:Bool),v16 = .bool x16_2 ∧ Aside0 (spec_fiRises.j0 kq l0 x16_2 = some r) ∧ Aside0 (kq ≤ k) ∧ Drawn0 w wc)
 case first =>
  have H:=HC3.out
  clear HC3
  by_cases c4:(l0.length:Int) > (wrap64 (a1 + 1))
  ·rw [if_pos c4] at H
   have c4b0:decide ((wrap64 (a1 + 1)) < (l0.length:Int)) = true:=decide_eq_true c4
   clear c4
   (first | rw [c4b0] | (simp only [i64_w,i32_w]; rw [c4b0]) | skip)
   have H':=Aside0.mk H
   clear H
   go_wp2
   repeat (go_quiet (fail); try go_wp2)
   go_meet
   case rel => exact ⟨_,(true),rs_,H',⟨by first | omega | exact Nat.le_refl _⟩,by repeat (first | exact Drawn0.refl _ | apply Drawn0.step)⟩
  ·rw [if_neg c4] at H
   have c4b0:decide ((wrap64 (a1 + 1)) < (l0.length:Int)) = false:=decide_eq_false c4
   clear c4
   (first | rw [c4b0] | (simp only [i64_w,i32_w]; rw [c4b0]) | skip)
   replace H:=Option.bind_eq_some_iff.mp H
   obtain ⟨t108,A50,H⟩:=H
   replace H:(spec_fiRises.j0 k l0 (!t108)) = some r:=H
   have A5:=Aside0.mk A50
   clear A50
   have H':=Aside0.mk H
   clear H
   go_wp2_with (first | (go_at_call 101; (with_reducible refine (spec_l1All.calls k _ _ l0 0 a1 t108 _ ?side1 ?side2 A5.out).mono ?_); (case side1 => repeat (first | exact HR0.out | (with_reducible refine Kd.C_alloc ?_ _) | (with_reducible refine Kd.C_drewN ?_ _) | (with_reducible refine Kd.C_drew ?_))); (case side2 => exact HC0.out); rintro e w' ⟨rfl,⟨nd,rfl⟩⟩; (try first | exact ⟨rfl,_,World.drewN_drewN _ _ _⟩ | exact ⟨rfl,_,Eq.trans (World.drewN_drewN _ _ _) (congrArg (World.drewN _) (Nat.add_assoc _ _ _))⟩)))
   repeat (go_quiet (first | (go_at_call 101; (with_reducible refine (spec_l1All.calls k _ _ l0 0 a1 t108 _ ?side1 ?side2 A5.out).mono ?_); (case side1 => repeat (first | exact HR0.out | (with_reducible refine Kd.C_alloc ?_ _) | (with_reducible refine Kd.C_drewN ?_ _) | (with_reducible refine Kd.C_drew ?_))); (case side2 => exact HC0.out); rintro e w' ⟨rfl,⟨nd,rfl⟩⟩; (try first | exact ⟨rfl,_,World.drewN_drewN _ _ _⟩ | exact ⟨rfl,_,Eq.trans (World.drewN_drewN _ _ _) (congrArg (World.drewN _) (Nat.add_assoc _ _ _))⟩))); try go_wp2_with (first | (go_at_call 101; (with_reducible refine (spec_l1All.calls k _ _ l0 0 a1 t108 _ ?side1 ?side2 A5.out).mono ?_); (case side1 => repeat (first | exact HR0.out | (with_reducible refine Kd.C_alloc ?_ _) | (with_reducible refine Kd.C_drewN ?_ _) | (with_reducible refine Kd.C_drew ?_))); (case side2 => exact HC0.out); rintro e w' ⟨rfl,⟨nd,rfl⟩⟩; (try first | exact ⟨rfl,_,World.drewN_drewN _ _ _⟩ | exact ⟨rfl,_,Eq.trans (World.drewN_drewN _ _ _) (congrArg (World.drewN _) (Nat.add_assoc _ _ _))⟩))))
   go_meet
   case rel => exact ⟨_,(!t108),rs_,H',⟨by first | omega | exact Nat.le_refl _⟩,by repeat (first | exact Drawn0.refl _ | apply Drawn0.step)⟩
 case rest =>
  clear HC3
  try clear p2
  try clear c4
  try clear c4b0
  obtain ⟨kq,x16_2,rfl,HA,HJ2,⟨mc2,rfl⟩⟩:=hcut
  cases kq with
  | zero => exact absurd HA.out (by simp [spec_fiRises.j0])
  | succ kj2 =>
   have H:=HA.out
   clear HA
   simp only [spec_fiRises.j0] at H
   by_cases c6:x16_2 = true
   ·subst c6
    have H1:(some false) = some r:=by rw [if_pos rfl] at H; exact H
    clear H
    have H:=H1
    clear H1
    obtain rfl:=Option.some.inj H
    go_wp2
    repeat (go_quiet (fail); try go_wp2)
    go_ret
    exact ⟨by first | rfl | (simp; done) | (simp [*]; done),by repeat (first | exact Drawn0.refl _ | apply Drawn0.step)⟩
   ·replace c6:=Bool.eq_false_iff.mpr c6
    subst c6
    have H1:(spec_fiRises.l0 kj2 l0 1) = some r:=by rw [if_neg (show ¬ (false = true) by decide)] at H; exact H
    clear H
    have H:=H1
    clear H1
    have H':=Aside0.mk H
    clear H
    go_wp2
    repeat (go_quiet (fail); try go_wp2)
    go_loopg [5] kj2 (fun kq v5 w' => ∃ (x5_2:Int),v5 = .int .i64 x5_2 ∧ Aside0 (spec_fiRises.l0 kq l0 x5_2 = some r) ∧ Aside0 (kq ≤ kj2) ∧ Drawn0 w w')
    case atStart => exact ⟨(1),rs_,H',⟨Nat.le_refl _⟩,by repeat (first | exact Drawn0.refl _ | apply Drawn0.step)⟩
    case round =>
     clear H'
     try clear c2
     try clear p2
     try clear c4
     try clear c4b0
     try clear c6
     try clear p6
     try clear p2
     obtain ⟨x5_2,rfl,HA,HK2,⟨m2,rfl⟩⟩:=hrel
     cases gk with
     | zero => exact absurd HA.out (by simp [spec_fiRises.l0])
     | succ k2 =>
      have H:=HA.out
      clear HA
      simp only [spec_fiRises.l0] at H
      by_cases c7:x5_2 < (l0.length:Int)
      ·rw [if_pos c7] at H
       have c7b0:decide (x5_2 < (l0.length:Int)) = true:=decide_eq_true c7
       clear c7
       obtain ⟨ji8,hji8⟩:∃ j_:Int,(wrap64 (x5_2 - 1)) = j_:=⟨_,rfl⟩
       replace H:(if 0 ≤ (ji8) then (if (ji8) < (l0.length:Int) then (if 0 ≤ x5_2 then (if (rd l0 (ji8)) ≥ (rd l0 x5_2) then (some false) else (spec_fiRises.l0 k2 l0 (wrap64 (x5_2 + 1)))) else (none)) else (none)) else (none)) = some r:=by first | (rw [hji8] at H; exact H) | (simp only [hji8] at H ⊢; exact H)
       have hji8w:(IntKind.i64.wrap (x5_2 - 1)) = ji8:=(i64_w _).trans hji8
       by_cases c9:0 ≤ (ji8)
       ·rw [if_pos c9] at H
        have c9b0:decide (0 ≤ (ji8)) = true:=decide_eq_true c9
        clear c9
        by_cases c10:(ji8) < (l0.length:Int)
        ·rw [if_pos c10] at H
         have c10b0:decide ((ji8) < (l0.length:Int)) = true:=decide_eq_true c10
         clear c10
         by_cases c11:0 ≤ x5_2
         ·rw [if_pos c11] at H
          have c11b0:decide (0 ≤ x5_2) = true:=decide_eq_true c11
          clear c11
          by_cases c12:(rd l0 (ji8)) ≥ (rd l0 x5_2)
          ·rw [if_pos c12] at H
           have c12b0:decide ((rd l0 x5_2) ≤ (rd l0 (ji8))) = true:=decide_eq_true c12
           clear c12
           obtain rfl:=Option.some.inj H
           have p109:0 ≤ ((ji8):Int):=of_decide_eq_true as_
           have q109:(ji8) < (l0.length:Int):=of_decide_eq_true as_
           obtain ⟨ad109,e109,hx109_0⟩:=Kd.at_int HR0.out (ji8) p109 q109
           cases e109
           replace p109:=eq_true p109
           replace q109:=eq_true q109
           have p110:0 ≤ (x5_2:Int):=of_decide_eq_true as_
           have q110:x5_2 < (l0.length:Int):=of_decide_eq_true as_
           obtain ⟨ad110,e110,hx110_0⟩:=Kd.at_int HR0.out x5_2 p110 q110
           obtain rfl:ad109 = ad110:=(by injection e110)
           replace p110:=eq_true p110
           replace q110:=eq_true q110
           go_wp2
           repeat (go_quiet (fail); try go_wp2)
           go_ret
           exact ⟨by first | rfl | (simp; done) | (simp only [← hji8] <;> (first | rfl | simp)) | (simp [*]; done),by repeat (first | exact Drawn0.refl _ | apply Drawn0.step)⟩
          ·rw [if_neg c12] at H
           have c12b0:decide ((rd l0 x5_2) ≤ (rd l0 (ji8))) = false:=decide_eq_false c12
           clear c12
           have H':=Aside0.mk H
           clear H
           have p109:0 ≤ ((ji8):Int):=of_decide_eq_true as_
           have q109:(ji8) < (l0.length:Int):=of_decide_eq_true as_
           obtain ⟨ad109,e109,hx109_0⟩:=Kd.at_int HR0.out (ji8) p109 q109
           cases e109
           replace p109:=eq_true p109
           replace q109:=eq_true q109
           have p110:0 ≤ (x5_2:Int):=of_decide_eq_true as_
           have q110:x5_2 < (l0.length:Int):=of_decide_eq_true as_
           obtain ⟨ad110,e110,hx110_0⟩:=Kd.at_int HR0.out x5_2 p110 q110
           obtain rfl:ad109 = ad110:=(by injection e110)
           replace p110:=eq_true p110
           replace q110:=eq_true q110
           go_wp2
           repeat (go_quiet (fail); try go_wp2)
           go_roundg k2
           case measure => have:=HJ2.out; have:=HK2.out; omega
           case rel => exact ⟨(wrap64 (x5_2 + 1)),rs_,H',⟨by have:=HJ2.out; have:=HK2.out; omega⟩,by repeat (first | exact Drawn0.refl _ | apply Drawn0.step)⟩
         ·rw [if_neg c11] at H
          exact absurd H (by simp)
        ·rw [if_neg c10] at H
         exact absurd H (by simp)
       ·rw [if_neg c9] at H
        exact absurd H (by simp)
      ·rw [if_neg c7] at H
       have c7b0:decide (x5_2 < (l0.length:Int)) = false:=decide_eq_false c7
       clear c7
       obtain rfl:=Option.some.inj H
       go_wp2
       repeat (go_quiet (fail); try go_wp2)
       go_ret
       exact ⟨by first | rfl | (simp; done) | (simp [*]; done),by repeat (first | exact Drawn0.refl _ | apply Drawn0.step)⟩


def spec_fiGood.f (k:Nat) (a0_0:Int) (a0_1:Int) (l0_2:List Int) (l0_3:List Int):Option (Bool):=(spec_fiGrid.f a0_0 a0_1).bind fun t112 => (if t112 = true then ((spec_fiRises.f k l0_2 (wrap64 ((wrap64 (a0_0 * (wrap64 (a0_1 + 1)))) - 1))).bind fun t113 => (if t113 = true then ((spec_fiRises.f k l0_3 (wrap64 ((wrap64 ((wrap64 (a0_0 + 1)) * a0_1)) - 1))).bind fun t114 => (some t114)) else (some false))) else (some false))
theorem spec_fiGood.mono:∀ a0 a1 a2 a3 k,LeO (spec_fiGood.f k a0 a1 a2 a3) (spec_fiGood.f (k + 1) a0 a1 a2 a3):=by
 intro a0 a1 a2 a3 k
 unfold spec_fiGood.f
 repeat' first
   | (with_reducible exact spec_fiRises.mono _ _ _)
   | (with_reducible exact LeO.refl _)
   | (with_reducible exact LeO.none _)
   | (with_reducible refine LeO.ite ?_ ?_)
   | (with_reducible refine LeO.bind ?_ (fun _ => ?_))
   | exact spec_fiRises.mono _ _ _
   | exact LeO.none _
   | refine LeO.ite ?_ ?_
   | refine LeO.bind ?_ (fun _ => ?_)
set_option maxHeartbeats 8000000 in
set_option maxRecDepth 100000 in
theorem spec_fiGood.calls (k:Nat) (a0_0:Int) (a0_1:Int) (A0_2:Option Addr) (c0_2:Nat) (l0_2:List Int) (A0_3:Option Addr) (c0_3:Nat) (l0_3:List Int) (r:Bool) (w:World) (hr0_2:Kd.C (Kd.int .i64) w A0_2 l0_2.length l0_2) (hc0_2:l0_2.length ≤ c0_2) (hr0_3:Kd.C (Kd.int .i64) w A0_3 l0_3.length l0_3) (hc0_3:l0_3.length ≤ c0_3) (h:spec_fiGood.f k a0_0 a0_1 l0_2 l0_3 = some r) :
  Calls Tryd.prog 54 #[.agg #[.int .i64 a0_0,.int .i64 a0_1,.slice A0_2 l0_2.length c0_2,.slice A0_3 l0_3.length c0_3]] w fun e w' => e = .returned (.bool r) ∧ Below w.heap.size w w':=by
 have hu26:=Tryd.underlying26
 have HR0_2:=Aside0.mk hr0_2
 have HC0_2:=Aside0.mk hc0_2
 clear hr0_2 hc0_2
 have HR0_3:=Aside0.mk hr0_3
 have HC0_3:=Aside0.mk hc0_3
 clear hr0_3 hc0_3
 have HB:=Aside0.mk (Below.refl w.heap.size w)
 have H:((spec_fiGrid.f a0_0 a0_1).bind fun t112 => (if t112 = true then ((spec_fiRises.f k l0_2 (wrap64 ((wrap64 (a0_0 * (wrap64 (a0_1 + 1)))) - 1))).bind fun t113 => (if t113 = true then ((spec_fiRises.f k l0_3 (wrap64 ((wrap64 ((wrap64 (a0_0 + 1)) * a0_1)) - 1))).bind fun t114 => (some t114)) else (some false))) else (some false))) = some r:=h
 clear h
 replace H:=Option.bind_eq_some_iff.mp H
 obtain ⟨t112,A20,H⟩:=H
 replace H:(if t112 = true then ((spec_fiRises.f k l0_2 (wrap64 ((wrap64 (a0_0 * (wrap64 (a0_1 + 1)))) - 1))).bind fun t113 => (if t113 = true then ((spec_fiRises.f k l0_3 (wrap64 ((wrap64 ((wrap64 (a0_0 + 1)) * a0_1)) - 1))).bind fun t114 => (some t114)) else (some false))) else (some false)) = some r:=H
 have A2:=Aside0.mk A20
 clear A20
 by_cases c3:t112 = true
 ·subst c3
  have H1:((spec_fiRises.f k l0_2 (wrap64 ((wrap64 (a0_0 * (wrap64 (a0_1 + 1)))) - 1))).bind fun t113 => (if t113 = true then ((spec_fiRises.f k l0_3 (wrap64 ((wrap64 ((wrap64 (a0_0 + 1)) * a0_1)) - 1))).bind fun t114 => (some t114)) else (some false))) = some r:=by rw [if_pos rfl] at H; exact H
  clear H
  have H:=H1
  clear H1
  replace H:=Option.bind_eq_some_iff.mp H
  obtain ⟨t113,A40,H⟩:=H
  replace H:(if t113 = true then ((spec_fiRises.f k l0_3 (wrap64 ((wrap64 ((wrap64 (a0_0 + 1)) * a0_1)) - 1))).bind fun t114 => (some t114)) else (some false)) = some r:=H
  have A4:=Aside0.mk A40
  clear A40
  by_cases c5:t113 = true
  ·subst c5
   have H1:((spec_fiRises.f k l0_3 (wrap64 ((wrap64 ((wrap64 (a0_0 + 1)) * a0_1)) - 1))).bind fun t114 => (some t114)) = some r:=by rw [if_pos rfl] at H; exact H
   clear H
   have H:=H1
   clear H1
   replace H:=Option.bind_eq_some_iff.mp H
   obtain ⟨t114,A60,H⟩:=H
   replace H:(some t114) = some r:=H
   have A6:=Aside0.mk A60
   clear A60
   obtain rfl:=Option.some.inj H
   go_enter Tryd.func54,Tryd.ntmps54
   go_wp2_with (first | ((with_reducible refine gate_dst (N:=1) rfl ?_); refine boxE_ (N:=1) (cs:=#[.int .i64 a0_0,.int .i64 a0_1,.slice A0_2 l0_2.length c0_2,.slice A0_3 l0_3.length c0_3]) (t:=26) ?_; intro gb111 hg w7 hbox hb; have n0_:=Aside0.mk (below_step (bl0_ HB.out) hb); have n1_:=Aside0.mk (hbox); have n2_:=Aside0.mk ((bs0_ hg HB.out:w.heap.size ≤ gb111)); have n3_:=Aside0.mk ((bs0_ hg HB.out:w.heap.size ≤ gb111)); clear HB; have HB:=n0_; have BK111:=n1_; have GW111:=n2_; have GE111:=n3_; clear n0_ n1_ n2_ n3_; clear hb hbox hg; have hcz8_0:w7.cell? ⟨gb111,0,none⟩ = some (.int .i64 a0_0):=(blk_cell BK111.out 0).trans rfl; have hcz8_1:w7.cell? ⟨gb111,1,none⟩ = some (.int .i64 a0_1):=(blk_cell BK111.out 1).trans rfl; have hcz8_2:w7.cell? ⟨gb111,2,none⟩ = some (.slice A0_2 l0_2.length c0_2):=(blk_cell BK111.out 2).trans rfl; have hcz8_3:w7.cell? ⟨gb111,3,none⟩ = some (.slice A0_3 l0_3.length c0_3):=(blk_cell BK111.out 3).trans rfl; have hfz8_0:=blk_frozen BK111.out 0; have hfz8_1:=blk_frozen BK111.out 1; have hfz8_2:=blk_frozen BK111.out 2; have hfz8_3:=blk_frozen BK111.out 3) | ((with_reducible refine gate_callee (f:=83) rfl ?_); refine goesL_ (some 7) rfl rfl Tryd.func83 (by kernel_rfl) rfl #[.int .i64 a0_0,.int .i64 a0_1] rfl ob_ ?_; (with_reducible refine (spec_fiGrid.calls a0_0 a0_1 true _ A2.out).mono ?_); rintro e w' ⟨rfl,⟨nd,rfl⟩⟩; refine ⟨_,rfl,?_⟩) | (go_at_call 84; (with_reducible refine (spec_fiRises.calls k _ _ l0_2 (wrap64 ((wrap64 (a0_0 * (wrap64 (a0_1 + 1)))) - 1)) true _ ?side1 ?side2 A4.out).mono ?_); (case side1 => repeat (first | exact (Kd.C_below HR0_2.out (bl1_ HB.out GE111.out)) | (with_reducible refine Kd.C_alloc ?_ _) | (with_reducible refine Kd.C_drewN ?_ _) | (with_reducible refine Kd.C_drew ?_))); (case side2 => exact HC0_2.out); rintro e w' ⟨rfl,⟨nd,rfl⟩⟩) | (go_at_call 84; (with_reducible refine (spec_fiRises.calls k _ _ l0_3 (wrap64 ((wrap64 ((wrap64 (a0_0 + 1)) * a0_1)) - 1)) t114 _ ?side1 ?side2 A6.out).mono ?_); (case side1 => repeat (first | exact (Kd.C_below HR0_3.out (bl1_ HB.out GE111.out)) | (with_reducible refine Kd.C_alloc ?_ _) | (with_reducible refine Kd.C_drewN ?_ _) | (with_reducible refine Kd.C_drew ?_))); (case side2 => exact HC0_3.out); rintro e w' ⟨rfl,⟨nd,rfl⟩⟩))
   go_ret
   exact ⟨er_,bl1_ HB.out GE111.out⟩
  ·replace c5:=Bool.eq_false_iff.mpr c5
   subst c5
   have H1:(some false) = some r:=by rw [if_neg (show ¬ (false = true) by decide)] at H; exact H
   clear H
   have H:=H1
   clear H1
   obtain rfl:=Option.some.inj H
   go_enter Tryd.func54,Tryd.ntmps54
   go_wp2_with (first | ((with_reducible refine gate_dst (N:=1) rfl ?_); refine boxE_ (N:=1) (cs:=#[.int .i64 a0_0,.int .i64 a0_1,.slice A0_2 l0_2.length c0_2,.slice A0_3 l0_3.length c0_3]) (t:=26) ?_; intro gb111 hg w9 hbox hb; have n0_:=Aside0.mk (below_step (bl0_ HB.out) hb); have n1_:=Aside0.mk (hbox); have n2_:=Aside0.mk ((bs0_ hg HB.out:w.heap.size ≤ gb111)); have n3_:=Aside0.mk ((bs0_ hg HB.out:w.heap.size ≤ gb111)); clear HB; have HB:=n0_; have BK111:=n1_; have GW111:=n2_; have GE111:=n3_; clear n0_ n1_ n2_ n3_; clear hb hbox hg; have hcz10_0:w9.cell? ⟨gb111,0,none⟩ = some (.int .i64 a0_0):=(blk_cell BK111.out 0).trans rfl; have hcz10_1:w9.cell? ⟨gb111,1,none⟩ = some (.int .i64 a0_1):=(blk_cell BK111.out 1).trans rfl; have hcz10_2:w9.cell? ⟨gb111,2,none⟩ = some (.slice A0_2 l0_2.length c0_2):=(blk_cell BK111.out 2).trans rfl; have hcz10_3:w9.cell? ⟨gb111,3,none⟩ = some (.slice A0_3 l0_3.length c0_3):=(blk_cell BK111.out 3).trans rfl; have hfz10_0:=blk_frozen BK111.out 0; have hfz10_1:=blk_frozen BK111.out 1; have hfz10_2:=blk_frozen BK111.out 2; have hfz10_3:=blk_frozen BK111.out 3) | ((with_reducible refine gate_callee (f:=83) rfl ?_); refine goesL_ (some 7) rfl rfl Tryd.func83 (by kernel_rfl) rfl #[.int .i64 a0_0,.int .i64 a0_1] rfl ob_ ?_; (with_reducible refine (spec_fiGrid.calls a0_0 a0_1 true _ A2.out).mono ?_); rintro e w' ⟨rfl,⟨nd,rfl⟩⟩; refine ⟨_,rfl,?_⟩) | (go_at_call 84; (with_reducible refine (spec_fiRises.calls k _ _ l0_2 (wrap64 ((wrap64 (a0_0 * (wrap64 (a0_1 + 1)))) - 1)) false _ ?side1 ?side2 A4.out).mono ?_); (case side1 => repeat (first | exact (Kd.C_below HR0_2.out (bl1_ HB.out GE111.out)) | (with_reducible refine Kd.C_alloc ?_ _) | (with_reducible refine Kd.C_drewN ?_ _) | (with_reducible refine Kd.C_drew ?_))); (case side2 => exact HC0_2.out); rintro e w' ⟨rfl,⟨nd,rfl⟩⟩))
   go_ret
   exact ⟨er_,bl1_ HB.out GE111.out⟩
 ·replace c3:=Bool.eq_false_iff.mpr c3
  subst c3
  have H1:(some false) = some r:=by rw [if_neg (show ¬ (false = true) by decide)] at H; exact H
  clear H
  have H:=H1
  clear H1
  obtain rfl:=Option.some.inj H
  go_enter Tryd.func54,Tryd.ntmps54
  go_wp2_with (first | ((with_reducible refine gate_dst (N:=1) rfl ?_); refine boxE_ (N:=1) (cs:=#[.int .i64 a0_0,.int .i64 a0_1,.slice A0_2 l0_2.length c0_2,.slice A0_3 l0_3.length c0_3]) (t:=26) ?_; intro gb111 hg w11 hbox hb; have n0_:=Aside0.mk (below_step (bl0_ HB.out) hb); have n1_:=Aside0.mk (hbox); have n2_:=Aside0.mk ((bs0_ hg HB.out:w.heap.size ≤ gb111)); have n3_:=Aside0.mk ((bs0_ hg HB.out:w.heap.size ≤ gb111)); clear HB; have HB:=n0_; have BK111:=n1_; have GW111:=n2_; have GE111:=n3_; clear n0_ n1_ n2_ n3_; clear hb hbox hg; have hcz12_0:w11.cell? ⟨gb111,0,none⟩ = some (.int .i64 a0_0):=(blk_cell BK111.out 0).trans rfl; have hcz12_1:w11.cell? ⟨gb111,1,none⟩ = some (.int .i64 a0_1):=(blk_cell BK111.out 1).trans rfl; have hcz12_2:w11.cell? ⟨gb111,2,none⟩ = some (.slice A0_2 l0_2.length c0_2):=(blk_cell BK111.out 2).trans rfl; have hcz12_3:w11.cell? ⟨gb111,3,none⟩ = some (.slice A0_3 l0_3.length c0_3):=(blk_cell BK111.out 3).trans rfl; have hfz12_0:=blk_frozen BK111.out 0; have hfz12_1:=blk_frozen BK111.out 1; have hfz12_2:=blk_frozen BK111.out 2; have hfz12_3:=blk_frozen BK111.out 3) | ((with_reducible refine gate_callee (f:=83) rfl ?_); refine goesL_ (some 7) rfl rfl Tryd.func83 (by kernel_rfl) rfl #[.int .i64 a0_0,.int .i64 a0_1] rfl ob_ ?_; (with_reducible refine (spec_fiGrid.calls a0_0 a0_1 false _ A2.out).mono ?_); rintro e w' ⟨rfl,⟨nd,rfl⟩⟩; refine ⟨_,rfl,?_⟩))
  go_ret
  exact ⟨er_,bl1_ HB.out GE111.out⟩


def spec_l1Has.l0:Nat → Int → List Int → Int → Int → Option (Bool)
  | 0,_,_,_,_ => none
  | k + 1,x1,x7,x8,x9 => if x9 < x8 then (if 0 ≤ x9 then (if x9 < (x7.length:Int) then (if (rd x7 x9) = x1 then (some true) else (spec_l1Has.l0 k x1 x7 x8 (wrap64 (x9 + 1)))) else (none)) else (none)) else (some false)
def spec_l1Has.f (k:Nat) (l0:List Int) (a1:Int):Option (Bool):=spec_l1Has.l0 k a1 l0 (l0.length:Int) 0
theorem spec_l1Has.mono_l:∀ k,(∀ y0 y1 y2 y3,LeO (spec_l1Has.l0 k y0 y1 y2 y3) (spec_l1Has.l0 (k + 1) y0 y1 y2 y3))
  | 0 => fun _ _ _ _ r h => by simp [spec_l1Has.l0] at h
  | k + 1 => by
    have ih0:=spec_l1Has.mono_l k
    · intro y0 y1 y2 y3
      unfold spec_l1Has.l0
      repeat' first
      | (with_reducible exact ih0 _ _ _ _)
      | (with_reducible exact LeO.refl _)
      | (with_reducible exact LeO.none _)
      | (with_reducible refine LeO.ite ?_ ?_)
      | (with_reducible refine LeO.bind ?_ (fun _ => ?_))
      | exact ih0 _ _ _ _
      | exact LeO.none _
      | refine LeO.ite ?_ ?_
      | refine LeO.bind ?_ (fun _ => ?_)
theorem spec_l1Has.mono:∀ a0 a1 k,LeO (spec_l1Has.f k a0 a1) (spec_l1Has.f (k + 1) a0 a1):=by
  intro a0 a1 k
  have ih0:=spec_l1Has.mono_l k
  unfold spec_l1Has.f
  repeat' first
      | (with_reducible exact ih0 _ _ _ _)
      | (with_reducible exact LeO.refl _)
      | (with_reducible exact LeO.none _)
      | (with_reducible refine LeO.ite ?_ ?_)
      | (with_reducible refine LeO.bind ?_ (fun _ => ?_))
      | exact ih0 _ _ _ _
      | exact LeO.none _
      | refine LeO.ite ?_ ?_
      | refine LeO.bind ?_ (fun _ => ?_)
set_option maxHeartbeats 8000000 in
set_option maxRecDepth 100000 in
theorem spec_l1Has.calls (k:Nat) (A0:Option Addr) (c0:Nat) (l0:List Int) (a1:Int) (r:Bool) (w:World) (hr0:Kd.C (Kd.int .i64) w A0 l0.length l0) (hc0:l0.length ≤ c0) (h:spec_l1Has.f k l0 a1 = some r) :
    Calls Tryd.prog 82 #[.slice A0 l0.length c0,.int .i64 a1] w fun e w' => e = .returned (.bool r) ∧ Drawn0 w w':=by
  have HR0:=Aside0.mk hr0
  have HC0:=Aside0.mk hc0
  clear hr0 hc0
  have H:(spec_l1Has.l0 k a1 l0 (l0.length:Int) 0) = some r:=h
  clear h
  have H':=Aside0.mk H
  clear H
  go_enter Tryd.func82,Tryd.ntmps82
  go_wp2
  go_loopg [9] k (fun kq v9 w' => ∃ (x9_1:Int),v9 = .int .i64 x9_1 ∧ Aside0 (spec_l1Has.l0 kq a1 l0 (l0.length:Int) x9_1 = some r) ∧ Aside0 (kq ≤ k) ∧ Drawn0 w w')
  case atStart => exact ⟨(0),rs_,H',⟨Nat.le_refl _⟩,by repeat (first | exact Drawn0.refl _ | apply Drawn0.step)⟩
  case round =>
    clear H'
    try clear p2
    obtain ⟨x9_1,rfl,HA,HK1,⟨m1,rfl⟩⟩:=hrel
    cases gk with
    | zero => exact absurd HA.out (by simp [spec_l1Has.l0])
    | succ k1 =>
      have H:=HA.out
      clear HA
      simp only [spec_l1Has.l0] at H
      by_cases c3:x9_1 < (l0.length:Int)
      · rw [if_pos c3] at H
        have c3b0:decide (x9_1 < (l0.length:Int)) = true:=decide_eq_true c3
        clear c3
        by_cases c4:0 ≤ x9_1
        · rw [if_pos c4] at H
          have c4b0:decide (0 ≤ x9_1) = true:=decide_eq_true c4
          clear c4
          by_cases c5:x9_1 < (l0.length:Int)
          · rw [if_pos c5] at H
            have c5b0:decide (x9_1 < (l0.length:Int)) = true:=decide_eq_true c5
            clear c5
            by_cases c6:(rd l0 x9_1) = a1
            · rw [if_pos c6] at H
              have c6b0:((rd l0 x9_1) == a1) = true:=beq_iff_eq.mpr c6
              have c6b1:((rd l0 x9_1) != a1) = false:=bne_eq_false_iff_eq.mpr c6
              clear c6
              obtain rfl:=Option.some.inj H
              have p119:0 ≤ (x9_1:Int):=of_decide_eq_true as_
              have q119:x9_1 < (l0.length:Int):=of_decide_eq_true as_
              obtain ⟨ad119,e119,hx119_0⟩:=Kd.at_int HR0.out x9_1 p119 q119
              cases e119
              replace p119:=eq_true p119
              replace q119:=eq_true q119
              go_wp2
              go_ret
              exact ⟨by first | rfl | (simp; done) | (simp [*]; done),by repeat (first | exact Drawn0.refl _ | apply Drawn0.step)⟩
            · rw [if_neg c6] at H
              have c6b0:((rd l0 x9_1) == a1) = false:=beq_eq_false_iff_ne.mpr c6
              have c6b1:((rd l0 x9_1) != a1) = true:=bne_iff_ne.mpr c6
              have H':=Aside0.mk H
              clear H
              have p119:0 ≤ (x9_1:Int):=of_decide_eq_true as_
              have q119:x9_1 < (l0.length:Int):=of_decide_eq_true as_
              obtain ⟨ad119,e119,hx119_0⟩:=Kd.at_int HR0.out x9_1 p119 q119
              cases e119
              replace p119:=eq_true p119
              replace q119:=eq_true q119
              go_wp2
              go_roundg k1
              case measure => have:=HK1.out; omega
              case rel => exact ⟨(wrap64 (x9_1 + 1)),rs_,H',⟨by have:=HK1.out; omega⟩,by repeat (first | exact Drawn0.refl _ | apply Drawn0.step)⟩
          · rw [if_neg c5] at H
            exact absurd H (by simp)
        · rw [if_neg c4] at H
          exact absurd H (by simp)
      · rw [if_neg c3] at H
        have c3b0:decide (x9_1 < (l0.length:Int)) = false:=decide_eq_false c3
        clear c3
        obtain rfl:=Option.some.inj H
        go_wp2
        go_ret
        exact ⟨by first | rfl | (simp; done) | (simp [*]; done),by repeat (first | exact Drawn0.refl _ | apply Drawn0.step)⟩


def spec_fiThose.l0:Nat → List Int → Bool → List Int → List Int → Int → Int → Option (List Int)
 | 0,_,_,_,_,_,_ => none
 | k + 1,x1,x2,x7,x10,x11,x12 => if x12 < x11 then (if 0 ≤ x12 then (if x12 < (x10.length:Int) then ((spec_l1Has.f k x1 (rd x10 x12)).bind fun t121 => (if (t121 == x2) = true then (if x7.length < 17592186044416 then (spec_fiThose.l0 k x1 x2 (x7 ++ [rd x10 x12]) x10 x11 (wrap64 (x12 + 1))) else (none)) else (spec_fiThose.l0 k x1 x2 x7 x10 x11 (wrap64 (x12 + 1))))) else (none)) else (none)) else (some x7)
def spec_fiThose.f (k:Nat) (l0:List Int) (l1:List Int) (a2:Bool):Option (List Int):=spec_fiThose.l0 k l1 a2 ([]:List Int) l0 (l0.length:Int) 0
theorem spec_fiThose.mono_l:∀ k,(∀ y0 y1 y2 y3 y4 y5,LeO (spec_fiThose.l0 k y0 y1 y2 y3 y4 y5) (spec_fiThose.l0 (k + 1) y0 y1 y2 y3 y4 y5))
 | 0 => fun _ _ _ _ _ _ r h => by simp [spec_fiThose.l0] at h
 | k + 1 => by
  have ih0:=spec_fiThose.mono_l k
  ·intro y0 y1 y2 y3 y4 y5
   unfold spec_fiThose.l0
   repeat' first
   | (with_reducible exact ih0 _ _ _ _ _ _)
   | (with_reducible exact spec_l1Has.mono _ _ _)
   | (with_reducible exact LeO.refl _)
   | (with_reducible exact LeO.none _)
   | (with_reducible refine LeO.ite ?_ ?_)
   | (with_reducible refine LeO.bind ?_ (fun _ => ?_))
   | exact ih0 _ _ _ _ _ _
   | exact spec_l1Has.mono _ _ _
   | exact LeO.none _
   | refine LeO.ite ?_ ?_
   | refine LeO.bind ?_ (fun _ => ?_)
theorem spec_fiThose.mono:∀ a0 a1 a2 k,LeO (spec_fiThose.f k a0 a1 a2) (spec_fiThose.f (k + 1) a0 a1 a2):=by
 intro a0 a1 a2 k
 have ih0:=spec_fiThose.mono_l k
 unfold spec_fiThose.f
 repeat' first
   | (with_reducible exact ih0 _ _ _ _ _ _)
   | (with_reducible exact spec_l1Has.mono _ _ _)
   | (with_reducible exact LeO.refl _)
   | (with_reducible exact LeO.none _)
   | (with_reducible refine LeO.ite ?_ ?_)
   | (with_reducible refine LeO.bind ?_ (fun _ => ?_))
   | exact ih0 _ _ _ _ _ _
   | exact spec_l1Has.mono _ _ _
   | exact LeO.none _
   | refine LeO.ite ?_ ?_
   | refine LeO.bind ?_ (fun _ => ?_)
set_option maxHeartbeats 8000000 in
set_option maxRecDepth 100000 in
theorem spec_fiThose.calls (k:Nat) (A0:Option Addr) (c0:Nat) (l0:List Int) (A1:Option Addr) (c1:Nat) (l1:List Int) (a2:Bool) (r:List Int) (w:World) (hr0:Kd.C (Kd.int .i64) w A0 l0.length l0) (hc0:l0.length ≤ c0) (hr1:Kd.C (Kd.int .i64) w A1 l1.length l1) (hc1:l1.length ≤ c1) (h:spec_fiThose.f k l0 l1 a2 = some r) :
  Calls Tryd.prog 68 #[.slice A0 l0.length c0,.slice A1 l1.length c1,.bool a2] w fun e w' => ∃ v0_:Value,e = .returned (v0_) ∧ Kd.R (Kd.int .i64) 3 w' w.heap.size (fun _ => True) v0_ r ∧ Below w.heap.size w w':=by
 have HR0:=Aside0.mk hr0
 have HC0:=Aside0.mk hc0
 clear hr0 hc0
 have HR1:=Aside0.mk hr1
 have HC1:=Aside0.mk hc1
 clear hr1 hc1
 have HB:=Aside0.mk (Below.refl w.heap.size w)
 have H:(spec_fiThose.l0 k l1 a2 ([]:List Int) l0 (l0.length:Int) 0) = some r:=h
 clear h
 have H':=Aside0.mk H
 clear H
 go_enter Tryd.func68,Tryd.ntmps68
 go_wp2
 go_loopg [7,12] k (fun kq v7 v12 w' => ∃ (x7_1:List Int) (x12_1:Int),v12 = .int .i64 x12_1 ∧ Aside0 (spec_fiThose.l0 kq l1 a2 x7_1 l0 (l0.length:Int) x12_1 = some r) ∧ Aside0 (kq ≤ k) ∧ Aside0 (Kd.R (Kd.int .i64) 3 w' w.heap.size (fun _ => True) v7 x7_1) ∧ Aside0 (Below w.heap.size w w'))
 case atStart => exact ⟨(([]:List Int)),(0),rs_,H',⟨Nat.le_refl _⟩,⟨by first | exact Kd.R_nil _ _ _ _ _ | exact Kd.N_nil _ _ _ _ _ | exact Kd.V_nil _ _ _ _ _ | exact Kd.Q_nil _ _ _ _ _ | exact Kd.S_nil _ _ _ _ _⟩,⟨bl0_ HB.out⟩⟩
 case round =>
  clear H'
  try clear c1
  try clear p2
  obtain ⟨x7_1,x12_1,rfl,HA,HK1,HO_7,HB⟩:=hrel
  cases gk with
  | zero => exact absurd HA.out (by simp [spec_fiThose.l0])
  | succ k1 =>
   have H:=HA.out
   clear HA
   simp only [spec_fiThose.l0] at H
   by_cases c4:x12_1 < (l0.length:Int)
   ·rw [if_pos c4] at H
    have c4b0:decide (x12_1 < (l0.length:Int)) = true:=decide_eq_true c4
    clear c4
    by_cases c5:0 ≤ x12_1
    ·rw [if_pos c5] at H
     have c5b0:decide (0 ≤ x12_1) = true:=decide_eq_true c5
     clear c5
     by_cases c6:x12_1 < (l0.length:Int)
     ·rw [if_pos c6] at H
      have c6b0:decide (x12_1 < (l0.length:Int)) = true:=decide_eq_true c6
      clear c6
      replace H:=Option.bind_eq_some_iff.mp H
      obtain ⟨t121,A70,H⟩:=H
      replace H:(if (t121 == a2) = true then (if x7_1.length < 17592186044416 then (spec_fiThose.l0 k1 l1 a2 (x7_1 ++ [rd l0 x12_1]) l0 (l0.length:Int) (wrap64 (x12_1 + 1))) else (none)) else (spec_fiThose.l0 k1 l1 a2 x7_1 l0 (l0.length:Int) (wrap64 (x12_1 + 1)))) = some r:=H
      have A7:=Aside0.mk A70
      clear A70
      by_cases c8:(t121 == a2) = true
      ·rw [if_pos c8] at H
       have c8b0:(t121 == a2) = true:=c8
       (try (have c8b1:decide (t121 = a2) = true:=by simpa using c8))
       (try (have c8b2:(t121 == a2) = true:=by simpa using c8))
       clear c8
       by_cases c9:x7_1.length < 17592186044416
       ·rw [if_pos c9] at H
        have LMc9:=Aside0.mk c9
        clear c9
        obtain ⟨y122,hy122⟩:∃ y_:List Int,y_ = (x7_1 ++ [rd l0 x12_1]):=⟨_,rfl⟩
        replace H:(spec_fiThose.l0 k1 l1 a2 y122 l0 (l0.length:Int) (wrap64 (x12_1 + 1))) = some r:=by first | (rw [hy122]; with_reducible exact H) | (have H2_:=(Option.bind_some _ _).symm.trans H; rw [hy122]; with_reducible exact H2_) | (have H2_:=(Option.bind_some _ _).symm.trans H; with_reducible exact H2_) | with_reducible exact H | (rw [hy122]; exact H) | exact H
        have Ny122:=Aside0.mk hy122
        clear hy122
        have H':=Aside0.mk H
        clear H
        have p120:0 ≤ (x12_1:Int):=of_decide_eq_true as_
        have q120:x12_1 < (l0.length:Int):=of_decide_eq_true as_
        obtain ⟨ad120,e120,hx120_0⟩:=Kd.at_int HR0.out x12_1 p120 q120
        cases e120
        replace hx120_0:=(HB.out.cell (World.block_lt_of_cell? w _ hx120_0)).trans hx120_0
        replace p120:=eq_true p120
        replace q120:=eq_true q120
        go_wp2_with (first | ((with_reducible refine gate_callee (f:=82) rfl ?_); refine goesL_ (some 18) rfl rfl Tryd.func82 (by kernel_rfl) rfl #[.slice A1 l1.length c1,.int .i64 (rd l0 x12_1)] rfl ob_ ?_; (with_reducible refine (spec_l1Has.calls k1 _ _ l1 (rd l0 x12_1) t121 _ ?side1 ?side2 A7.out).mono ?_); (case side1 => exact kc_ (Kd.C_below HR1.out HB.out)); (case side2 => exact HC1.out); rintro e w' ⟨rfl,⟨nd,rfl⟩⟩; refine ⟨_,rfl,?_⟩) | ((with_reducible refine gate_builtin (b:=.append) (xs:=#[.tmp 21,.tmp 23]) rfl ?_); at_builtin; refine Kd.R_append (Kd.int .i64) (w0:=w) w.heap.size rfl (.tmp 21) (.tmp 23) 22 3 (.int .i64 0) 8 rfl Tryd.underlying22 info3 rfl (by decide) (by omega) u7 x7_1 (rd l0 x12_1) [.int .i64 (rd l0 x12_1)] (fun _ => True) (fun _ => False) rfl rfl ?aP (fun _ hk => hk.elim) ?aF ?aO ?aB ?aS ?aL ?_; (case aP => exact rfl); (case aB => exact (bl0_ HB.out)); (case aF => exact (fun _ _ => trivial)); (case aO => exact (kr_ HO_7.out)); (case aS => exact (below_size (bl0_ HB.out))); (case aL => have:=LMc9.out; omega); intro v123 w10 ho hb hg hat; rw [← Ny122.out] at ho; have n0_:=Aside0.mk (hb); have n1_:=Aside0.mk (ho); clear HB; clear HO_7; have HB:=n0_; have HO124:=n1_; clear n0_ n1_; clear ho hb hg hat))
        go_roundg k1
        case measure => have:=HK1.out; omega
        case rel => exact ⟨(y122),(wrap64 (x12_1 + 1)),rs_,H',⟨by have:=HK1.out; omega⟩,⟨kr_ HO124.out⟩,⟨bl0_ HB.out⟩⟩
       ·rw [if_neg c9] at H
        exact absurd H (by simp)
      ·rw [if_neg c8] at H
       have c8b0:(t121 == a2) = false:=by simpa using c8
       (try (have c8b1:decide (t121 = a2) = false:=by simpa using c8))
       (try (have c8b2:(t121 == a2) = false:=by simpa using c8))
       (try (have c8b3:¬ (t121 = a2):=by simpa using c8))
       clear c8
       have H':=Aside0.mk H
       clear H
       have p120:0 ≤ (x12_1:Int):=of_decide_eq_true as_
       have q120:x12_1 < (l0.length:Int):=of_decide_eq_true as_
       obtain ⟨ad120,e120,hx120_0⟩:=Kd.at_int HR0.out x12_1 p120 q120
       cases e120
       replace hx120_0:=(HB.out.cell (World.block_lt_of_cell? w _ hx120_0)).trans hx120_0
       replace p120:=eq_true p120
       replace q120:=eq_true q120
       go_wp2_with (first | ((with_reducible refine gate_callee (f:=82) rfl ?_); refine goesL_ (some 18) rfl rfl Tryd.func82 (by kernel_rfl) rfl #[.slice A1 l1.length c1,.int .i64 (rd l0 x12_1)] rfl ob_ ?_; (with_reducible refine (spec_l1Has.calls k1 _ _ l1 (rd l0 x12_1) t121 _ ?side1 ?side2 A7.out).mono ?_); (case side1 => exact kc_ (Kd.C_below HR1.out HB.out)); (case side2 => exact HC1.out); rintro e w' ⟨rfl,⟨nd,rfl⟩⟩; refine ⟨_,rfl,?_⟩))
       go_roundg k1
       case measure => have:=HK1.out; omega
       case rel => exact ⟨(x7_1),(wrap64 (x12_1 + 1)),rs_,H',⟨by have:=HK1.out; omega⟩,⟨kr_ HO_7.out⟩,⟨bl0_ HB.out⟩⟩
     ·rw [if_neg c6] at H
      exact absurd H (by simp)
    ·rw [if_neg c5] at H
     exact absurd H (by simp)
   ·rw [if_neg c4] at H
    have c4b0:decide (x12_1 < (l0.length:Int)) = false:=decide_eq_false c4
    clear c4
    obtain rfl:=Option.some.inj H
    go_wp2
    go_ret
    exact ⟨_,er_,by (with_reducible repeat (first | apply Kd.R_alloc | apply Kd.R_drewN | apply Kd.R_drew)); exact HO_7.out,bl0_ HB.out⟩


def spec_fiLess.f (k:Nat) (a0_0:Int) (a0_1:Int) (l0_2:List Int) (l0_3:List Int) (a1_0:Int) (a1_1:Int) (l1_2:List Int) (l1_3:List Int):Option (Int × Int × List Int × List Int):=(spec_fiThose.f k l0_2 l1_2 false).bind fun t128 => ((spec_fiThose.f k l0_3 l1_3 false).bind fun t131 => (some (a0_0,a0_1,t128,t131)))
theorem spec_fiLess.mono:∀ a0 a1 a2 a3 a4 a5 a6 a7 k,LeO (spec_fiLess.f k a0 a1 a2 a3 a4 a5 a6 a7) (spec_fiLess.f (k + 1) a0 a1 a2 a3 a4 a5 a6 a7):=by
 intro a0 a1 a2 a3 a4 a5 a6 a7 k
 unfold spec_fiLess.f
 repeat' first
   | (with_reducible exact spec_fiThose.mono _ _ _ _)
   | (with_reducible exact LeO.refl _)
   | (with_reducible exact LeO.none _)
   | (with_reducible refine LeO.ite ?_ ?_)
   | (with_reducible refine LeO.bind ?_ (fun _ => ?_))
   | exact spec_fiThose.mono _ _ _ _
   | exact LeO.none _
   | refine LeO.ite ?_ ?_
   | refine LeO.bind ?_ (fun _ => ?_)
def spec_fiLess.T1:Bool × List (List Nat × List Nat):=(true,[([],[]),([0],[0]),([],[]),([2],[2]),([],[]),([4],[4]),([],[]),([6],[6]),([5,7],[5,7]),([],[]),([9],[9]),([],[]),([11],[11]),([10,12,8],[10,12]),([1,3,8,13],[1,3,8,13]),([14,13,0,1,2,3,4,5,6,7,8,9,10,11,12,13,14],[14])])
def spec_fiLess.B1:List Nat:=[0,1,0,4,0,16,0,64,240,0,512,0,2048,8176,16383,32767]
theorem spec_fiLess.tab1:rtab .any (opsOf Tryd.f36 1) = spec_fiLess.T1:=by kernel_rfl
theorem spec_fiLess.bits1:waitsOk spec_fiLess.T1.2 spec_fiLess.B1 = true:=by kernel_rfl
set_option maxHeartbeats 8000000 in
set_option maxRecDepth 100000 in
theorem spec_fiLess.calls (k:Nat) (a0_0:Int) (a0_1:Int) (A0_2:Option Addr) (c0_2:Nat) (l0_2:List Int) (A0_3:Option Addr) (c0_3:Nat) (l0_3:List Int) (a1_0:Int) (a1_1:Int) (A1_2:Option Addr) (c1_2:Nat) (l1_2:List Int) (A1_3:Option Addr) (c1_3:Nat) (l1_3:List Int) (r1:Int) (r2:Int) (r3:List Int) (r4:List Int) (w:World) (hr0_2:Kd.C (Kd.int .i64) w A0_2 l0_2.length l0_2) (hc0_2:l0_2.length ≤ c0_2) (hr0_3:Kd.C (Kd.int .i64) w A0_3 l0_3.length l0_3) (hc0_3:l0_3.length ≤ c0_3) (hr1_2:Kd.C (Kd.int .i64) w A1_2 l1_2.length l1_2) (hc1_2:l1_2.length ≤ c1_2) (hr1_3:Kd.C (Kd.int .i64) w A1_3 l1_3.length l1_3) (hc1_3:l1_3.length ≤ c1_3) (h:spec_fiLess.f k a0_0 a0_1 l0_2 l0_3 a1_0 a1_1 l1_2 l1_3 = some (r1,r2,r3,r4)) :
  Calls Tryd.prog 36 #[.agg #[.int .i64 a0_0,.int .i64 a0_1,.slice A0_2 l0_2.length c0_2,.slice A0_3 l0_3.length c0_3],.agg #[.int .i64 a1_0,.int .i64 a1_1,.slice A1_2 l1_2.length c1_2,.slice A1_3 l1_3.length c1_3]] w fun e w' => ∃ v2_ v3_:Value,e = .returned (.agg #[.int .i64 r1,.int .i64 r2,v2_,v3_]) ∧ Kd.R (Kd.int .i64) 3 w' w.heap.size (fun k_ => some k_ ≠ (v3_:Value).ownBlock) v2_ r3 ∧ Kd.R (Kd.int .i64) 3 w' w.heap.size (fun k_ => some k_ ≠ (v2_:Value).ownBlock) v3_ r4 ∧ Below w.heap.size w w':=by
 have hu26:=Tryd.underlying26
 have HR0_2:=Aside0.mk hr0_2
 have HC0_2:=Aside0.mk hc0_2
 clear hr0_2 hc0_2
 have HR0_3:=Aside0.mk hr0_3
 have HC0_3:=Aside0.mk hc0_3
 clear hr0_3 hc0_3
 have HR1_2:=Aside0.mk hr1_2
 have HC1_2:=Aside0.mk hc1_2
 clear hr1_2 hc1_2
 have HR1_3:=Aside0.mk hr1_3
 have HC1_3:=Aside0.mk hc1_3
 clear hr1_3 hc1_3
 have HB:=Aside0.mk (Below.refl w.heap.size w)
 have H:((spec_fiThose.f k l0_2 l1_2 false).bind fun t128 => ((spec_fiThose.f k l0_3 l1_3 false).bind fun t131 => (some (a0_0,a0_1,t128,t131)))) = some (r1,r2,r3,r4):=h
 clear h
 replace H:=Option.bind_eq_some_iff.mp H
 obtain ⟨t128,A30,H⟩:=H
 replace H:((spec_fiThose.f k l0_3 l1_3 false).bind fun t131 => (some (a0_0,a0_1,t128,t131))) = some (r1,r2,r3,r4):=H
 have A3:=Aside0.mk A30
 clear A30
 replace H:=Option.bind_eq_some_iff.mp H
 obtain ⟨t131,A40,H⟩:=H
 replace H:(some (a0_0,a0_1,t128,t131)) = some (r1,r2,r3,r4):=H
 have A4:=Aside0.mk A40
 clear A40
 simp only [Option.some.injEq,Prod.mk.injEq] at H
 obtain ⟨rfl,rfl,rfl,rfl⟩:=H
 go_enter Tryd.func36,Tryd.ntmps36
 try go_wp2_with (first | ((with_reducible refine gate_dst (N:=2) rfl ?_); refine boxE_ (N:=2) (cs:=#[.int .i64 a0_0,.int .i64 a0_1,.slice A0_2 l0_2.length c0_2,.slice A0_3 l0_3.length c0_3]) (t:=26) ?_; intro gb125 hg w5 hbox hb; have n0_:=Aside0.mk (below_step (bl0_ HB.out) hb); have n1_:=Aside0.mk (hbox); have n2_:=Aside0.mk ((bs0_ hg HB.out:w.heap.size ≤ gb125)); have n3_:=Aside0.mk ((bs0_ hg HB.out:w.heap.size ≤ gb125)); clear HB; have HB:=n0_; have BK125:=n1_; have GW125:=n2_; have GE125:=n3_; clear n0_ n1_ n2_ n3_; clear hb hbox hg) | ((with_reducible refine gate_dst (N:=3) rfl ?_); refine boxE_ (N:=3) (cs:=#[.int .i64 a1_0,.int .i64 a1_1,.slice A1_2 l1_2.length c1_2,.slice A1_3 l1_3.length c1_3]) (t:=26) ?_; intro gb126 hg w6 hbox hb; have n0_:=Aside0.mk (bb_ BK125.out hb); have n1_:=Aside0.mk (below_step (bl1_ HB.out GE125.out) hb); have n2_:=Aside0.mk (hbox); have n3_:=Aside0.mk ((bs1_ hg HB.out GE125.out:w.heap.size ≤ gb126)); have n4_:=Aside0.mk ((bs1_ hg HB.out GE125.out:w.heap.size ≤ gb126)); have n5_:=Aside0.mk ((nl_ hg BK125.out:gb125 ≠ gb126)); have n6_:=Aside0.mk ((ng_ hg BK125.out:gb126 ≠ gb125)); clear BK125; clear HB; have BK125:=n0_; have HB:=n1_; have BK126:=n2_; have GW126:=n3_; have GE126:=n4_; have NB125_126:=n5_; have NB126_125:=n6_; clear n0_ n1_ n2_ n3_ n4_ n5_ n6_; clear hb hbox hg) | ((with_reducible refine gate_dst (N:=4) rfl ?_); refine boxE_ (N:=4) (cs:=#[.int .i64 0,.int .i64 0,.slice none 0 0,.slice none 0 0]) (t:=26) ?_; intro gb127 hg w7 hbox hb; have n0_:=Aside0.mk (bb_ BK125.out hb); have n1_:=Aside0.mk (bb_ BK126.out hb); have n2_:=Aside0.mk (below_step (bl2_ HB.out GE125.out GE126.out) hb); have n3_:=Aside0.mk (hbox); have n4_:=Aside0.mk ((bs2_ hg HB.out GE125.out GE126.out:w.heap.size ≤ gb127)); have n5_:=Aside0.mk ((bs2_ hg HB.out GE125.out GE126.out:w.heap.size ≤ gb127)); have n6_:=Aside0.mk ((nl_ hg BK125.out:gb125 ≠ gb127)); have n7_:=Aside0.mk ((ng_ hg BK125.out:gb127 ≠ gb125)); have n8_:=Aside0.mk ((nl_ hg BK126.out:gb126 ≠ gb127)); have n9_:=Aside0.mk ((ng_ hg BK126.out:gb127 ≠ gb126)); clear BK125; clear BK126; clear HB; have BK125:=n0_; have BK126:=n1_; have HB:=n2_; have BK127:=n3_; have GW127:=n4_; have GE127:=n5_; have NB125_127:=n6_; have NB127_125:=n7_; have NB126_127:=n8_; have NB127_126:=n9_; clear n0_ n1_ n2_ n3_ n4_ n5_ n6_ n7_ n8_ n9_; clear hb hbox hg))
 have n0_:=Aside0.mk (blk_drew BK125.out)
 have n1_:=Aside0.mk (blk_drew BK126.out)
 have n2_:=Aside0.mk (blk_drew BK127.out)
 have n3_:=Aside0.mk (below_drew1 HB.out)
 clear BK125
 clear BK126
 clear BK127
 clear HB
 have BK125:=n0_
 have BK126:=n1_
 have BK127:=n2_
 have HB:=n3_
 clear n0_ n1_ n2_ n3_
 refine start_ (n:=16) (S:=fun w' => w'.cell? ⟨gb125,0,none⟩ = some (.int .i64 a0_0) ∧ w'.cell? ⟨gb125,1,none⟩ = some (.int .i64 a0_1) ∧ w'.cell? ⟨gb125,2,none⟩ = some (.slice A0_2 l0_2.length c0_2) ∧ w'.cell? ⟨gb125,3,none⟩ = some (.slice A0_3 l0_3.length c0_3) ∧ w'.cell? ⟨gb126,0,none⟩ = some (.int .i64 a1_0) ∧ w'.cell? ⟨gb126,1,none⟩ = some (.int .i64 a1_1) ∧ w'.cell? ⟨gb126,2,none⟩ = some (.slice A1_2 l1_2.length c1_2) ∧ w'.cell? ⟨gb126,3,none⟩ = some (.slice A1_3 l1_3.length c1_3)) (ds:=[]) #[false,false,false,false,false,false,false,false,false,false,false,false,false,false,false,false] (by kernel_rfl) rfl rfl ⟨(blk_cell BK125.out 0).trans rfl,(blk_cell BK125.out 1).trans rfl,(blk_cell BK125.out 2).trans rfl,(blk_cell BK125.out 3).trans rfl,(blk_cell BK126.out 0).trans rfl,(blk_cell BK126.out 1).trans rfl,(blk_cell BK126.out 2).trans rfl,(blk_cell BK126.out 3).trans rfl⟩ (fun hHeld => ?_); refine with_tabW spec_fiLess.tab1 spec_fiLess.bits1 (fun HT_ HW_ => ?_)
 generalize w7.drew = w8 at BK125 BK126 BK127 HB hHeld ⊢
 refine pure_ (i:=0) (N:=some 5) (v:=?_) (a':=?_) #[true,false,false,false,false,false,false,false,false,false,false,false,false,false,false,false] rfl rfl (any_of HT_.out (by kernel_rfl)) (fun _ _ _ h => h) (Or.inl ⟨by rfl,?_⟩) ?_ ?_
 rotate_left
 ·intro w'
  go_simp
  with_reducible rfl
 rotate_left
 ·simp only [Act.put,List.setIfInBounds_toArray,List.set_cons_zero,List.set_cons_succ,i64_w,i32_w]
  rfl
 refine pure_ (i:=2) (N:=some 7) (v:=?_) (a':=?_) #[true,false,true,false,false,false,false,false,false,false,false,false,false,false,false,false] rfl rfl (any_of HT_.out (by kernel_rfl)) (fun _ _ _ h => h) (Or.inl ⟨by rfl,?_⟩) ?_ ?_
 rotate_left
 ·intro w'
  go_simp
  with_reducible rfl
 rotate_left
 ·simp only [Act.put,List.setIfInBounds_toArray,List.set_cons_zero,List.set_cons_succ,i64_w,i32_w]
  rfl
 refine pure_ (i:=4) (N:=some 9) (v:=?_) (a':=?_) #[true,false,true,false,true,false,false,false,false,false,false,false,false,false,false,false] rfl rfl (any_of HT_.out (by kernel_rfl)) (fun _ _ _ h => h) (Or.inl ⟨by rfl,?_⟩) ?_ ?_
 rotate_left
 ·intro w'
  go_simp
  with_reducible rfl
 rotate_left
 ·simp only [Act.put,List.setIfInBounds_toArray,List.set_cons_zero,List.set_cons_succ,i64_w,i32_w]
  rfl
 refine pure_ (i:=6) (N:=some 11) (v:=?_) (a':=?_) #[true,false,true,false,true,false,true,false,false,false,false,false,false,false,false,false] rfl rfl (any_of HT_.out (by kernel_rfl)) (fun _ _ _ h => h) (Or.inl ⟨by rfl,?_⟩) ?_ ?_
 rotate_left
 ·intro w'
  go_simp
  with_reducible rfl
 rotate_left
 ·simp only [Act.put,List.setIfInBounds_toArray,List.set_cons_zero,List.set_cons_succ,i64_w,i32_w]
  rfl
 refine pure_ (i:=9) (N:=some 14) (v:=?_) (a':=?_) #[true,false,true,false,true,false,true,false,false,true,false,false,false,false,false,false] rfl rfl (any_of HT_.out (by kernel_rfl)) (fun _ _ _ h => h) (Or.inl ⟨by rfl,?_⟩) ?_ ?_
 rotate_left
 ·intro w'
  go_simp
  with_reducible rfl
 rotate_left
 ·simp only [Act.put,List.setIfInBounds_toArray,List.set_cons_zero,List.set_cons_succ,i64_w,i32_w]
  rfl
 refine pure_ (i:=11) (N:=some 16) (v:=?_) (a':=?_) #[true,false,true,false,true,false,true,false,false,true,false,true,false,false,false,false] rfl rfl (any_of HT_.out (by kernel_rfl)) (fun _ _ _ h => h) (Or.inl ⟨by rfl,?_⟩) ?_ ?_
 rotate_left
 ·intro w'
  go_simp
  with_reducible rfl
 rotate_left
 ·simp only [Act.put,List.setIfInBounds_toArray,List.set_cons_zero,List.set_cons_succ,i64_w,i32_w]
  rfl
 refine take_ (i:=1) (N:=some 6) (v:=?_) (a':=?_) #[true,true,true,false,true,false,true,false,false,true,false,true,false,false,false,false] rfl rfl (take_ofW HT_.out HW_.out (by kernel_rfl)) (fun _ _ _ h => h) (Or.inl ⟨by rfl,?_⟩) hHeld ?_ ?_
 rotate_left
 ·rintro w' ⟨s0,s1,s2,s3,s4,s5,s6,s7⟩
  go_simp
  with_reducible rfl
 rotate_left
 ·simp only [Act.put,List.setIfInBounds_toArray,List.set_cons_zero,List.set_cons_succ,i64_w,i32_w]
  rfl
 refine take_ (i:=3) (N:=some 8) (v:=?_) (a':=?_) #[true,true,true,true,true,false,true,false,false,true,false,true,false,false,false,false] rfl rfl (take_ofW HT_.out HW_.out (by kernel_rfl)) (fun _ _ _ h => h) (Or.inl ⟨by rfl,?_⟩) hHeld ?_ ?_
 rotate_left
 ·rintro w' ⟨s0,s1,s2,s3,s4,s5,s6,s7⟩
  go_simp
  with_reducible rfl
 rotate_left
 ·simp only [Act.put,List.setIfInBounds_toArray,List.set_cons_zero,List.set_cons_succ,i64_w,i32_w]
  rfl
 refine take_ (i:=5) (N:=some 10) (v:=?_) (a':=?_) #[true,true,true,true,true,true,true,false,false,true,false,true,false,false,false,false] rfl rfl (take_ofW HT_.out HW_.out (by kernel_rfl)) (fun _ _ _ h => h) (Or.inl ⟨by rfl,?_⟩) hHeld ?_ ?_
 rotate_left
 ·rintro w' ⟨s0,s1,s2,s3,s4,s5,s6,s7⟩
  go_simp
  with_reducible rfl
 rotate_left
 ·simp only [Act.put,List.setIfInBounds_toArray,List.set_cons_zero,List.set_cons_succ,i64_w,i32_w]
  rfl
 refine take_ (i:=7) (N:=some 12) (v:=?_) (a':=?_) #[true,true,true,true,true,true,true,true,false,true,false,true,false,false,false,false] rfl rfl (take_ofW HT_.out HW_.out (by kernel_rfl)) (fun _ _ _ h => h) (Or.inl ⟨by rfl,?_⟩) hHeld ?_ ?_
 rotate_left
 ·rintro w' ⟨s0,s1,s2,s3,s4,s5,s6,s7⟩
  go_simp
  with_reducible rfl
 rotate_left
 ·simp only [Act.put,List.setIfInBounds_toArray,List.set_cons_zero,List.set_cons_succ,i64_w,i32_w]
  rfl
 refine take_ (i:=10) (N:=some 15) (v:=?_) (a':=?_) #[true,true,true,true,true,true,true,true,false,true,true,true,false,false,false,false] rfl rfl (take_ofW HT_.out HW_.out (by kernel_rfl)) (fun _ _ _ h => h) (Or.inl ⟨by rfl,?_⟩) hHeld ?_ ?_
 rotate_left
 ·rintro w' ⟨s0,s1,s2,s3,s4,s5,s6,s7⟩
  go_simp
  with_reducible rfl
 rotate_left
 ·simp only [Act.put,List.setIfInBounds_toArray,List.set_cons_zero,List.set_cons_succ,i64_w,i32_w]
  rfl
 refine take_ (i:=12) (N:=some 17) (v:=?_) (a':=?_) #[true,true,true,true,true,true,true,true,false,true,true,true,true,false,false,false] rfl rfl (take_ofW HT_.out HW_.out (by kernel_rfl)) (fun _ _ _ h => h) (Or.inl ⟨by rfl,?_⟩) hHeld ?_ ?_
 rotate_left
 ·rintro w' ⟨s0,s1,s2,s3,s4,s5,s6,s7⟩
  go_simp
  with_reducible rfl
 rotate_left
 ·simp only [Act.put,List.setIfInBounds_toArray,List.set_cons_zero,List.set_cons_succ,i64_w,i32_w]
  rfl
 refine one_ (i:=8) (N:=some 13) #[true,true,true,true,true,true,true,true,true,true,true,true,true,false,false,false] rfl rfl (one_of HT_.out (by kernel_rfl)) (by decide) (fun K hK => ?_)
 refine goes_ Tryd.func68 (by kernel_rfl) rfl #[.slice A0_2 l0_2.length c0_2,.slice A1_2 l1_2.length c1_2,.bool false] (by rfl) rfl rfl ob_ ?_
 with_reducible refine (spec_fiThose.calls k _ _ l0_2 _ _ l1_2 false t128 _ ?side1 ?side2 ?side3 ?side4 A3.out).mono ?_
 (case side1 => exact kc_ (Kd.C_below HR0_2.out HB.out))
 (case side2 => exact HC0_2.out)
 (case side3 => exact kc_ (Kd.C_below HR1_2.out HB.out))
 (case side4 => exact HC1_2.out)
 rintro e w9 ⟨v129,rfl,ho0,hb⟩
 refine ⟨_,rfl,?_⟩
 have n0_:=Aside0.mk (Kd.R_lower ho0 (below_size (bl3_ HB.out GE125.out GE126.out GE127.out)))
 have n1_:=Aside0.mk (bb_ BK125.out hb)
 have n2_:=Aside0.mk (bb_ BK126.out hb)
 have n3_:=Aside0.mk (bb_ BK127.out hb)
 have n4_:=Aside0.mk (below_step (bl3_ HB.out GE125.out GE126.out GE127.out) hb)
 clear BK125
 clear BK126
 clear BK127
 clear HB
 have HO130:=n0_
 have BK125:=n1_
 have BK126:=n2_
 have BK127:=n3_
 have HB:=n4_
 clear n0_ n1_ n2_ n3_ n4_
 (try clear hb)
 (try clear hb2)
 (try clear hk)
 (try clear hi)
 (try clear ho0)
 refine hK.out _ _ ⟨(blk_cell BK125.out 0).trans rfl,(blk_cell BK125.out 1).trans rfl,(blk_cell BK125.out 2).trans rfl,(blk_cell BK125.out 3).trans rfl,(blk_cell BK126.out 0).trans rfl,(blk_cell BK126.out 1).trans rfl,(blk_cell BK126.out 2).trans rfl,(blk_cell BK126.out 3).trans rfl⟩ (fun hHeld => ?_)
 clear hK K
 refine norm_ (a':=?_) ?_ ?_
 rotate_left
 ·show Act.put _ (some 13) _ = _
  simp only [Act.put,List.setIfInBounds_toArray,List.set_cons_zero,List.set_cons_succ,i64_w,i32_w]
  rfl
 refine one_ (i:=13) (N:=some 18) #[true,true,true,true,true,true,true,true,true,true,true,true,true,true,false,false] rfl rfl (one_of HT_.out (by kernel_rfl)) (by decide) (fun K hK => ?_)
 refine goes_ Tryd.func68 (by kernel_rfl) rfl #[.slice A0_3 l0_3.length c0_3,.slice A1_3 l1_3.length c1_3,.bool false] (by rfl) rfl rfl ob_ ?_
 with_reducible refine (spec_fiThose.calls k _ _ l0_3 _ _ l1_3 false t131 _ ?side1 ?side2 ?side3 ?side4 A4.out).mono ?_
 (case side1 => exact kc_ (Kd.C_below HR0_3.out HB.out))
 (case side2 => exact HC0_3.out)
 (case side3 => exact kc_ (Kd.C_below HR1_3.out HB.out))
 (case side4 => exact HC1_3.out)
 rintro e w10 ⟨v132,rfl,ho0,hb⟩
 refine ⟨_,rfl,?_⟩
 have n0_:=Aside0.mk (Kd.R_elder' (kr_ HO130.out) (Kd.R_base ho0) hb)
 have n1_:=Aside0.mk (Kd.R_lower (Kd.R_new' ho0 (Kd.R_lt (kr_ HO130.out))) (below_size (bl3_ HB.out GE125.out GE126.out GE127.out)))
 have n2_:=Aside0.mk (bb_ BK125.out hb)
 have n3_:=Aside0.mk (bb_ BK126.out hb)
 have n4_:=Aside0.mk (bb_ BK127.out hb)
 have n5_:=Aside0.mk (below_step (bl3_ HB.out GE125.out GE126.out GE127.out) hb)
 clear HO130
 clear BK125
 clear BK126
 clear BK127
 clear HB
 have HO130:=n0_
 have HO133:=n1_
 have BK125:=n2_
 have BK126:=n3_
 have BK127:=n4_
 have HB:=n5_
 clear n0_ n1_ n2_ n3_ n4_ n5_
 (try clear hb)
 (try clear hb2)
 (try clear hk)
 (try clear hi)
 (try clear ho0)
 obtain ⟨Ao11,co11,eo11⟩:=Kd.R_slice HO133.out
 (first | subst eo11 | (injection eo11 with f1_ f2_ f3_; have f4_:=f1_.symm; have f5_:=f3_.symm; clear f1_ f2_ f3_; subst f4_; subst f5_))
 obtain ⟨Ao12,co12,eo12⟩:=Kd.R_slice HO130.out
 (first | subst eo12 | (injection eo12 with f1_ f2_ f3_; have f4_:=f1_.symm; have f5_:=f3_.symm; clear f1_ f2_ f3_; subst f4_; subst f5_))
 refine hK.out _ _ ⟨(blk_cell BK125.out 0).trans rfl,(blk_cell BK125.out 1).trans rfl,(blk_cell BK125.out 2).trans rfl,(blk_cell BK125.out 3).trans rfl,(blk_cell BK126.out 0).trans rfl,(blk_cell BK126.out 1).trans rfl,(blk_cell BK126.out 2).trans rfl,(blk_cell BK126.out 3).trans rfl⟩ (fun hHeld => ?_)
 clear hK K
 refine norm_ (a':=?_) ?_ ?_
 rotate_left
 ·show Act.put _ (some 18) _ = _
  simp only [Act.put,List.setIfInBounds_toArray,List.set_cons_zero,List.set_cons_succ,i64_w,i32_w]
  rfl
 refine pure_ (i:=14) (N:=some 19) (v:=?_) (a':=?_) #[true,true,true,true,true,true,true,true,true,true,true,true,true,true,true,false] rfl rfl (any_of HT_.out (by kernel_rfl)) (fun _ _ _ h => h) (Or.inl ⟨by rfl,?_⟩) ?_ ?_
 rotate_left
 ·intro w'
  go_simp
  with_reducible rfl
 rotate_left
 ·simp only [Act.put,List.setIfInBounds_toArray,List.set_cons_zero,List.set_cons_succ,i64_w,i32_w]
  rfl
 refine one_ (i:=15) (N:=none) #[true,true,true,true,true,true,true,true,true,true,true,true,true,true,true,true] rfl rfl (one_of HT_.out (by kernel_rfl)) (by decide) (fun K hK => ?_)
 have hs13:w10.cell? ⟨gb127,0,none⟩ = some (.int .i64 0):=(blk_cell BK127.out 0).trans rfl
 have hfs13:=blk_frozen BK127.out 0
 have hns13_0:=NB125_127.out
 have hns13_1:=NB126_127.out
 have hms13_0:=NB127_125.out
 have hms13_1:=NB127_126.out
 have hs14:w10.cell? ⟨gb127,1,none⟩ = some (.int .i64 0):=(blk_cell BK127.out 1).trans rfl
 have hfs14:=blk_frozen BK127.out 1
 have hns14_0:=NB125_127.out
 have hns14_1:=NB126_127.out
 have hms14_0:=NB127_125.out
 have hms14_1:=NB127_126.out
 have hs15:w10.cell? ⟨gb127,2,none⟩ = some (.slice none 0 0):=(blk_cell BK127.out 2).trans rfl
 have hfs15:=blk_frozen BK127.out 2
 have hns15_0:=NB125_127.out
 have hns15_1:=NB126_127.out
 have hms15_0:=NB127_125.out
 have hms15_1:=NB127_126.out
 have hs16:w10.cell? ⟨gb127,3,none⟩ = some (.slice none 0 0):=(blk_cell BK127.out 3).trans rfl
 have hfs16:=blk_frozen BK127.out 3
 have hns16_0:=NB125_127.out
 have hns16_1:=NB126_127.out
 have hms16_0:=NB127_125.out
 have hms16_1:=NB127_126.out
 refine skip_ (w1:=?_) (by rfl) rfl ?_ ?_
 rotate_left
 ·go_simp
  rfl
 refine hK.out _ _ ⟨((cell_far (p:=⟨gb127,_,none⟩) NB125_127.out _).trans (((cell_far (p:=⟨gb127,_,none⟩) NB125_127.out _).trans (((cell_far (p:=⟨gb127,_,none⟩) NB125_127.out _).trans (((cell_far (p:=⟨gb127,_,none⟩) NB125_127.out _).trans (hHeld.1)))))))),((cell_far (p:=⟨gb127,_,none⟩) NB125_127.out _).trans (((cell_far (p:=⟨gb127,_,none⟩) NB125_127.out _).trans (((cell_far (p:=⟨gb127,_,none⟩) NB125_127.out _).trans (((cell_far (p:=⟨gb127,_,none⟩) NB125_127.out _).trans (hHeld.2.1)))))))),((cell_far (p:=⟨gb127,_,none⟩) NB125_127.out _).trans (((cell_far (p:=⟨gb127,_,none⟩) NB125_127.out _).trans (((cell_far (p:=⟨gb127,_,none⟩) NB125_127.out _).trans (((cell_far (p:=⟨gb127,_,none⟩) NB125_127.out _).trans (hHeld.2.2.1)))))))),((cell_far (p:=⟨gb127,_,none⟩) NB125_127.out _).trans (((cell_far (p:=⟨gb127,_,none⟩) NB125_127.out _).trans (((cell_far (p:=⟨gb127,_,none⟩) NB125_127.out _).trans (((cell_far (p:=⟨gb127,_,none⟩) NB125_127.out _).trans (hHeld.2.2.2.1)))))))),((cell_far (p:=⟨gb127,_,none⟩) NB126_127.out _).trans (((cell_far (p:=⟨gb127,_,none⟩) NB126_127.out _).trans (((cell_far (p:=⟨gb127,_,none⟩) NB126_127.out _).trans (((cell_far (p:=⟨gb127,_,none⟩) NB126_127.out _).trans (hHeld.2.2.2.2.1)))))))),((cell_far (p:=⟨gb127,_,none⟩) NB126_127.out _).trans (((cell_far (p:=⟨gb127,_,none⟩) NB126_127.out _).trans (((cell_far (p:=⟨gb127,_,none⟩) NB126_127.out _).trans (((cell_far (p:=⟨gb127,_,none⟩) NB126_127.out _).trans (hHeld.2.2.2.2.2.1)))))))),((cell_far (p:=⟨gb127,_,none⟩) NB126_127.out _).trans (((cell_far (p:=⟨gb127,_,none⟩) NB126_127.out _).trans (((cell_far (p:=⟨gb127,_,none⟩) NB126_127.out _).trans (((cell_far (p:=⟨gb127,_,none⟩) NB126_127.out _).trans (hHeld.2.2.2.2.2.2.1)))))))),((cell_far (p:=⟨gb127,_,none⟩) NB126_127.out _).trans (((cell_far (p:=⟨gb127,_,none⟩) NB126_127.out _).trans (((cell_far (p:=⟨gb127,_,none⟩) NB126_127.out _).trans (((cell_far (p:=⟨gb127,_,none⟩) NB126_127.out _).trans (hHeld.2.2.2.2.2.2.2))))))))⟩ (fun hHeld => ?_)
 clear hK K
 refine done_ (done_of HT_.out (by kernel_rfl)) ?_
 try go_wp2
 refine bodyPost_ret (results_cell_row rfl _ _ gb127 26 #[.int .i64 a0_0,.int .i64 a0_1,.slice Ao12 t128.length co12,.slice Ao11 t131.length co11] (0,0) _ rfl (by (with_reducible repeat (first | refine blk_drewN ?_ _ | refine blk_drew ?_ | refine blk_alloc ?_ _)); refine blk_put (cs:=#[.int .i64 a0_0,.int .i64 a0_1,.slice Ao12 t128.length co12,.slice none 0 0]) ?_ 3 _ rfl; (with_reducible repeat (first | refine blk_drewN ?_ _ | refine blk_drew ?_ | refine blk_alloc ?_ _)); refine blk_put (cs:=#[.int .i64 a0_0,.int .i64 a0_1,.slice none 0 0,.slice none 0 0]) ?_ 2 _ rfl; (with_reducible repeat (first | refine blk_drewN ?_ _ | refine blk_drew ?_ | refine blk_alloc ?_ _)); refine blk_put (cs:=#[.int .i64 a0_0,.int .i64 0,.slice none 0 0,.slice none 0 0]) ?_ 1 _ rfl; (with_reducible repeat (first | refine blk_drewN ?_ _ | refine blk_drew ?_ | refine blk_alloc ?_ _)); refine blk_put (cs:=#[.int .i64 0,.int .i64 0,.slice none 0 0,.slice none 0 0]) ?_ 0 _ rfl; (with_reducible repeat (first | refine blk_drewN ?_ _ | refine blk_drew ?_ | refine blk_alloc ?_ _)); exact BK127.out) Tryd.underlying26 rfl (by kernel_rfl)) rfl ?_
 exact ⟨_,_,er_,by (with_reducible repeat (first | apply Kd.R_alloc | apply Kd.R_drewN | apply Kd.R_drew)); exact Kd.R_mono (Kd.R_far (p:=⟨gb127,3,none⟩) (Kd.R_far (p:=⟨gb127,2,none⟩) (Kd.R_far (p:=⟨gb127,1,none⟩) (Kd.R_far (p:=⟨gb127,0,none⟩) (Kd.R_types HO130.out BK127.out (by decide)) (fun _ hk => hk.2) (.int .i64 a0_0)) (fun _ hk => hk.2) (.int .i64 a0_1)) (fun _ hk => hk.2) (.slice Ao12 t128.length co12)) (fun _ hk => hk.2) (.slice Ao11 t131.length co11)) (fun _ hk => hk.1.2),by (with_reducible repeat (first | apply Kd.R_alloc | apply Kd.R_drewN | apply Kd.R_drew)); exact Kd.R_mono (Kd.R_far (p:=⟨gb127,3,none⟩) (Kd.R_far (p:=⟨gb127,2,none⟩) (Kd.R_far (p:=⟨gb127,1,none⟩) (Kd.R_far (p:=⟨gb127,0,none⟩) (Kd.R_types HO133.out BK127.out (by decide)) (fun _ hk => hk.2) (.int .i64 a0_0)) (fun _ hk => hk.2) (.int .i64 a0_1)) (fun _ hk => hk.2) (.slice Ao12 t128.length co12)) (fun _ hk => hk.2) (.slice Ao11 t131.length co11)) (fun _ hk => hk.1.2),bl3_ HB.out GE125.out GE126.out GE127.out⟩


def spec_fiCount.f (a0_0:Int) (a0_1:Int) (l0_2:List Int) (l0_3:List Int):Option (Int):=some (wrap64 ((l0_2.length:Int) + (l0_3.length:Int)))
set_option maxHeartbeats 8000000 in
set_option maxRecDepth 100000 in
theorem spec_fiCount.calls (a0_0:Int) (a0_1:Int) (A0_2:Option Addr) (c0_2:Nat) (l0_2:List Int) (A0_3:Option Addr) (c0_3:Nat) (l0_3:List Int) (r:Int) (w:World) (hr0_2:Kd.C (Kd.int .i64) w A0_2 l0_2.length l0_2) (hc0_2:l0_2.length ≤ c0_2) (hr0_3:Kd.C (Kd.int .i64) w A0_3 l0_3.length l0_3) (hc0_3:l0_3.length ≤ c0_3) (h:spec_fiCount.f a0_0 a0_1 l0_2 l0_3 = some r) :
    Calls Tryd.prog 92 #[.agg #[.int .i64 a0_0,.int .i64 a0_1,.slice A0_2 l0_2.length c0_2,.slice A0_3 l0_3.length c0_3]] w fun e w' => e = .returned (.int .i64 r) ∧ Below w.heap.size w w':=by
  have hu26:=Tryd.underlying26
  have HR0_2:=Aside0.mk hr0_2
  have HC0_2:=Aside0.mk hc0_2
  clear hr0_2 hc0_2
  have HR0_3:=Aside0.mk hr0_3
  have HC0_3:=Aside0.mk hc0_3
  clear hr0_3 hc0_3
  have HB:=Aside0.mk (Below.refl w.heap.size w)
  have H:(some (wrap64 ((l0_2.length:Int) + (l0_3.length:Int)))) = some r:=h
  clear h
  obtain rfl:=Option.some.inj H
  go_enter Tryd.func92,Tryd.ntmps92
  go_wp2_with (first | ((with_reducible refine gate_dst (N:=1) rfl ?_); refine boxE_ (N:=1) (cs:=#[.int .i64 a0_0,.int .i64 a0_1,.slice A0_2 l0_2.length c0_2,.slice A0_3 l0_3.length c0_3]) (t:=26) ?_; intro gb653 hg w2 hbox hb; have n0_:=Aside0.mk (below_step (bl0_ HB.out) hb); have n1_:=Aside0.mk (hbox); have n2_:=Aside0.mk ((bs0_ hg HB.out:w.heap.size ≤ gb653)); have n3_:=Aside0.mk ((bs0_ hg HB.out:w.heap.size ≤ gb653)); clear HB; have HB:=n0_; have BK653:=n1_; have GW653:=n2_; have GE653:=n3_; clear n0_ n1_ n2_ n3_; clear hb hbox hg; have hcz3_0:w2.cell? ⟨gb653,0,none⟩ = some (.int .i64 a0_0):=(blk_cell BK653.out 0).trans rfl; have hcz3_1:w2.cell? ⟨gb653,1,none⟩ = some (.int .i64 a0_1):=(blk_cell BK653.out 1).trans rfl; have hcz3_2:w2.cell? ⟨gb653,2,none⟩ = some (.slice A0_2 l0_2.length c0_2):=(blk_cell BK653.out 2).trans rfl; have hcz3_3:w2.cell? ⟨gb653,3,none⟩ = some (.slice A0_3 l0_3.length c0_3):=(blk_cell BK653.out 3).trans rfl; have hfz3_0:=blk_frozen BK653.out 0; have hfz3_1:=blk_frozen BK653.out 1; have hfz3_2:=blk_frozen BK653.out 2; have hfz3_3:=blk_frozen BK653.out 3))
  go_ret
  exact ⟨er_,bl1_ HB.out GE653.out⟩


def spec_fiEdge.f (a0_0:Int) (a0_1:Int) (l0_2:List Int) (l0_3:List Int) (a1:Bool) (a2:Int) (a3:Int):Option (Int × Bool):=if a1 = true then ((spec_l1In.f a2 0 a0_0).bind fun t298 => (if t298 = true then ((spec_l1In.f a3 0 (wrap64 (a0_1 - 1))).bind fun t299 => (some (wrap64 ((wrap64 (a3 * (wrap64 (a0_0 + 1)))) + a2),t299))) else (some (wrap64 ((wrap64 (a3 * (wrap64 (a0_0 + 1)))) + a2),false)))) else ((spec_l1In.f a2 0 (wrap64 (a0_0 - 1))).bind fun t300 => (if t300 = true then ((spec_l1In.f a3 0 a0_1).bind fun t301 => (some (wrap64 ((wrap64 (a3 * a0_0)) + a2),t301))) else (some (wrap64 ((wrap64 (a3 * a0_0)) + a2),false))))
set_option maxHeartbeats 8000000 in
set_option maxRecDepth 100000 in
theorem spec_fiEdge.calls (a0_0:Int) (a0_1:Int) (A0_2:Option Addr) (c0_2:Nat) (l0_2:List Int) (A0_3:Option Addr) (c0_3:Nat) (l0_3:List Int) (a1:Bool) (a2:Int) (a3:Int) (r1:Int) (r2:Bool) (w:World) (hr0_2:Kd.C (Kd.int .i64) w A0_2 l0_2.length l0_2) (hc0_2:l0_2.length ≤ c0_2) (hr0_3:Kd.C (Kd.int .i64) w A0_3 l0_3.length l0_3) (hc0_3:l0_3.length ≤ c0_3) (h:spec_fiEdge.f a0_0 a0_1 l0_2 l0_3 a1 a2 a3 = some (r1,r2)) :
  Calls Tryd.prog 73 #[.agg #[.int .i64 a0_0,.int .i64 a0_1,.slice A0_2 l0_2.length c0_2,.slice A0_3 l0_3.length c0_3],.bool a1,.int .i64 a2,.int .i64 a3] w fun e w' => e = .returned (.tuple #[.int .i64 r1,.bool r2]) ∧ Below w.heap.size w w':=by
 have hu26:=Tryd.underlying26
 have HR0_2:=Aside0.mk hr0_2
 have HC0_2:=Aside0.mk hc0_2
 clear hr0_2 hc0_2
 have HR0_3:=Aside0.mk hr0_3
 have HC0_3:=Aside0.mk hc0_3
 clear hr0_3 hc0_3
 have HB:=Aside0.mk (Below.refl w.heap.size w)
 have H:(if a1 = true then ((spec_l1In.f a2 0 a0_0).bind fun t298 => (if t298 = true then ((spec_l1In.f a3 0 (wrap64 (a0_1 - 1))).bind fun t299 => (some (wrap64 ((wrap64 (a3 * (wrap64 (a0_0 + 1)))) + a2),t299))) else (some (wrap64 ((wrap64 (a3 * (wrap64 (a0_0 + 1)))) + a2),false)))) else ((spec_l1In.f a2 0 (wrap64 (a0_0 - 1))).bind fun t300 => (if t300 = true then ((spec_l1In.f a3 0 a0_1).bind fun t301 => (some (wrap64 ((wrap64 (a3 * a0_0)) + a2),t301))) else (some (wrap64 ((wrap64 (a3 * a0_0)) + a2),false))))) = some (r1,r2):=h
 clear h
 by_cases c5:a1 = true
 ·subst c5
  have H1:((spec_l1In.f a2 0 a0_0).bind fun t298 => (if t298 = true then ((spec_l1In.f a3 0 (wrap64 (a0_1 - 1))).bind fun t299 => (some (wrap64 ((wrap64 (a3 * (wrap64 (a0_0 + 1)))) + a2),t299))) else (some (wrap64 ((wrap64 (a3 * (wrap64 (a0_0 + 1)))) + a2),false)))) = some (r1,r2):=by rw [if_pos rfl] at H; exact H
  clear H
  have H:=H1
  clear H1
  replace H:=Option.bind_eq_some_iff.mp H
  obtain ⟨t298,A60,H⟩:=H
  replace H:(if t298 = true then ((spec_l1In.f a3 0 (wrap64 (a0_1 - 1))).bind fun t299 => (some (wrap64 ((wrap64 (a3 * (wrap64 (a0_0 + 1)))) + a2),t299))) else (some (wrap64 ((wrap64 (a3 * (wrap64 (a0_0 + 1)))) + a2),false))) = some (r1,r2):=H
  have A6:=Aside0.mk A60
  clear A60
  by_cases c7:t298 = true
  ·subst c7
   have H1:((spec_l1In.f a3 0 (wrap64 (a0_1 - 1))).bind fun t299 => (some (wrap64 ((wrap64 (a3 * (wrap64 (a0_0 + 1)))) + a2),t299))) = some (r1,r2):=by rw [if_pos rfl] at H; exact H
   clear H
   have H:=H1
   clear H1
   replace H:=Option.bind_eq_some_iff.mp H
   obtain ⟨t299,A80,H⟩:=H
   replace H:(some (wrap64 ((wrap64 (a3 * (wrap64 (a0_0 + 1)))) + a2),t299)) = some (r1,r2):=H
   have A8:=Aside0.mk A80
   clear A80
   simp only [Option.some.injEq,Prod.mk.injEq] at H
   obtain ⟨rfl,rfl⟩:=H
   go_enter Tryd.func73,Tryd.ntmps73
   go_wp2_with (first | ((with_reducible refine gate_dst (N:=4) rfl ?_); refine boxE_ (N:=4) (cs:=#[.int .i64 a0_0,.int .i64 a0_1,.slice A0_2 l0_2.length c0_2,.slice A0_3 l0_3.length c0_3]) (t:=26) ?_; intro gb297 hg w9 hbox hb; have n0_:=Aside0.mk (below_step (bl0_ HB.out) hb); have n1_:=Aside0.mk (hbox); have n2_:=Aside0.mk ((bs0_ hg HB.out:w.heap.size ≤ gb297)); have n3_:=Aside0.mk ((bs0_ hg HB.out:w.heap.size ≤ gb297)); clear HB; have HB:=n0_; have BK297:=n1_; have GW297:=n2_; have GE297:=n3_; clear n0_ n1_ n2_ n3_; clear hb hbox hg; have hcz10_0:w9.cell? ⟨gb297,0,none⟩ = some (.int .i64 a0_0):=(blk_cell BK297.out 0).trans rfl; have hcz10_1:w9.cell? ⟨gb297,1,none⟩ = some (.int .i64 a0_1):=(blk_cell BK297.out 1).trans rfl; have hcz10_2:w9.cell? ⟨gb297,2,none⟩ = some (.slice A0_2 l0_2.length c0_2):=(blk_cell BK297.out 2).trans rfl; have hcz10_3:w9.cell? ⟨gb297,3,none⟩ = some (.slice A0_3 l0_3.length c0_3):=(blk_cell BK297.out 3).trans rfl; have hfz10_0:=blk_frozen BK297.out 0; have hfz10_1:=blk_frozen BK297.out 1; have hfz10_2:=blk_frozen BK297.out 2; have hfz10_3:=blk_frozen BK297.out 3) | (go_at_call 71; (with_reducible refine (spec_l1In.calls a2 0 a0_0 true _ A6.out).mono ?_); rintro e w' ⟨rfl,⟨nd,rfl⟩⟩; (try first | exact ⟨rfl,_,World.drewN_drewN _ _ _⟩ | exact ⟨rfl,_,Eq.trans (World.drewN_drewN _ _ _) (congrArg (World.drewN _) (Nat.add_assoc _ _ _))⟩)) | (go_at_call 71; (with_reducible refine (spec_l1In.calls a3 0 (wrap64 (a0_1 - 1)) t299 _ A8.out).mono ?_); rintro e w' ⟨rfl,⟨nd,rfl⟩⟩; (try first | exact ⟨rfl,_,World.drewN_drewN _ _ _⟩ | exact ⟨rfl,_,Eq.trans (World.drewN_drewN _ _ _) (congrArg (World.drewN _) (Nat.add_assoc _ _ _))⟩)))
   repeat (go_quiet (first | ((with_reducible refine gate_dst (N:=4) rfl ?_); refine boxE_ (N:=4) (cs:=#[.int .i64 a0_0,.int .i64 a0_1,.slice A0_2 l0_2.length c0_2,.slice A0_3 l0_3.length c0_3]) (t:=26) ?_; intro gb297 hg w9 hbox hb; have n0_:=Aside0.mk (below_step (bl0_ HB.out) hb); have n1_:=Aside0.mk (hbox); have n2_:=Aside0.mk ((bs0_ hg HB.out:w.heap.size ≤ gb297)); have n3_:=Aside0.mk ((bs0_ hg HB.out:w.heap.size ≤ gb297)); clear HB; have HB:=n0_; have BK297:=n1_; have GW297:=n2_; have GE297:=n3_; clear n0_ n1_ n2_ n3_; clear hb hbox hg; have hcz10_0:w9.cell? ⟨gb297,0,none⟩ = some (.int .i64 a0_0):=(blk_cell BK297.out 0).trans rfl; have hcz10_1:w9.cell? ⟨gb297,1,none⟩ = some (.int .i64 a0_1):=(blk_cell BK297.out 1).trans rfl; have hcz10_2:w9.cell? ⟨gb297,2,none⟩ = some (.slice A0_2 l0_2.length c0_2):=(blk_cell BK297.out 2).trans rfl; have hcz10_3:w9.cell? ⟨gb297,3,none⟩ = some (.slice A0_3 l0_3.length c0_3):=(blk_cell BK297.out 3).trans rfl; have hfz10_0:=blk_frozen BK297.out 0; have hfz10_1:=blk_frozen BK297.out 1; have hfz10_2:=blk_frozen BK297.out 2; have hfz10_3:=blk_frozen BK297.out 3) | (go_at_call 71; (with_reducible refine (spec_l1In.calls a2 0 a0_0 true _ A6.out).mono ?_); rintro e w' ⟨rfl,⟨nd,rfl⟩⟩; (try first | exact ⟨rfl,_,World.drewN_drewN _ _ _⟩ | exact ⟨rfl,_,Eq.trans (World.drewN_drewN _ _ _) (congrArg (World.drewN _) (Nat.add_assoc _ _ _))⟩)) | (go_at_call 71; (with_reducible refine (spec_l1In.calls a3 0 (wrap64 (a0_1 - 1)) t299 _ A8.out).mono ?_); rintro e w' ⟨rfl,⟨nd,rfl⟩⟩; (try first | exact ⟨rfl,_,World.drewN_drewN _ _ _⟩ | exact ⟨rfl,_,Eq.trans (World.drewN_drewN _ _ _) (congrArg (World.drewN _) (Nat.add_assoc _ _ _))⟩))); try go_wp2_with (first | ((with_reducible refine gate_dst (N:=4) rfl ?_); refine boxE_ (N:=4) (cs:=#[.int .i64 a0_0,.int .i64 a0_1,.slice A0_2 l0_2.length c0_2,.slice A0_3 l0_3.length c0_3]) (t:=26) ?_; intro gb297 hg w9 hbox hb; have n0_:=Aside0.mk (below_step (bl0_ HB.out) hb); have n1_:=Aside0.mk (hbox); have n2_:=Aside0.mk ((bs0_ hg HB.out:w.heap.size ≤ gb297)); have n3_:=Aside0.mk ((bs0_ hg HB.out:w.heap.size ≤ gb297)); clear HB; have HB:=n0_; have BK297:=n1_; have GW297:=n2_; have GE297:=n3_; clear n0_ n1_ n2_ n3_; clear hb hbox hg; have hcz10_0:w9.cell? ⟨gb297,0,none⟩ = some (.int .i64 a0_0):=(blk_cell BK297.out 0).trans rfl; have hcz10_1:w9.cell? ⟨gb297,1,none⟩ = some (.int .i64 a0_1):=(blk_cell BK297.out 1).trans rfl; have hcz10_2:w9.cell? ⟨gb297,2,none⟩ = some (.slice A0_2 l0_2.length c0_2):=(blk_cell BK297.out 2).trans rfl; have hcz10_3:w9.cell? ⟨gb297,3,none⟩ = some (.slice A0_3 l0_3.length c0_3):=(blk_cell BK297.out 3).trans rfl; have hfz10_0:=blk_frozen BK297.out 0; have hfz10_1:=blk_frozen BK297.out 1; have hfz10_2:=blk_frozen BK297.out 2; have hfz10_3:=blk_frozen BK297.out 3) | (go_at_call 71; (with_reducible refine (spec_l1In.calls a2 0 a0_0 true _ A6.out).mono ?_); rintro e w' ⟨rfl,⟨nd,rfl⟩⟩; (try first | exact ⟨rfl,_,World.drewN_drewN _ _ _⟩ | exact ⟨rfl,_,Eq.trans (World.drewN_drewN _ _ _) (congrArg (World.drewN _) (Nat.add_assoc _ _ _))⟩)) | (go_at_call 71; (with_reducible refine (spec_l1In.calls a3 0 (wrap64 (a0_1 - 1)) t299 _ A8.out).mono ?_); rintro e w' ⟨rfl,⟨nd,rfl⟩⟩; (try first | exact ⟨rfl,_,World.drewN_drewN _ _ _⟩ | exact ⟨rfl,_,Eq.trans (World.drewN_drewN _ _ _) (congrArg (World.drewN _) (Nat.add_assoc _ _ _))⟩))))
   go_ret2
   exact ⟨er_,bl1_ HB.out GE297.out⟩
  ·replace c7:=Bool.eq_false_iff.mpr c7
   subst c7
   have H1:(some (wrap64 ((wrap64 (a3 * (wrap64 (a0_0 + 1)))) + a2),false)) = some (r1,r2):=by rw [if_neg (show ¬ (false = true) by decide)] at H; exact H
   clear H
   have H:=H1
   clear H1
   simp only [Option.some.injEq,Prod.mk.injEq] at H
   obtain ⟨rfl,rfl⟩:=H
   go_enter Tryd.func73,Tryd.ntmps73
   go_wp2_with (first | ((with_reducible refine gate_dst (N:=4) rfl ?_); refine boxE_ (N:=4) (cs:=#[.int .i64 a0_0,.int .i64 a0_1,.slice A0_2 l0_2.length c0_2,.slice A0_3 l0_3.length c0_3]) (t:=26) ?_; intro gb297 hg w11 hbox hb; have n0_:=Aside0.mk (below_step (bl0_ HB.out) hb); have n1_:=Aside0.mk (hbox); have n2_:=Aside0.mk ((bs0_ hg HB.out:w.heap.size ≤ gb297)); have n3_:=Aside0.mk ((bs0_ hg HB.out:w.heap.size ≤ gb297)); clear HB; have HB:=n0_; have BK297:=n1_; have GW297:=n2_; have GE297:=n3_; clear n0_ n1_ n2_ n3_; clear hb hbox hg; have hcz12_0:w11.cell? ⟨gb297,0,none⟩ = some (.int .i64 a0_0):=(blk_cell BK297.out 0).trans rfl; have hcz12_1:w11.cell? ⟨gb297,1,none⟩ = some (.int .i64 a0_1):=(blk_cell BK297.out 1).trans rfl; have hcz12_2:w11.cell? ⟨gb297,2,none⟩ = some (.slice A0_2 l0_2.length c0_2):=(blk_cell BK297.out 2).trans rfl; have hcz12_3:w11.cell? ⟨gb297,3,none⟩ = some (.slice A0_3 l0_3.length c0_3):=(blk_cell BK297.out 3).trans rfl; have hfz12_0:=blk_frozen BK297.out 0; have hfz12_1:=blk_frozen BK297.out 1; have hfz12_2:=blk_frozen BK297.out 2; have hfz12_3:=blk_frozen BK297.out 3) | (go_at_call 71; (with_reducible refine (spec_l1In.calls a2 0 a0_0 false _ A6.out).mono ?_); rintro e w' ⟨rfl,⟨nd,rfl⟩⟩; (try first | exact ⟨rfl,_,World.drewN_drewN _ _ _⟩ | exact ⟨rfl,_,Eq.trans (World.drewN_drewN _ _ _) (congrArg (World.drewN _) (Nat.add_assoc _ _ _))⟩)))
   repeat (go_quiet (first | ((with_reducible refine gate_dst (N:=4) rfl ?_); refine boxE_ (N:=4) (cs:=#[.int .i64 a0_0,.int .i64 a0_1,.slice A0_2 l0_2.length c0_2,.slice A0_3 l0_3.length c0_3]) (t:=26) ?_; intro gb297 hg w11 hbox hb; have n0_:=Aside0.mk (below_step (bl0_ HB.out) hb); have n1_:=Aside0.mk (hbox); have n2_:=Aside0.mk ((bs0_ hg HB.out:w.heap.size ≤ gb297)); have n3_:=Aside0.mk ((bs0_ hg HB.out:w.heap.size ≤ gb297)); clear HB; have HB:=n0_; have BK297:=n1_; have GW297:=n2_; have GE297:=n3_; clear n0_ n1_ n2_ n3_; clear hb hbox hg; have hcz12_0:w11.cell? ⟨gb297,0,none⟩ = some (.int .i64 a0_0):=(blk_cell BK297.out 0).trans rfl; have hcz12_1:w11.cell? ⟨gb297,1,none⟩ = some (.int .i64 a0_1):=(blk_cell BK297.out 1).trans rfl; have hcz12_2:w11.cell? ⟨gb297,2,none⟩ = some (.slice A0_2 l0_2.length c0_2):=(blk_cell BK297.out 2).trans rfl; have hcz12_3:w11.cell? ⟨gb297,3,none⟩ = some (.slice A0_3 l0_3.length c0_3):=(blk_cell BK297.out 3).trans rfl; have hfz12_0:=blk_frozen BK297.out 0; have hfz12_1:=blk_frozen BK297.out 1; have hfz12_2:=blk_frozen BK297.out 2; have hfz12_3:=blk_frozen BK297.out 3) | (go_at_call 71; (with_reducible refine (spec_l1In.calls a2 0 a0_0 false _ A6.out).mono ?_); rintro e w' ⟨rfl,⟨nd,rfl⟩⟩; (try first | exact ⟨rfl,_,World.drewN_drewN _ _ _⟩ | exact ⟨rfl,_,Eq.trans (World.drewN_drewN _ _ _) (congrArg (World.drewN _) (Nat.add_assoc _ _ _))⟩))); try go_wp2_with (first | ((with_reducible refine gate_dst (N:=4) rfl ?_); refine boxE_ (N:=4) (cs:=#[.int .i64 a0_0,.int .i64 a0_1,.slice A0_2 l0_2.length c0_2,.slice A0_3 l0_3.length c0_3]) (t:=26) ?_; intro gb297 hg w11 hbox hb; have n0_:=Aside0.mk (below_step (bl0_ HB.out) hb); have n1_:=Aside0.mk (hbox); have n2_:=Aside0.mk ((bs0_ hg HB.out:w.heap.size ≤ gb297)); have n3_:=Aside0.mk ((bs0_ hg HB.out:w.heap.size ≤ gb297)); clear HB; have HB:=n0_; have BK297:=n1_; have GW297:=n2_; have GE297:=n3_; clear n0_ n1_ n2_ n3_; clear hb hbox hg; have hcz12_0:w11.cell? ⟨gb297,0,none⟩ = some (.int .i64 a0_0):=(blk_cell BK297.out 0).trans rfl; have hcz12_1:w11.cell? ⟨gb297,1,none⟩ = some (.int .i64 a0_1):=(blk_cell BK297.out 1).trans rfl; have hcz12_2:w11.cell? ⟨gb297,2,none⟩ = some (.slice A0_2 l0_2.length c0_2):=(blk_cell BK297.out 2).trans rfl; have hcz12_3:w11.cell? ⟨gb297,3,none⟩ = some (.slice A0_3 l0_3.length c0_3):=(blk_cell BK297.out 3).trans rfl; have hfz12_0:=blk_frozen BK297.out 0; have hfz12_1:=blk_frozen BK297.out 1; have hfz12_2:=blk_frozen BK297.out 2; have hfz12_3:=blk_frozen BK297.out 3) | (go_at_call 71; (with_reducible refine (spec_l1In.calls a2 0 a0_0 false _ A6.out).mono ?_); rintro e w' ⟨rfl,⟨nd,rfl⟩⟩; (try first | exact ⟨rfl,_,World.drewN_drewN _ _ _⟩ | exact ⟨rfl,_,Eq.trans (World.drewN_drewN _ _ _) (congrArg (World.drewN _) (Nat.add_assoc _ _ _))⟩))))
   go_ret2
   exact ⟨er_,bl1_ HB.out GE297.out⟩
 ·replace c5:=Bool.eq_false_iff.mpr c5
  subst c5
  have H1:((spec_l1In.f a2 0 (wrap64 (a0_0 - 1))).bind fun t300 => (if t300 = true then ((spec_l1In.f a3 0 a0_1).bind fun t301 => (some (wrap64 ((wrap64 (a3 * a0_0)) + a2),t301))) else (some (wrap64 ((wrap64 (a3 * a0_0)) + a2),false)))) = some (r1,r2):=by rw [if_neg (show ¬ (false = true) by decide)] at H; exact H
  clear H
  have H:=H1
  clear H1
  replace H:=Option.bind_eq_some_iff.mp H
  obtain ⟨t300,A130,H⟩:=H
  replace H:(if t300 = true then ((spec_l1In.f a3 0 a0_1).bind fun t301 => (some (wrap64 ((wrap64 (a3 * a0_0)) + a2),t301))) else (some (wrap64 ((wrap64 (a3 * a0_0)) + a2),false))) = some (r1,r2):=H
  have A13:=Aside0.mk A130
  clear A130
  by_cases c14:t300 = true
  ·subst c14
   have H1:((spec_l1In.f a3 0 a0_1).bind fun t301 => (some (wrap64 ((wrap64 (a3 * a0_0)) + a2),t301))) = some (r1,r2):=by rw [if_pos rfl] at H; exact H
   clear H
   have H:=H1
   clear H1
   replace H:=Option.bind_eq_some_iff.mp H
   obtain ⟨t301,A150,H⟩:=H
   replace H:(some (wrap64 ((wrap64 (a3 * a0_0)) + a2),t301)) = some (r1,r2):=H
   have A15:=Aside0.mk A150
   clear A150
   simp only [Option.some.injEq,Prod.mk.injEq] at H
   obtain ⟨rfl,rfl⟩:=H
   go_enter Tryd.func73,Tryd.ntmps73
   go_wp2_with (first | ((with_reducible refine gate_dst (N:=4) rfl ?_); refine boxE_ (N:=4) (cs:=#[.int .i64 a0_0,.int .i64 a0_1,.slice A0_2 l0_2.length c0_2,.slice A0_3 l0_3.length c0_3]) (t:=26) ?_; intro gb297 hg w16 hbox hb; have n0_:=Aside0.mk (below_step (bl0_ HB.out) hb); have n1_:=Aside0.mk (hbox); have n2_:=Aside0.mk ((bs0_ hg HB.out:w.heap.size ≤ gb297)); have n3_:=Aside0.mk ((bs0_ hg HB.out:w.heap.size ≤ gb297)); clear HB; have HB:=n0_; have BK297:=n1_; have GW297:=n2_; have GE297:=n3_; clear n0_ n1_ n2_ n3_; clear hb hbox hg; have hcz17_0:w16.cell? ⟨gb297,0,none⟩ = some (.int .i64 a0_0):=(blk_cell BK297.out 0).trans rfl; have hcz17_1:w16.cell? ⟨gb297,1,none⟩ = some (.int .i64 a0_1):=(blk_cell BK297.out 1).trans rfl; have hcz17_2:w16.cell? ⟨gb297,2,none⟩ = some (.slice A0_2 l0_2.length c0_2):=(blk_cell BK297.out 2).trans rfl; have hcz17_3:w16.cell? ⟨gb297,3,none⟩ = some (.slice A0_3 l0_3.length c0_3):=(blk_cell BK297.out 3).trans rfl; have hfz17_0:=blk_frozen BK297.out 0; have hfz17_1:=blk_frozen BK297.out 1; have hfz17_2:=blk_frozen BK297.out 2; have hfz17_3:=blk_frozen BK297.out 3) | (go_at_call 71; (with_reducible refine (spec_l1In.calls a2 0 (wrap64 (a0_0 - 1)) true _ A13.out).mono ?_); rintro e w' ⟨rfl,⟨nd,rfl⟩⟩; (try first | exact ⟨rfl,_,World.drewN_drewN _ _ _⟩ | exact ⟨rfl,_,Eq.trans (World.drewN_drewN _ _ _) (congrArg (World.drewN _) (Nat.add_assoc _ _ _))⟩)) | (go_at_call 71; (with_reducible refine (spec_l1In.calls a3 0 a0_1 t301 _ A15.out).mono ?_); rintro e w' ⟨rfl,⟨nd,rfl⟩⟩; (try first | exact ⟨rfl,_,World.drewN_drewN _ _ _⟩ | exact ⟨rfl,_,Eq.trans (World.drewN_drewN _ _ _) (congrArg (World.drewN _) (Nat.add_assoc _ _ _))⟩)))
   repeat (go_quiet (first | ((with_reducible refine gate_dst (N:=4) rfl ?_); refine boxE_ (N:=4) (cs:=#[.int .i64 a0_0,.int .i64 a0_1,.slice A0_2 l0_2.length c0_2,.slice A0_3 l0_3.length c0_3]) (t:=26) ?_; intro gb297 hg w16 hbox hb; have n0_:=Aside0.mk (below_step (bl0_ HB.out) hb); have n1_:=Aside0.mk (hbox); have n2_:=Aside0.mk ((bs0_ hg HB.out:w.heap.size ≤ gb297)); have n3_:=Aside0.mk ((bs0_ hg HB.out:w.heap.size ≤ gb297)); clear HB; have HB:=n0_; have BK297:=n1_; have GW297:=n2_; have GE297:=n3_; clear n0_ n1_ n2_ n3_; clear hb hbox hg; have hcz17_0:w16.cell? ⟨gb297,0,none⟩ = some (.int .i64 a0_0):=(blk_cell BK297.out 0).trans rfl; have hcz17_1:w16.cell? ⟨gb297,1,none⟩ = some (.int .i64 a0_1):=(blk_cell BK297.out 1).trans rfl; have hcz17_2:w16.cell? ⟨gb297,2,none⟩ = some (.slice A0_2 l0_2.length c0_2):=(blk_cell BK297.out 2).trans rfl; have hcz17_3:w16.cell? ⟨gb297,3,none⟩ = some (.slice A0_3 l0_3.length c0_3):=(blk_cell BK297.out 3).trans rfl; have hfz17_0:=blk_frozen BK297.out 0; have hfz17_1:=blk_frozen BK297.out 1; have hfz17_2:=blk_frozen BK297.out 2; have hfz17_3:=blk_frozen BK297.out 3) | (go_at_call 71; (with_reducible refine (spec_l1In.calls a2 0 (wrap64 (a0_0 - 1)) true _ A13.out).mono ?_); rintro e w' ⟨rfl,⟨nd,rfl⟩⟩; (try first | exact ⟨rfl,_,World.drewN_drewN _ _ _⟩ | exact ⟨rfl,_,Eq.trans (World.drewN_drewN _ _ _) (congrArg (World.drewN _) (Nat.add_assoc _ _ _))⟩)) | (go_at_call 71; (with_reducible refine (spec_l1In.calls a3 0 a0_1 t301 _ A15.out).mono ?_); rintro e w' ⟨rfl,⟨nd,rfl⟩⟩; (try first | exact ⟨rfl,_,World.drewN_drewN _ _ _⟩ | exact ⟨rfl,_,Eq.trans (World.drewN_drewN _ _ _) (congrArg (World.drewN _) (Nat.add_assoc _ _ _))⟩))); try go_wp2_with (first | ((with_reducible refine gate_dst (N:=4) rfl ?_); refine boxE_ (N:=4) (cs:=#[.int .i64 a0_0,.int .i64 a0_1,.slice A0_2 l0_2.length c0_2,.slice A0_3 l0_3.length c0_3]) (t:=26) ?_; intro gb297 hg w16 hbox hb; have n0_:=Aside0.mk (below_step (bl0_ HB.out) hb); have n1_:=Aside0.mk (hbox); have n2_:=Aside0.mk ((bs0_ hg HB.out:w.heap.size ≤ gb297)); have n3_:=Aside0.mk ((bs0_ hg HB.out:w.heap.size ≤ gb297)); clear HB; have HB:=n0_; have BK297:=n1_; have GW297:=n2_; have GE297:=n3_; clear n0_ n1_ n2_ n3_; clear hb hbox hg; have hcz17_0:w16.cell? ⟨gb297,0,none⟩ = some (.int .i64 a0_0):=(blk_cell BK297.out 0).trans rfl; have hcz17_1:w16.cell? ⟨gb297,1,none⟩ = some (.int .i64 a0_1):=(blk_cell BK297.out 1).trans rfl; have hcz17_2:w16.cell? ⟨gb297,2,none⟩ = some (.slice A0_2 l0_2.length c0_2):=(blk_cell BK297.out 2).trans rfl; have hcz17_3:w16.cell? ⟨gb297,3,none⟩ = some (.slice A0_3 l0_3.length c0_3):=(blk_cell BK297.out 3).trans rfl; have hfz17_0:=blk_frozen BK297.out 0; have hfz17_1:=blk_frozen BK297.out 1; have hfz17_2:=blk_frozen BK297.out 2; have hfz17_3:=blk_frozen BK297.out 3) | (go_at_call 71; (with_reducible refine (spec_l1In.calls a2 0 (wrap64 (a0_0 - 1)) true _ A13.out).mono ?_); rintro e w' ⟨rfl,⟨nd,rfl⟩⟩; (try first | exact ⟨rfl,_,World.drewN_drewN _ _ _⟩ | exact ⟨rfl,_,Eq.trans (World.drewN_drewN _ _ _) (congrArg (World.drewN _) (Nat.add_assoc _ _ _))⟩)) | (go_at_call 71; (with_reducible refine (spec_l1In.calls a3 0 a0_1 t301 _ A15.out).mono ?_); rintro e w' ⟨rfl,⟨nd,rfl⟩⟩; (try first | exact ⟨rfl,_,World.drewN_drewN _ _ _⟩ | exact ⟨rfl,_,Eq.trans (World.drewN_drewN _ _ _) (congrArg (World.drewN _) (Nat.add_assoc _ _ _))⟩))))
   go_ret2
   exact ⟨er_,bl1_ HB.out GE297.out⟩
  ·replace c14:=Bool.eq_false_iff.mpr c14
   subst c14
   have H1:(some (wrap64 ((wrap64 (a3 * a0_0)) + a2),false)) = some (r1,r2):=by rw [if_neg (show ¬ (false = true) by decide)] at H; exact H
   clear H
   have H:=H1
   clear H1
   simp only [Option.some.injEq,Prod.mk.injEq] at H
   obtain ⟨rfl,rfl⟩:=H
   go_enter Tryd.func73,Tryd.ntmps73
   go_wp2_with (first | ((with_reducible refine gate_dst (N:=4) rfl ?_); refine boxE_ (N:=4) (cs:=#[.int .i64 a0_0,.int .i64 a0_1,.slice A0_2 l0_2.length c0_2,.slice A0_3 l0_3.length c0_3]) (t:=26) ?_; intro gb297 hg w18 hbox hb; have n0_:=Aside0.mk (below_step (bl0_ HB.out) hb); have n1_:=Aside0.mk (hbox); have n2_:=Aside0.mk ((bs0_ hg HB.out:w.heap.size ≤ gb297)); have n3_:=Aside0.mk ((bs0_ hg HB.out:w.heap.size ≤ gb297)); clear HB; have HB:=n0_; have BK297:=n1_; have GW297:=n2_; have GE297:=n3_; clear n0_ n1_ n2_ n3_; clear hb hbox hg; have hcz19_0:w18.cell? ⟨gb297,0,none⟩ = some (.int .i64 a0_0):=(blk_cell BK297.out 0).trans rfl; have hcz19_1:w18.cell? ⟨gb297,1,none⟩ = some (.int .i64 a0_1):=(blk_cell BK297.out 1).trans rfl; have hcz19_2:w18.cell? ⟨gb297,2,none⟩ = some (.slice A0_2 l0_2.length c0_2):=(blk_cell BK297.out 2).trans rfl; have hcz19_3:w18.cell? ⟨gb297,3,none⟩ = some (.slice A0_3 l0_3.length c0_3):=(blk_cell BK297.out 3).trans rfl; have hfz19_0:=blk_frozen BK297.out 0; have hfz19_1:=blk_frozen BK297.out 1; have hfz19_2:=blk_frozen BK297.out 2; have hfz19_3:=blk_frozen BK297.out 3) | (go_at_call 71; (with_reducible refine (spec_l1In.calls a2 0 (wrap64 (a0_0 - 1)) false _ A13.out).mono ?_); rintro e w' ⟨rfl,⟨nd,rfl⟩⟩; (try first | exact ⟨rfl,_,World.drewN_drewN _ _ _⟩ | exact ⟨rfl,_,Eq.trans (World.drewN_drewN _ _ _) (congrArg (World.drewN _) (Nat.add_assoc _ _ _))⟩)))
   repeat (go_quiet (first | ((with_reducible refine gate_dst (N:=4) rfl ?_); refine boxE_ (N:=4) (cs:=#[.int .i64 a0_0,.int .i64 a0_1,.slice A0_2 l0_2.length c0_2,.slice A0_3 l0_3.length c0_3]) (t:=26) ?_; intro gb297 hg w18 hbox hb; have n0_:=Aside0.mk (below_step (bl0_ HB.out) hb); have n1_:=Aside0.mk (hbox); have n2_:=Aside0.mk ((bs0_ hg HB.out:w.heap.size ≤ gb297)); have n3_:=Aside0.mk ((bs0_ hg HB.out:w.heap.size ≤ gb297)); clear HB; have HB:=n0_; have BK297:=n1_; have GW297:=n2_; have GE297:=n3_; clear n0_ n1_ n2_ n3_; clear hb hbox hg; have hcz19_0:w18.cell? ⟨gb297,0,none⟩ = some (.int .i64 a0_0):=(blk_cell BK297.out 0).trans rfl; have hcz19_1:w18.cell? ⟨gb297,1,none⟩ = some (.int .i64 a0_1):=(blk_cell BK297.out 1).trans rfl; have hcz19_2:w18.cell? ⟨gb297,2,none⟩ = some (.slice A0_2 l0_2.length c0_2):=(blk_cell BK297.out 2).trans rfl; have hcz19_3:w18.cell? ⟨gb297,3,none⟩ = some (.slice A0_3 l0_3.length c0_3):=(blk_cell BK297.out 3).trans rfl; have hfz19_0:=blk_frozen BK297.out 0; have hfz19_1:=blk_frozen BK297.out 1; have hfz19_2:=blk_frozen BK297.out 2; have hfz19_3:=blk_frozen BK297.out 3) | (go_at_call 71; (with_reducible refine (spec_l1In.calls a2 0 (wrap64 (a0_0 - 1)) false _ A13.out).mono ?_); rintro e w' ⟨rfl,⟨nd,rfl⟩⟩; (try first | exact ⟨rfl,_,World.drewN_drewN _ _ _⟩ | exact ⟨rfl,_,Eq.trans (World.drewN_drewN _ _ _) (congrArg (World.drewN _) (Nat.add_assoc _ _ _))⟩))); try go_wp2_with (first | ((with_reducible refine gate_dst (N:=4) rfl ?_); refine boxE_ (N:=4) (cs:=#[.int .i64 a0_0,.int .i64 a0_1,.slice A0_2 l0_2.length c0_2,.slice A0_3 l0_3.length c0_3]) (t:=26) ?_; intro gb297 hg w18 hbox hb; have n0_:=Aside0.mk (below_step (bl0_ HB.out) hb); have n1_:=Aside0.mk (hbox); have n2_:=Aside0.mk ((bs0_ hg HB.out:w.heap.size ≤ gb297)); have n3_:=Aside0.mk ((bs0_ hg HB.out:w.heap.size ≤ gb297)); clear HB; have HB:=n0_; have BK297:=n1_; have GW297:=n2_; have GE297:=n3_; clear n0_ n1_ n2_ n3_; clear hb hbox hg; have hcz19_0:w18.cell? ⟨gb297,0,none⟩ = some (.int .i64 a0_0):=(blk_cell BK297.out 0).trans rfl; have hcz19_1:w18.cell? ⟨gb297,1,none⟩ = some (.int .i64 a0_1):=(blk_cell BK297.out 1).trans rfl; have hcz19_2:w18.cell? ⟨gb297,2,none⟩ = some (.slice A0_2 l0_2.length c0_2):=(blk_cell BK297.out 2).trans rfl; have hcz19_3:w18.cell? ⟨gb297,3,none⟩ = some (.slice A0_3 l0_3.length c0_3):=(blk_cell BK297.out 3).trans rfl; have hfz19_0:=blk_frozen BK297.out 0; have hfz19_1:=blk_frozen BK297.out 1; have hfz19_2:=blk_frozen BK297.out 2; have hfz19_3:=blk_frozen BK297.out 3) | (go_at_call 71; (with_reducible refine (spec_l1In.calls a2 0 (wrap64 (a0_0 - 1)) false _ A13.out).mono ?_); rintro e w' ⟨rfl,⟨nd,rfl⟩⟩; (try first | exact ⟨rfl,_,World.drewN_drewN _ _ _⟩ | exact ⟨rfl,_,Eq.trans (World.drewN_drewN _ _ _) (congrArg (World.drewN _) (Nat.add_assoc _ _ _))⟩))))
   go_ret2
   exact ⟨er_,bl1_ HB.out GE297.out⟩


def spec_fiHas.f (k:Nat) (a0_0:Int) (a0_1:Int) (l0_2:List Int) (l0_3:List Int) (a1:Bool) (a2:Int) (a3:Int):Option (Bool):=(spec_fiEdge.f a0_0 a0_1 l0_2 l0_3 a1 a2 a3).bind fun bt303 => (if a1 = true then ((spec_l1Has.f k l0_3 bt303.1).bind fun t305 => (some t305)) else ((spec_l1Has.f k l0_2 bt303.1).bind fun t306 => (some t306)))
theorem spec_fiHas.mono:∀ a0 a1 a2 a3 a4 a5 a6 k,LeO (spec_fiHas.f k a0 a1 a2 a3 a4 a5 a6) (spec_fiHas.f (k + 1) a0 a1 a2 a3 a4 a5 a6):=by
 intro a0 a1 a2 a3 a4 a5 a6 k
 unfold spec_fiHas.f
 repeat' first
   | (with_reducible exact spec_l1Has.mono _ _ _)
   | (with_reducible exact LeO.refl _)
   | (with_reducible exact LeO.none _)
   | (with_reducible refine LeO.ite ?_ ?_)
   | (with_reducible refine LeO.bind ?_ (fun _ => ?_))
   | exact spec_l1Has.mono _ _ _
   | exact LeO.none _
   | refine LeO.ite ?_ ?_
   | refine LeO.bind ?_ (fun _ => ?_)
set_option maxHeartbeats 8000000 in
set_option maxRecDepth 100000 in
theorem spec_fiHas.calls (k:Nat) (a0_0:Int) (a0_1:Int) (A0_2:Option Addr) (c0_2:Nat) (l0_2:List Int) (A0_3:Option Addr) (c0_3:Nat) (l0_3:List Int) (a1:Bool) (a2:Int) (a3:Int) (r:Bool) (w:World) (hr0_2:Kd.C (Kd.int .i64) w A0_2 l0_2.length l0_2) (hc0_2:l0_2.length ≤ c0_2) (hr0_3:Kd.C (Kd.int .i64) w A0_3 l0_3.length l0_3) (hc0_3:l0_3.length ≤ c0_3) (h:spec_fiHas.f k a0_0 a0_1 l0_2 l0_3 a1 a2 a3 = some r) :
  Calls Tryd.prog 52 #[.agg #[.int .i64 a0_0,.int .i64 a0_1,.slice A0_2 l0_2.length c0_2,.slice A0_3 l0_3.length c0_3],.bool a1,.int .i64 a2,.int .i64 a3] w fun e w' => e = .returned (.bool r) ∧ Below w.heap.size w w':=by
 have hu26:=Tryd.underlying26
 have HR0_2:=Aside0.mk hr0_2
 have HC0_2:=Aside0.mk hc0_2
 clear hr0_2 hc0_2
 have HR0_3:=Aside0.mk hr0_3
 have HC0_3:=Aside0.mk hc0_3
 clear hr0_3 hc0_3
 have HB:=Aside0.mk (Below.refl w.heap.size w)
 have H:((spec_fiEdge.f a0_0 a0_1 l0_2 l0_3 a1 a2 a3).bind fun bt303 => (if a1 = true then ((spec_l1Has.f k l0_3 bt303.1).bind fun t305 => (some t305)) else ((spec_l1Has.f k l0_2 bt303.1).bind fun t306 => (some t306)))) = some r:=h
 clear h
 replace H:=Option.bind_eq_some_iff.mp H
 obtain ⟨⟨t303,t304⟩,A50,H⟩:=H
 replace H:(if a1 = true then ((spec_l1Has.f k l0_3 t303).bind fun t305 => (some t305)) else ((spec_l1Has.f k l0_2 t303).bind fun t306 => (some t306))) = some r:=H
 have A5:=Aside0.mk A50
 clear A50
 by_cases c6:a1 = true
 ·subst c6
  have H1:((spec_l1Has.f k l0_3 t303).bind fun t305 => (some t305)) = some r:=by rw [if_pos rfl] at H; exact H
  clear H
  have H:=H1
  clear H1
  replace H:=Option.bind_eq_some_iff.mp H
  obtain ⟨t305,A70,H⟩:=H
  replace H:(some t305) = some r:=H
  have A7:=Aside0.mk A70
  clear A70
  obtain rfl:=Option.some.inj H
  go_enter Tryd.func52,Tryd.ntmps52
  go_wp2_with (first | ((with_reducible refine gate_dst (N:=4) rfl ?_); refine boxE_ (N:=4) (cs:=#[.int .i64 a0_0,.int .i64 a0_1,.slice A0_2 l0_2.length c0_2,.slice A0_3 l0_3.length c0_3]) (t:=26) ?_; intro gb302 hg w8 hbox hb; have n0_:=Aside0.mk (below_step (bl0_ HB.out) hb); have n1_:=Aside0.mk (hbox); have n2_:=Aside0.mk ((bs0_ hg HB.out:w.heap.size ≤ gb302)); have n3_:=Aside0.mk ((bs0_ hg HB.out:w.heap.size ≤ gb302)); clear HB; have HB:=n0_; have BK302:=n1_; have GW302:=n2_; have GE302:=n3_; clear n0_ n1_ n2_ n3_; clear hb hbox hg; have hcz9_0:w8.cell? ⟨gb302,0,none⟩ = some (.int .i64 a0_0):=(blk_cell BK302.out 0).trans rfl; have hcz9_1:w8.cell? ⟨gb302,1,none⟩ = some (.int .i64 a0_1):=(blk_cell BK302.out 1).trans rfl; have hcz9_2:w8.cell? ⟨gb302,2,none⟩ = some (.slice A0_2 l0_2.length c0_2):=(blk_cell BK302.out 2).trans rfl; have hcz9_3:w8.cell? ⟨gb302,3,none⟩ = some (.slice A0_3 l0_3.length c0_3):=(blk_cell BK302.out 3).trans rfl; have hfz9_0:=blk_frozen BK302.out 0; have hfz9_1:=blk_frozen BK302.out 1; have hfz9_2:=blk_frozen BK302.out 2; have hfz9_3:=blk_frozen BK302.out 3) | ((with_reducible refine gate_callee (f:=73) rfl ?_); refine goesL_ (some 16) rfl rfl Tryd.func73 (by kernel_rfl) rfl #[.agg #[.int .i64 a0_0,.int .i64 a0_1,.slice A0_2 l0_2.length c0_2,.slice A0_3 l0_3.length c0_3],.bool true,.int .i64 a2,.int .i64 a3] rfl ob_ ?_; (with_reducible refine (spec_fiEdge.calls a0_0 a0_1 _ _ l0_2 _ _ l0_3 true a2 a3 t303 t304 _ ?side1 ?side2 ?side3 ?side4 A5.out).mono ?_); (case side1 => exact kc_ (Kd.C_below HR0_2.out HB.out)); (case side2 => exact HC0_2.out); (case side3 => exact kc_ (Kd.C_below HR0_3.out HB.out)); (case side4 => exact HC0_3.out); rintro e w10 ⟨rfl,hb⟩; refine ⟨_,rfl,?_⟩; have n0_:=Aside0.mk (bb_ BK302.out hb); have n1_:=Aside0.mk (below_step (bl1_ HB.out GE302.out) hb); clear BK302; clear HB; have BK302:=n0_; have HB:=n1_; clear n0_ n1_; (try clear hb); (try clear hb2); (try clear hk); (try clear hi); have hcz11_0:w10.cell? ⟨gb302,0,none⟩ = some (.int .i64 a0_0):=(blk_cell BK302.out 0).trans rfl; have hcz11_1:w10.cell? ⟨gb302,1,none⟩ = some (.int .i64 a0_1):=(blk_cell BK302.out 1).trans rfl; have hcz11_2:w10.cell? ⟨gb302,2,none⟩ = some (.slice A0_2 l0_2.length c0_2):=(blk_cell BK302.out 2).trans rfl; have hcz11_3:w10.cell? ⟨gb302,3,none⟩ = some (.slice A0_3 l0_3.length c0_3):=(blk_cell BK302.out 3).trans rfl; have hfz11_0:=blk_frozen BK302.out 0; have hfz11_1:=blk_frozen BK302.out 1; have hfz11_2:=blk_frozen BK302.out 2; have hfz11_3:=blk_frozen BK302.out 3) | ((with_reducible refine gate_callee (f:=82) rfl ?_); refine goesL_ (some 23) rfl rfl Tryd.func82 (by kernel_rfl) rfl #[.slice A0_3 l0_3.length c0_3,.int .i64 t303] rfl ob_ ?_; (with_reducible refine (spec_l1Has.calls k _ _ l0_3 t303 t305 _ ?side1 ?side2 A7.out).mono ?_); (case side1 => exact kc_ (Kd.C_below HR0_3.out HB.out)); (case side2 => exact HC0_3.out); rintro e w' ⟨rfl,⟨nd,rfl⟩⟩; refine ⟨_,rfl,?_⟩))
  go_ret
  exact ⟨er_,bl1_ HB.out GE302.out⟩
 ·replace c6:=Bool.eq_false_iff.mpr c6
  subst c6
  have H1:((spec_l1Has.f k l0_2 t303).bind fun t306 => (some t306)) = some r:=by rw [if_neg (show ¬ (false = true) by decide)] at H; exact H
  clear H
  have H:=H1
  clear H1
  replace H:=Option.bind_eq_some_iff.mp H
  obtain ⟨t306,A120,H⟩:=H
  replace H:(some t306) = some r:=H
  have A12:=Aside0.mk A120
  clear A120
  obtain rfl:=Option.some.inj H
  go_enter Tryd.func52,Tryd.ntmps52
  go_wp2_with (first | ((with_reducible refine gate_dst (N:=4) rfl ?_); refine boxE_ (N:=4) (cs:=#[.int .i64 a0_0,.int .i64 a0_1,.slice A0_2 l0_2.length c0_2,.slice A0_3 l0_3.length c0_3]) (t:=26) ?_; intro gb302 hg w13 hbox hb; have n0_:=Aside0.mk (below_step (bl0_ HB.out) hb); have n1_:=Aside0.mk (hbox); have n2_:=Aside0.mk ((bs0_ hg HB.out:w.heap.size ≤ gb302)); have n3_:=Aside0.mk ((bs0_ hg HB.out:w.heap.size ≤ gb302)); clear HB; have HB:=n0_; have BK302:=n1_; have GW302:=n2_; have GE302:=n3_; clear n0_ n1_ n2_ n3_; clear hb hbox hg; have hcz14_0:w13.cell? ⟨gb302,0,none⟩ = some (.int .i64 a0_0):=(blk_cell BK302.out 0).trans rfl; have hcz14_1:w13.cell? ⟨gb302,1,none⟩ = some (.int .i64 a0_1):=(blk_cell BK302.out 1).trans rfl; have hcz14_2:w13.cell? ⟨gb302,2,none⟩ = some (.slice A0_2 l0_2.length c0_2):=(blk_cell BK302.out 2).trans rfl; have hcz14_3:w13.cell? ⟨gb302,3,none⟩ = some (.slice A0_3 l0_3.length c0_3):=(blk_cell BK302.out 3).trans rfl; have hfz14_0:=blk_frozen BK302.out 0; have hfz14_1:=blk_frozen BK302.out 1; have hfz14_2:=blk_frozen BK302.out 2; have hfz14_3:=blk_frozen BK302.out 3) | ((with_reducible refine gate_callee (f:=73) rfl ?_); refine goesL_ (some 16) rfl rfl Tryd.func73 (by kernel_rfl) rfl #[.agg #[.int .i64 a0_0,.int .i64 a0_1,.slice A0_2 l0_2.length c0_2,.slice A0_3 l0_3.length c0_3],.bool false,.int .i64 a2,.int .i64 a3] rfl ob_ ?_; (with_reducible refine (spec_fiEdge.calls a0_0 a0_1 _ _ l0_2 _ _ l0_3 false a2 a3 t303 t304 _ ?side1 ?side2 ?side3 ?side4 A5.out).mono ?_); (case side1 => exact kc_ (Kd.C_below HR0_2.out HB.out)); (case side2 => exact HC0_2.out); (case side3 => exact kc_ (Kd.C_below HR0_3.out HB.out)); (case side4 => exact HC0_3.out); rintro e w15 ⟨rfl,hb⟩; refine ⟨_,rfl,?_⟩; have n0_:=Aside0.mk (bb_ BK302.out hb); have n1_:=Aside0.mk (below_step (bl1_ HB.out GE302.out) hb); clear BK302; clear HB; have BK302:=n0_; have HB:=n1_; clear n0_ n1_; (try clear hb); (try clear hb2); (try clear hk); (try clear hi); have hcz16_0:w15.cell? ⟨gb302,0,none⟩ = some (.int .i64 a0_0):=(blk_cell BK302.out 0).trans rfl; have hcz16_1:w15.cell? ⟨gb302,1,none⟩ = some (.int .i64 a0_1):=(blk_cell BK302.out 1).trans rfl; have hcz16_2:w15.cell? ⟨gb302,2,none⟩ = some (.slice A0_2 l0_2.length c0_2):=(blk_cell BK302.out 2).trans rfl; have hcz16_3:w15.cell? ⟨gb302,3,none⟩ = some (.slice A0_3 l0_3.length c0_3):=(blk_cell BK302.out 3).trans rfl; have hfz16_0:=blk_frozen BK302.out 0; have hfz16_1:=blk_frozen BK302.out 1; have hfz16_2:=blk_frozen BK302.out 2; have hfz16_3:=blk_frozen BK302.out 3) | ((with_reducible refine gate_callee (f:=82) rfl ?_); refine goesL_ (some 27) rfl rfl Tryd.func82 (by kernel_rfl) rfl #[.slice A0_2 l0_2.length c0_2,.int .i64 t303] rfl ob_ ?_; (with_reducible refine (spec_l1Has.calls k _ _ l0_2 t303 t306 _ ?side1 ?side2 A12.out).mono ?_); (case side1 => exact kc_ (Kd.C_below HR0_2.out HB.out)); (case side2 => exact HC0_2.out); rintro e w' ⟨rfl,⟨nd,rfl⟩⟩; refine ⟨_,rfl,?_⟩))
  go_ret
  exact ⟨er_,bl1_ HB.out GE302.out⟩


def spec_l1Own.f (l0:List Int):Option (List Int):=(some (([]:List Int):List Int)).bind fun y307 => (if y307.length + l0.length < 17592186044416 then (some (y307 ++ l0)) else (none))
set_option maxHeartbeats 8000000 in
set_option maxRecDepth 100000 in
theorem spec_l1Own.calls (A0:Option Addr) (c0:Nat) (l0:List Int) (r:List Int) (w:World) (hr0:Kd.C (Kd.int .i64) w A0 l0.length l0) (hc0:l0.length ≤ c0) (h:spec_l1Own.f l0 = some r) :
    Calls Tryd.prog 98 #[.slice A0 l0.length c0] w fun e w' => ∃ v0_:Value,e = .returned (v0_) ∧ Kd.R (Kd.int .i64) 3 w' w.heap.size (fun _ => True) v0_ r ∧ Below w.heap.size w w':=by
  have HR0:=Aside0.mk hr0
  have HC0:=Aside0.mk hc0
  clear hr0 hc0
  have HB:=Aside0.mk (Below.refl w.heap.size w)
  have H:((some (([]:List Int):List Int)).bind fun y307 => (if y307.length + l0.length < 17592186044416 then (some (y307 ++ l0)) else (none))) = some r:=h
  clear h
  obtain ⟨y307,hy307⟩:∃ y_:List Int,y_ = (([]:List Int)):=⟨_,rfl⟩
  replace H:(if y307.length + l0.length < 17592186044416 then (some (y307 ++ l0)) else (none)) = some r:=by first | (rw [hy307]; with_reducible exact H) | (have H2_:=(Option.bind_some _ _).symm.trans H; rw [hy307]; with_reducible exact H2_) | (have H2_:=(Option.bind_some _ _).symm.trans H; with_reducible exact H2_) | with_reducible exact H | (rw [hy307]; exact H) | exact H
  have Ny307:=Aside0.mk hy307
  clear hy307
  by_cases c2:y307.length + l0.length < 17592186044416
  · rw [if_pos c2] at H
    have LMc2:=Aside0.mk c2
    clear c2
    obtain ⟨y310,hy310⟩:∃ y_:List Int,y_ = (y307 ++ l0):=⟨_,rfl⟩
    replace H:(some y310) = some r:=by first | (rw [hy310]; with_reducible exact H) | (have H2_:=(Option.bind_some _ _).symm.trans H; rw [hy310]; with_reducible exact H2_) | (have H2_:=(Option.bind_some _ _).symm.trans H; with_reducible exact H2_) | with_reducible exact H | (rw [hy310]; exact H) | exact H
    have Ny310:=Aside0.mk hy310
    clear hy310
    obtain rfl:=Option.some.inj H
    go_enter Tryd.func98,Tryd.ntmps98
    go_wp2_with (first | ((with_reducible refine gate_dst (N:=3) rfl ?_); refine Kd.R_lit (Kd.int .i64) _ 3 ?hg (N:=3) ?hd (xs:=([]:List Int)) (inner:=[]) (ok:=fun _ => True) (okp:=fun _ => True) ?hr ?hp (fun _ hk => hk) trivial (Below.refl _ _) (Nat.le_refl _) (by simp) ?_; (case hd => rfl); (case hg => rfl); (case hr => first | (go_simp; done) | (go_simp; rfl)); (case hp => exact (Reps.none _ _)); intro v308 w3 ho4 hb hg_ hnew_; clear hg_ hnew_; (first | rw [← Ny307.out] at ho4 | (simp only [Int.reduceToNat] at ho4; rw [← Ny307.out] at ho4)); have n0_:=Aside0.mk (Kd.R_lower ho4 (below_size (bl0_ HB.out))); have n1_:=Aside0.mk (below_step (bl0_ HB.out) hb); clear HB; have HO309:=n0_; have HB:=n1_; clear n0_ n1_; clear hb ho4) | ((with_reducible refine gate_builtin (b:=.append) (xs:=#[.tmp 3,.tmp 4]) rfl ?_); at_builtin; refine Kd.R_append_rows (Kd.int .i64) (w0:=w) w.heap.size rfl (.tmp 3) (.tmp 4) 22 3 (.int .i64 0) 8 rfl Tryd.underlying22 info3 rfl (by decide) (by omega) v308 y307 l0 _ _ _ (fun _ => True) (fun _ => False) rfl rfl ?aO ?aR (fun _ _ h => h) (fun _ h => h.elim) ?aF ?aB ?aS ?aL ?_; (case aR => exact kc_ (Kd.C_below HR0.out HB.out)); (case aB => exact (bl0_ HB.out)); (case aF => exact (fun _ _ => trivial)); (case aO => exact (kr_ HO309.out)); (case aS => exact (below_size (bl0_ HB.out))); (case aL => have:=LMc2.out; omega); intro v311 w5 ho hb hg hat; rw [← Ny310.out] at ho; have n0_:=Aside0.mk (hb); have n1_:=Aside0.mk (ho); clear HB; clear HO309; have HB:=n0_; have HO312:=n1_; clear n0_ n1_; clear ho hb hg hat))
    go_ret
    exact ⟨_,er_,by (with_reducible repeat (first | apply Kd.R_alloc | apply Kd.R_drewN | apply Kd.R_drew)); exact HO312.out,bl0_ HB.out⟩
  · rw [if_neg c2] at H
    exact absurd H (by simp)


def spec_fiOwn.f (a0_0:Int) (a0_1:Int) (l0_2:List Int) (l0_3:List Int):Option (Int × Int × List Int × List Int):=(spec_l1Own.f l0_2).bind fun t315 => ((spec_l1Own.f l0_3).bind fun t318 => (some (a0_0,a0_1,t315,t318)))
set_option maxHeartbeats 8000000 in
set_option maxRecDepth 100000 in
theorem spec_fiOwn.calls (a0_0:Int) (a0_1:Int) (A0_2:Option Addr) (c0_2:Nat) (l0_2:List Int) (A0_3:Option Addr) (c0_3:Nat) (l0_3:List Int) (r1:Int) (r2:Int) (r3:List Int) (r4:List Int) (w:World) (hr0_2:Kd.C (Kd.int .i64) w A0_2 l0_2.length l0_2) (hc0_2:l0_2.length ≤ c0_2) (hr0_3:Kd.C (Kd.int .i64) w A0_3 l0_3.length l0_3) (hc0_3:l0_3.length ≤ c0_3) (h:spec_fiOwn.f a0_0 a0_1 l0_2 l0_3 = some (r1,r2,r3,r4)) :
  Calls Tryd.prog 72 #[.agg #[.int .i64 a0_0,.int .i64 a0_1,.slice A0_2 l0_2.length c0_2,.slice A0_3 l0_3.length c0_3]] w fun e w' => ∃ v2_ v3_:Value,e = .returned (.agg #[.int .i64 r1,.int .i64 r2,v2_,v3_]) ∧ Kd.R (Kd.int .i64) 3 w' w.heap.size (fun k_ => some k_ ≠ (v3_:Value).ownBlock) v2_ r3 ∧ Kd.R (Kd.int .i64) 3 w' w.heap.size (fun k_ => some k_ ≠ (v2_:Value).ownBlock) v3_ r4 ∧ Below w.heap.size w w':=by
 have hu26:=Tryd.underlying26
 have HR0_2:=Aside0.mk hr0_2
 have HC0_2:=Aside0.mk hc0_2
 clear hr0_2 hc0_2
 have HR0_3:=Aside0.mk hr0_3
 have HC0_3:=Aside0.mk hc0_3
 clear hr0_3 hc0_3
 have HB:=Aside0.mk (Below.refl w.heap.size w)
 have H:((spec_l1Own.f l0_2).bind fun t315 => ((spec_l1Own.f l0_3).bind fun t318 => (some (a0_0,a0_1,t315,t318)))) = some (r1,r2,r3,r4):=h
 clear h
 replace H:=Option.bind_eq_some_iff.mp H
 obtain ⟨t315,A20,H⟩:=H
 replace H:((spec_l1Own.f l0_3).bind fun t318 => (some (a0_0,a0_1,t315,t318))) = some (r1,r2,r3,r4):=H
 have A2:=Aside0.mk A20
 clear A20
 replace H:=Option.bind_eq_some_iff.mp H
 obtain ⟨t318,A30,H⟩:=H
 replace H:(some (a0_0,a0_1,t315,t318)) = some (r1,r2,r3,r4):=H
 have A3:=Aside0.mk A30
 clear A30
 simp only [Option.some.injEq,Prod.mk.injEq] at H
 obtain ⟨rfl,rfl,rfl,rfl⟩:=H
 go_enter Tryd.func72,Tryd.ntmps72
 go_wp2_with (first | ((with_reducible refine gate_dst (N:=1) rfl ?_); refine boxE_ (N:=1) (cs:=#[.int .i64 a0_0,.int .i64 a0_1,.slice A0_2 l0_2.length c0_2,.slice A0_3 l0_3.length c0_3]) (t:=26) ?_; intro gb313 hg w4 hbox hb; have n0_:=Aside0.mk (below_step (bl0_ HB.out) hb); have n1_:=Aside0.mk (hbox); have n2_:=Aside0.mk ((bs0_ hg HB.out:w.heap.size ≤ gb313)); have n3_:=Aside0.mk ((bs0_ hg HB.out:w.heap.size ≤ gb313)); clear HB; have HB:=n0_; have BK313:=n1_; have GW313:=n2_; have GE313:=n3_; clear n0_ n1_ n2_ n3_; clear hb hbox hg) | ((with_reducible refine gate_dst (N:=2) rfl ?_); refine boxE_ (N:=2) (cs:=#[.int .i64 0,.int .i64 0,.slice none 0 0,.slice none 0 0]) (t:=26) ?_; intro gb314 hg w5 hbox hb; have n0_:=Aside0.mk (bb_ BK313.out hb); have n1_:=Aside0.mk (below_step (bl1_ HB.out GE313.out) hb); have n2_:=Aside0.mk (hbox); have n3_:=Aside0.mk ((bs1_ hg HB.out GE313.out:w.heap.size ≤ gb314)); have n4_:=Aside0.mk ((bs1_ hg HB.out GE313.out:w.heap.size ≤ gb314)); have n5_:=Aside0.mk ((nl_ hg BK313.out:gb313 ≠ gb314)); have n6_:=Aside0.mk ((ng_ hg BK313.out:gb314 ≠ gb313)); clear BK313; clear HB; have BK313:=n0_; have HB:=n1_; have BK314:=n2_; have GW314:=n3_; have GE314:=n4_; have NB313_314:=n5_; have NB314_313:=n6_; clear n0_ n1_ n2_ n3_ n4_ n5_ n6_; clear hb hbox hg; have hnb6:=NB313_314.out; have hnc6:=NB314_313.out; have hcz7_0:w5.cell? ⟨gb313,0,none⟩ = some (.int .i64 a0_0):=(blk_cell BK313.out 0).trans rfl; have hcz7_1:w5.cell? ⟨gb313,1,none⟩ = some (.int .i64 a0_1):=(blk_cell BK313.out 1).trans rfl; have hcz7_2:w5.cell? ⟨gb313,2,none⟩ = some (.slice A0_2 l0_2.length c0_2):=(blk_cell BK313.out 2).trans rfl; have hcz7_3:w5.cell? ⟨gb313,3,none⟩ = some (.slice A0_3 l0_3.length c0_3):=(blk_cell BK313.out 3).trans rfl; have hfz7_0:=blk_frozen BK313.out 0; have hfz7_1:=blk_frozen BK313.out 1; have hfz7_2:=blk_frozen BK313.out 2; have hfz7_3:=blk_frozen BK313.out 3) | ((with_reducible refine gate_callee (f:=98) rfl ?_); refine goesL_ (some 5) rfl rfl Tryd.func98 (by kernel_rfl) rfl #[.slice A0_2 l0_2.length c0_2] rfl ob_ ?_; (with_reducible refine (spec_l1Own.calls _ _ l0_2 t315 _ ?side1 ?side2 A2.out).mono ?_); (case side1 => exact kc_ (Kd.C_below HR0_2.out HB.out)); (case side2 => exact HC0_2.out); rintro e w8 ⟨v316,rfl,ho0,hb⟩; refine ⟨_,rfl,?_⟩; have n0_:=Aside0.mk (Kd.R_lower ho0 (below_size (bl2_ HB.out GE313.out GE314.out))); have n1_:=Aside0.mk (bb_ BK313.out hb); have n2_:=Aside0.mk (bb_ BK314.out hb); have n3_:=Aside0.mk (below_step (bl2_ HB.out GE313.out GE314.out) hb); clear BK313; clear BK314; clear HB; have HO317:=n0_; have BK313:=n1_; have BK314:=n2_; have HB:=n3_; clear n0_ n1_ n2_ n3_; (try clear hb); (try clear hb2); (try clear hk); (try clear hi); (try clear ho0); obtain ⟨Ao9,co9,eo9⟩:=Kd.R_slice HO317.out; subst eo9; have hcz10_0:w8.cell? ⟨gb313,0,none⟩ = some (.int .i64 a0_0):=(blk_cell BK313.out 0).trans rfl; have hcz10_1:w8.cell? ⟨gb313,1,none⟩ = some (.int .i64 a0_1):=(blk_cell BK313.out 1).trans rfl; have hcz10_2:w8.cell? ⟨gb313,2,none⟩ = some (.slice A0_2 l0_2.length c0_2):=(blk_cell BK313.out 2).trans rfl; have hcz10_3:w8.cell? ⟨gb313,3,none⟩ = some (.slice A0_3 l0_3.length c0_3):=(blk_cell BK313.out 3).trans rfl; have hfz10_0:=blk_frozen BK313.out 0; have hfz10_1:=blk_frozen BK313.out 1; have hfz10_2:=blk_frozen BK313.out 2; have hfz10_3:=blk_frozen BK313.out 3) | ((with_reducible refine gate_callee (f:=98) rfl ?_); refine goesL_ (some 9) rfl rfl Tryd.func98 (by kernel_rfl) rfl #[.slice A0_3 l0_3.length c0_3] rfl ob_ ?_; (with_reducible refine (spec_l1Own.calls _ _ l0_3 t318 _ ?side1 ?side2 A3.out).mono ?_); (case side1 => exact Kd.C_below HR0_3.out (bl2_ HB.out GE313.out GE314.out)); (case side2 => exact HC0_3.out); rintro e w11 ⟨v319,rfl,ho0,hb⟩; refine ⟨_,rfl,?_⟩; have n0_:=Aside0.mk (Kd.R_elder' (by (with_reducible repeat (first | apply Kd.R_alloc | apply Kd.R_drewN | apply Kd.R_drew)); exact (Kd.R_mono (Kd.R_far (p:=⟨gb313,2,none⟩) (Kd.R_types HO317.out BK313.out (by decide)) (fun _ hk => hk.2) (.slice Ao9 t315.length co9)) (fun _ h_ => h_.1))) (Kd.R_base ho0) hb); have n1_:=Aside0.mk (Kd.R_lower (Kd.R_new' ho0 (Kd.R_lt (by (with_reducible repeat (first | apply Kd.R_alloc | apply Kd.R_drewN | apply Kd.R_drew)); exact (Kd.R_mono (Kd.R_far (p:=⟨gb313,2,none⟩) (Kd.R_types HO317.out BK313.out (by decide)) (fun _ hk => hk.2) (.slice Ao9 t315.length co9)) (fun _ h_ => h_.1))))) (below_size (bl2_ HB.out GE313.out GE314.out))); have n2_:=Aside0.mk (blk_below (g:=gb313) (o:=.cells #[.int .i64 a0_0,.int .i64 a0_1,.slice Ao9 t315.length co9,.slice A0_3 l0_3.length c0_3] 26 (0,0)) (by (with_reducible repeat (first | refine blk_drewN ?_ _ | refine blk_drew ?_ | refine blk_alloc ?_ _)); refine blk_put (cs:=#[.int .i64 a0_0,.int .i64 a0_1,.slice A0_2 l0_2.length c0_2,.slice A0_3 l0_3.length c0_3]) ?_ 2 _ rfl; (with_reducible repeat (first | refine blk_drewN ?_ _ | refine blk_drew ?_ | refine blk_alloc ?_ _)); exact BK313.out) hb); have n3_:=Aside0.mk (blk_below (g:=gb314) (o:=.cells #[.int .i64 0,.int .i64 0,.slice none 0 0,.slice none 0 0] 26 (0,0)) (bf1_ NB314_313.out BK314.out) hb); have n4_:=Aside0.mk (below_step (bl2_ HB.out GE313.out GE314.out) hb); clear HO317; clear BK313; clear BK314; clear HB; have HO317:=n0_; have HO320:=n1_; have BK313:=n2_; have BK314:=n3_; have HB:=n4_; clear n0_ n1_ n2_ n3_ n4_; (try clear hb); (try clear hb2); (try clear hk); (try clear hi); (try clear ho0); obtain ⟨Ao12,co12,eo12⟩:=Kd.R_slice HO320.out; subst eo12; have hcz13_0:w11.cell? ⟨gb313,0,none⟩ = some (.int .i64 a0_0):=(blk_cell BK313.out 0).trans rfl; have hcz13_1:w11.cell? ⟨gb313,1,none⟩ = some (.int .i64 a0_1):=(blk_cell BK313.out 1).trans rfl; have hcz13_2:w11.cell? ⟨gb313,2,none⟩ = some (.slice Ao9 t315.length co9):=(blk_cell BK313.out 2).trans rfl; have hcz13_3:w11.cell? ⟨gb313,3,none⟩ = some (.slice A0_3 l0_3.length c0_3):=(blk_cell BK313.out 3).trans rfl; have hfz13_0:=blk_frozen BK313.out 0; have hfz13_1:=blk_frozen BK313.out 1; have hfz13_2:=blk_frozen BK313.out 2; have hfz13_3:=blk_frozen BK313.out 3; have hcz14_0:w11.cell? ⟨gb314,0,none⟩ = some (.int .i64 0):=(blk_cell BK314.out 0).trans rfl; have hcz14_1:w11.cell? ⟨gb314,1,none⟩ = some (.int .i64 0):=(blk_cell BK314.out 1).trans rfl; have hcz14_2:w11.cell? ⟨gb314,2,none⟩ = some (.slice none 0 0):=(blk_cell BK314.out 2).trans rfl; have hcz14_3:w11.cell? ⟨gb314,3,none⟩ = some (.slice none 0 0):=(blk_cell BK314.out 3).trans rfl; have hfz14_0:=blk_frozen BK314.out 0; have hfz14_1:=blk_frozen BK314.out 1; have hfz14_2:=blk_frozen BK314.out 2; have hfz14_3:=blk_frozen BK314.out 3))
 refine bodyPost_ret (results_cell_row rfl _ _ gb314 26 #[.int .i64 a0_0,.int .i64 a0_1,.slice Ao9 t315.length co9,.slice Ao12 t318.length co12] (0,0) _ rfl (by (with_reducible repeat (first | refine blk_drewN ?_ _ | refine blk_drew ?_ | refine blk_alloc ?_ _)); refine blk_put (cs:=#[.int .i64 a0_0,.int .i64 a0_1,.slice Ao9 t315.length co9,.slice none 0 0]) ?_ 3 _ rfl; (with_reducible repeat (first | refine blk_drewN ?_ _ | refine blk_drew ?_ | refine blk_alloc ?_ _)); refine blk_put (cs:=#[.int .i64 a0_0,.int .i64 a0_1,.slice none 0 0,.slice none 0 0]) ?_ 2 _ rfl; (with_reducible repeat (first | refine blk_drewN ?_ _ | refine blk_drew ?_ | refine blk_alloc ?_ _)); refine blk_put (cs:=#[.int .i64 a0_0,.int .i64 0,.slice none 0 0,.slice none 0 0]) ?_ 1 _ rfl; (with_reducible repeat (first | refine blk_drewN ?_ _ | refine blk_drew ?_ | refine blk_alloc ?_ _)); refine blk_put (cs:=#[.int .i64 0,.int .i64 0,.slice none 0 0,.slice none 0 0]) ?_ 0 _ rfl; (with_reducible repeat (first | refine blk_drewN ?_ _ | refine blk_drew ?_ | refine blk_alloc ?_ _)); refine blk_far ?_ NB314_313.out _; (with_reducible repeat (first | refine blk_drewN ?_ _ | refine blk_drew ?_ | refine blk_alloc ?_ _)); exact BK314.out) Tryd.underlying26 rfl (by kernel_rfl)) rfl ?_
 exact ⟨_,_,er_,by (with_reducible repeat (first | apply Kd.R_alloc | apply Kd.R_drewN | apply Kd.R_drew)); exact Kd.R_mono (Kd.R_far (p:=⟨gb314,3,none⟩) (Kd.R_far (p:=⟨gb314,2,none⟩) (Kd.R_far (p:=⟨gb314,1,none⟩) (Kd.R_far (p:=⟨gb314,0,none⟩) (Kd.R_far (p:=⟨gb313,3,none⟩) (Kd.R_types (Kd.R_types HO317.out BK313.out (by decide)) BK314.out (by decide)) (fun _ hk => hk.1.2) (.slice Ao12 t318.length co12)) (fun _ hk => hk.2) (.int .i64 a0_0)) (fun _ hk => hk.2) (.int .i64 a0_1)) (fun _ hk => hk.2) (.slice Ao9 t315.length co9)) (fun _ hk => hk.2) (.slice Ao12 t318.length co12)) (fun _ hk => hk.1.1.2),by (with_reducible repeat (first | apply Kd.R_alloc | apply Kd.R_drewN | apply Kd.R_drew)); exact Kd.R_mono (Kd.R_far (p:=⟨gb314,3,none⟩) (Kd.R_far (p:=⟨gb314,2,none⟩) (Kd.R_far (p:=⟨gb314,1,none⟩) (Kd.R_far (p:=⟨gb314,0,none⟩) (Kd.R_far (p:=⟨gb313,3,none⟩) (Kd.R_types (Kd.R_types HO320.out BK313.out (by decide)) BK314.out (by decide)) (fun _ hk => hk.1.2) (.slice Ao12 t318.length co12)) (fun _ hk => hk.2) (.int .i64 a0_0)) (fun _ hk => hk.2) (.int .i64 a0_1)) (fun _ hk => hk.2) (.slice Ao9 t315.length co9)) (fun _ hk => hk.2) (.slice Ao12 t318.length co12)) (fun _ hk => hk.1.1.2),bl2_ HB.out GE313.out GE314.out⟩


def spec_l1Put.l0:Nat → List Int → Int → Int → Option (List Int)
 | 0,_,_,_ => none
 | k + 1,x0,x1,x5 => if x5 < (x0.length:Int) then (if 0 ≤ x5 then (if (rd x0 x5) < x1 then (spec_l1Put.l0 k x0 x1 (wrap64 (x5 + 1))) else (if (rd x0 x5) = x1 then (some x0) else ((some (([]:List Int):List Int)).bind fun y323 => (if x5 ≤ (x0.length:Int) then ((some (x0.take (x5:Int).toNat:List Int)).bind fun y326 => (if y323.length + y326.length < 17592186044416 then ((some (y323 ++ y326:List Int)).bind fun y330 => (if y330.length < 17592186044416 then ((some (y330 ++ [x1]:List Int)).bind fun y333 => ((some (x0.drop (x5:Int).toNat:List Int)).bind fun y336 => (if y333.length + y336.length < 17592186044416 then (some (y333 ++ y336)) else (none)))) else (none))) else (none))) else (none))))) else (none)) else ((some (([]:List Int):List Int)).bind fun y343 => (if 0 ≤ x5 then (if x5 ≤ (x0.length:Int) then ((some (x0.take (x5:Int).toNat:List Int)).bind fun y346 => (if y343.length + y346.length < 17592186044416 then ((some (y343 ++ y346:List Int)).bind fun y350 => (if y350.length < 17592186044416 then ((some (y350 ++ [x1]:List Int)).bind fun y353 => ((some (x0.drop (x5:Int).toNat:List Int)).bind fun y356 => (if y353.length + y356.length < 17592186044416 then (some (y353 ++ y356)) else (none)))) else (none))) else (none))) else (none)) else (none)))
def spec_l1Put.f (k:Nat) (l0:List Int) (a1:Int):Option (List Int):=spec_l1Put.l0 k l0 a1 0
theorem spec_l1Put.mono_l:∀ k,(∀ y0 y1 y2,LeO (spec_l1Put.l0 k y0 y1 y2) (spec_l1Put.l0 (k + 1) y0 y1 y2))
 | 0 => fun _ _ _ r h => by simp [spec_l1Put.l0] at h
 | k + 1 => by
  have ih0:=spec_l1Put.mono_l k
  ·intro y0 y1 y2
   unfold spec_l1Put.l0
   repeat' first
   | (with_reducible exact ih0 _ _ _)
   | (with_reducible exact LeO.refl _)
   | (with_reducible exact LeO.none _)
   | (with_reducible refine LeO.ite ?_ ?_)
   | (with_reducible refine LeO.bind ?_ (fun _ => ?_))
   | exact ih0 _ _ _
   | exact LeO.none _
   | refine LeO.ite ?_ ?_
   | refine LeO.bind ?_ (fun _ => ?_)
theorem spec_l1Put.mono:∀ a0 a1 k,LeO (spec_l1Put.f k a0 a1) (spec_l1Put.f (k + 1) a0 a1):=by
 intro a0 a1 k
 have ih0:=spec_l1Put.mono_l k
 unfold spec_l1Put.f
 repeat' first
   | (with_reducible exact ih0 _ _ _)
   | (with_reducible exact LeO.refl _)
   | (with_reducible exact LeO.none _)
   | (with_reducible refine LeO.ite ?_ ?_)
   | (with_reducible refine LeO.bind ?_ (fun _ => ?_))
   | exact ih0 _ _ _
   | exact LeO.none _
   | refine LeO.ite ?_ ?_
   | refine LeO.bind ?_ (fun _ => ?_)
set_option maxHeartbeats 8000000 in
set_option maxRecDepth 100000 in
theorem spec_l1Put.calls (k:Nat) (P0_:Nat → Prop) (u9000_:Value) (l0:List Int) (a1:Int) (r:List Int) (w0 w:World) (hB:Below w0.heap.size w0 w) (ho0:Kd.R (Kd.int .i64) 3 w w0.heap.size P0_ u9000_ l0) (h:spec_l1Put.f k l0 a1 = some r) :
  Calls Tryd.prog 74 #[u9000_,.int .i64 a1] w fun e w' => ∃ v0_:Value,e = .returned (v0_) ∧ Kd.R (Kd.int .i64) 3 w' w0.heap.size (fun k_ => (P0_ k_ ∨ w.heap.size ≤ k_)) v0_ r ∧ Below w0.heap.size w0 w' ∧ Kept w w' (fun k_ => P0_ k_):=by
 have HO0:=Aside0.mk (show Kd.R (Kd.int .i64) 3 w w0.heap.size (fun k_ => (P0_ k_ ∨ w.heap.size ≤ k_)) u9000_ l0 from Kd.R_mono ho0 (fun k_ hk => (.inl hk)))
 have HK:=Aside0.mk (Kept.refl w (fun k_ => P0_ k_))
 have HW0:=Aside0.mk hB.size
 have HB:=Aside0.mk hB
 clear hB
 have H:(spec_l1Put.l0 k l0 a1 0) = some r:=h
 clear h
 have H':=Aside0.mk H
 clear H
 go_enter Tryd.func74,Tryd.ntmps74
 go_wp2
 go_loopg [5] k (fun kq v5 w' => ∃ (x5_1:Int),v5 = .int .i64 x5_1 ∧ Aside0 (spec_l1Put.l0 kq l0 a1 x5_1 = some r) ∧ Aside0 (kq ≤ k) ∧ Aside0 (Kd.R (Kd.int .i64) 3 w' w0.heap.size (fun k_ => (P0_ k_ ∨ w.heap.size ≤ k_)) u9000_ l0) ∧ Aside0 (Kept w w' (fun k_ => P0_ k_)) ∧ Aside0 (Below w0.heap.size w0 w'))
 case atStart => exact ⟨(0),rs_,H',⟨Nat.le_refl _⟩,⟨kr_ HO0.out⟩,⟨by repeat (first | (with_reducible first | exact HK.out | apply Kept.alloc | apply Kept.drewN | apply Kept.drew) | exact HK.out)⟩,⟨bl0_ HB.out⟩⟩
 case round =>
  clear H'
  try clear p2
  obtain ⟨x5_1,rfl,HA,HK1,HO_0,HK,HB⟩:=hrel
  cases gk with
  | zero => exact absurd HA.out (by simp [spec_l1Put.l0])
  | succ k1 =>
   have H:=HA.out
   clear HA
   simp only [spec_l1Put.l0] at H
   by_cases c3:x5_1 < (l0.length:Int)
   ·rw [if_pos c3] at H
    have c3b0:decide (x5_1 < (l0.length:Int)) = true:=decide_eq_true c3
    clear c3
    by_cases c4:0 ≤ x5_1
    ·rw [if_pos c4] at H
     have c4b0:decide (0 ≤ x5_1) = true:=decide_eq_true c4
     clear c4
     by_cases c5:(rd l0 x5_1) < a1
     ·rw [if_pos c5] at H
      have c5b0:decide ((rd l0 x5_1) < a1) = true:=decide_eq_true c5
      clear c5
      have H':=Aside0.mk H
      clear H
      obtain ⟨Ao6,co6,eo6⟩:=Kd.R_slice HO_0.out
      subst eo6
      have p321:0 ≤ (x5_1:Int):=of_decide_eq_true as_
      have q321:x5_1 < (l0.length:Int):=of_decide_eq_true as_
      obtain ⟨ad321,e321,hx321_0⟩:=Kd.at_int (Kd.R_reads' HO_0.out).2.2 x5_1 p321 q321
      cases e321
      replace p321:=eq_true p321
      replace q321:=eq_true q321
      go_wp2
      go_roundg k1
      case measure => have:=HK1.out; omega
      case rel => exact ⟨(wrap64 (x5_1 + 1)),rs_,H',⟨by have:=HK1.out; omega⟩,⟨kr_ HO_0.out⟩,⟨by repeat (first | (with_reducible first | exact HK.out | apply Kept.alloc | apply Kept.drewN | apply Kept.drew) | exact HK.out)⟩,⟨bl0_ HB.out⟩⟩
     ·rw [if_neg c5] at H
      have c5b0:decide ((rd l0 x5_1) < a1) = false:=decide_eq_false c5
      clear c5
      by_cases c7:(rd l0 x5_1) = a1
      ·rw [if_pos c7] at H
       have c7b0:((rd l0 x5_1) == a1) = true:=beq_iff_eq.mpr c7
       have c7b1:((rd l0 x5_1) != a1) = false:=bne_eq_false_iff_eq.mpr c7
       clear c7
       obtain rfl:=Option.some.inj H
       obtain ⟨Ao8,co8,eo8⟩:=Kd.R_slice HO_0.out
       subst eo8
       have p321:0 ≤ (x5_1:Int):=of_decide_eq_true as_
       have q321:x5_1 < (l0.length:Int):=of_decide_eq_true as_
       obtain ⟨ad321,e321,hx321_0⟩:=Kd.at_int (Kd.R_reads' HO_0.out).2.2 x5_1 p321 q321
       cases e321
       replace p321:=eq_true p321
       replace q321:=eq_true q321
       have p322:0 ≤ (x5_1:Int):=of_decide_eq_true as_
       have q322:x5_1 < (l0.length:Int):=of_decide_eq_true as_
       obtain ⟨ad322,e322,hx322_0⟩:=Kd.at_int (Kd.R_reads' HO_0.out).2.2 x5_1 p322 q322
       obtain rfl:ad321 = ad322:=(by injection e322)
       replace p322:=eq_true p322
       replace q322:=eq_true q322
       go_wp2
       go_ret
       exact ⟨_,er_,by (with_reducible repeat (first | apply Kd.R_alloc | apply Kd.R_drewN | apply Kd.R_drew)); exact HO_0.out,bl0_ HB.out,by repeat (first | (with_reducible first | exact HK.out | apply Kept.alloc | apply Kept.drewN | apply Kept.drew) | exact HK.out)⟩
      ·rw [if_neg c7] at H
       have c7b0:((rd l0 x5_1) == a1) = false:=beq_eq_false_iff_ne.mpr c7
       have c7b1:((rd l0 x5_1) != a1) = true:=bne_iff_ne.mpr c7
       obtain ⟨y323,hy323⟩:∃ y_:List Int,y_ = (([]:List Int)):=⟨_,rfl⟩
       replace H:(if x5_1 ≤ (l0.length:Int) then ((some (l0.take (x5_1:Int).toNat:List Int)).bind fun y326 => (if y323.length + y326.length < 17592186044416 then ((some (y323 ++ y326:List Int)).bind fun y330 => (if y330.length < 17592186044416 then ((some (y330 ++ [a1]:List Int)).bind fun y333 => ((some (l0.drop (x5_1:Int).toNat:List Int)).bind fun y336 => (if y333.length + y336.length < 17592186044416 then (some (y333 ++ y336)) else (none)))) else (none))) else (none))) else (none)) = some r:=by first | (rw [hy323]; with_reducible exact H) | (have H2_:=(Option.bind_some _ _).symm.trans H; rw [hy323]; with_reducible exact H2_) | (have H2_:=(Option.bind_some _ _).symm.trans H; with_reducible exact H2_) | with_reducible exact H | (rw [hy323]; exact H) | exact H
       have Ny323:=Aside0.mk hy323
       clear hy323
       have c9b0:=eq_true (of_decide_eq_true as_:0 ≤ x5_1)
       by_cases c10:x5_1 ≤ (l0.length:Int)
       ·rw [if_pos c10] at H
        have c10b0:=eq_true c10
        have c10b1:decide (x5_1 ≤ (l0.length:Int)) = true:=decide_eq_true c10
        clear c10
        obtain ⟨y326,hy326⟩:∃ y_:List Int,y_ = (l0.take (x5_1:Int).toNat):=⟨_,rfl⟩
        replace H:(if y323.length + y326.length < 17592186044416 then ((some (y323 ++ y326:List Int)).bind fun y330 => (if y330.length < 17592186044416 then ((some (y330 ++ [a1]:List Int)).bind fun y333 => ((some (l0.drop (x5_1:Int).toNat:List Int)).bind fun y336 => (if y333.length + y336.length < 17592186044416 then (some (y333 ++ y336)) else (none)))) else (none))) else (none)) = some r:=by first | (rw [hy326]; with_reducible exact H) | (have H2_:=(Option.bind_some _ _).symm.trans H; rw [hy326]; with_reducible exact H2_) | (have H2_:=(Option.bind_some _ _).symm.trans H; with_reducible exact H2_) | with_reducible exact H | (rw [hy326]; exact H) | exact H
        have Ny326:=Aside0.mk hy326
        clear hy326
        by_cases c11:y323.length + y326.length < 17592186044416
        ·rw [if_pos c11] at H
         have LMc11:=Aside0.mk c11
         clear c11
         obtain ⟨y330,hy330⟩:∃ y_:List Int,y_ = (y323 ++ y326):=⟨_,rfl⟩
         replace H:(if y330.length < 17592186044416 then ((some (y330 ++ [a1]:List Int)).bind fun y333 => ((some (l0.drop (x5_1:Int).toNat:List Int)).bind fun y336 => (if y333.length + y336.length < 17592186044416 then (some (y333 ++ y336)) else (none)))) else (none)) = some r:=by first | (rw [hy330]; with_reducible exact H) | (have H2_:=(Option.bind_some _ _).symm.trans H; rw [hy330]; with_reducible exact H2_) | (have H2_:=(Option.bind_some _ _).symm.trans H; with_reducible exact H2_) | with_reducible exact H | (rw [hy330]; exact H) | exact H
         have Ny330:=Aside0.mk hy330
         clear hy330
         by_cases c12:y330.length < 17592186044416
         ·rw [if_pos c12] at H
          have LMc12:=Aside0.mk c12
          clear c12
          obtain ⟨y333,hy333⟩:∃ y_:List Int,y_ = (y330 ++ [a1]):=⟨_,rfl⟩
          replace H:((some (l0.drop (x5_1:Int).toNat:List Int)).bind fun y336 => (if y333.length + y336.length < 17592186044416 then (some (y333 ++ y336)) else (none))) = some r:=by first | (rw [hy333]; with_reducible exact H) | (have H2_:=(Option.bind_some _ _).symm.trans H; rw [hy333]; with_reducible exact H2_) | (have H2_:=(Option.bind_some _ _).symm.trans H; with_reducible exact H2_) | with_reducible exact H | (rw [hy333]; exact H) | exact H
          have Ny333:=Aside0.mk hy333
          clear hy333
          have c13b0:=eq_true (of_decide_eq_true as_:0 ≤ x5_1)
          have c14b0:=eq_true (of_decide_eq_true as_:x5_1 ≤ (l0.length:Int))
          obtain ⟨y336,hy336⟩:∃ y_:List Int,y_ = (l0.drop (x5_1:Int).toNat):=⟨_,rfl⟩
          replace H:(if y333.length + y336.length < 17592186044416 then (some (y333 ++ y336)) else (none)) = some r:=by first | (rw [hy336]; with_reducible exact H) | (have H2_:=(Option.bind_some _ _).symm.trans H; rw [hy336]; with_reducible exact H2_) | (have H2_:=(Option.bind_some _ _).symm.trans H; with_reducible exact H2_) | with_reducible exact H | (rw [hy336]; exact H) | exact H
          have Ny336:=Aside0.mk hy336
          clear hy336
          by_cases c15:y333.length + y336.length < 17592186044416
          ·rw [if_pos c15] at H
           have LMc15:=Aside0.mk c15
           clear c15
           obtain ⟨y340,hy340⟩:∃ y_:List Int,y_ = (y333 ++ y336):=⟨_,rfl⟩
           replace H:(some y340) = some r:=by first | (rw [hy340]; with_reducible exact H) | (have H2_:=(Option.bind_some _ _).symm.trans H; rw [hy340]; with_reducible exact H2_) | (have H2_:=(Option.bind_some _ _).symm.trans H; with_reducible exact H2_) | with_reducible exact H | (rw [hy340]; exact H) | exact H
           have Ny340:=Aside0.mk hy340
           clear hy340
           obtain rfl:=Option.some.inj H
           obtain ⟨Ao16,co16,eo16⟩:=Kd.R_slice HO_0.out
           subst eo16
           have p321:0 ≤ (x5_1:Int):=of_decide_eq_true as_
           have q321:x5_1 < (l0.length:Int):=of_decide_eq_true as_
           obtain ⟨ad321,e321,hx321_0⟩:=Kd.at_int (Kd.R_reads' HO_0.out).2.2 x5_1 p321 q321
           cases e321
           replace p321:=eq_true p321
           replace q321:=eq_true q321
           have p322:0 ≤ (x5_1:Int):=of_decide_eq_true as_
           have q322:x5_1 < (l0.length:Int):=of_decide_eq_true as_
           obtain ⟨ad322,e322,hx322_0⟩:=Kd.at_int (Kd.R_reads' HO_0.out).2.2 x5_1 p322 q322
           obtain rfl:ad321 = ad322:=(by injection e322)
           replace p322:=eq_true p322
           replace q322:=eq_true q322
           go_wp2_with (first | ((with_reducible refine gate_dst (N:=34) rfl ?_); refine Kd.R_lit (Kd.int .i64) _ 3 ?hg (N:=34) ?hd (xs:=([]:List Int)) (inner:=[]) (ok:=fun _ => True) (okp:=fun _ => True) ?hr ?hp (fun _ hk => hk) trivial (Below.refl _ _) (Nat.le_refl _) (by simp) ?_; (case hd => rfl); (case hg => rfl); (case hr => first | (go_simp; done) | (go_simp; rfl)); (case hp => exact (Reps.none _ _)); intro v324 w17 ho18 hb hg_ hnew_; clear hg_ hnew_; (first | rw [← Ny323.out] at ho18 | (simp only [Int.reduceToNat] at ho18; rw [← Ny323.out] at ho18)); have n0_:=Aside0.mk (Kd.R_elder' (kr_ HO_0.out) (Kd.R_base ho18) hb); have n1_:=Aside0.mk (Kd.R_lower (Kd.R_new' (Kd.R_newM (M:=fun k_ => (P0_ k_ ∨ w.heap.size ≤ k_)) ho18 (by first | exact HK.out.1 | exact (show Kept w _ (fun k_ => P0_ k_) from by repeat (first | (with_reducible first | exact HK.out | apply Kept.alloc | apply Kept.drewN | apply Kept.drew) | exact HK.out)).1) (fun k_ h_ => .inr h_)) (Kd.R_lt (kr_ HO_0.out))) (below_size (bl0_ HB.out))); have n2_:=Aside0.mk (Kept.below (S:=(fun k_ => P0_ k_)) (by repeat (first | (with_reducible first | exact HK.out | apply Kept.alloc | apply Kept.drewN | apply Kept.drew) | exact HK.out)) hb); have n3_:=Aside0.mk (below_step (bl0_ HB.out) hb); clear HO_0; clear HK; clear HB; have HO_0:=n0_; have HO325:=n1_; have HK:=n2_; have HB:=n3_; clear n0_ n1_ n2_ n3_; clear hb ho18; have q19:(x5_1:Int) ≤ ((l0.length:Int):Int):=of_decide_eq_true as_; obtain ⟨i019,hi019,_,hsz19,_⟩:=info_parts info3; have hroom19:l0.length ≤ co16:=(Kd.R_reads' HO_0.out).2.1; have hC19:Kd.C (Kd.int .i64) _ (some ad321) l0.length l0:=(Kd.R_reads' HO_0.out).2.2; have hcut19:=cut_to (P:=Tryd.prog) 22 3 .i64 Tryd.underlying22 hi019 (some ad321) l0.length co16 x5_1 (of_decide_eq_true as_) q19 hroom19; have hr19:=Kd.C_take (m:=(x5_1:Int).toNat) hC19 (by omega); have hy19:y326.length = (x5_1:Int).toNat:=(by rw [Ny326.out,List.length_take]; omega); rw [← Ny326.out] at hr19; rw [← hy19] at hcut19; have HR329:=Aside0.mk hr19; have HC329:=Aside0.mk (show y326.length ≤ co16 from by omega); clear hr19 hC19 hroom19 hi019 hsz19; have KY19:=Aside0.mk hy19; clear hy19; have KL19:=Aside0.mk (show (x5_1:Int).toNat ≤ l0.length from by omega); replace q19:=eq_true q19) | ((with_reducible refine gate_builtin (b:=.append) (xs:=#[.tmp 34,.tmp 37]) rfl ?_); at_builtin; refine Kd.R_append_rows (Kd.int .i64) (w0:=w0) w0.heap.size rfl (.tmp 34) (.tmp 37) 22 3 (.int .i64 0) 8 rfl Tryd.underlying22 info3 rfl (by decide) (by omega) v324 y323 y326 _ _ _ (fun k_ => (P0_ k_ ∨ w.heap.size ≤ k_) ∧ some k_ ≠ (.slice (some ad321) l0.length co16:Value).ownBlock) (fun _ => False) rfl rfl ?aO ?aR (fun _ _ h => h) (fun _ h => h.elim) ?aF ?aB ?aS ?aL ?_; (case aR => repeat (first | exact (by repeat (first | (with_reducible exact HR329.out) | (with_reducible refine Kd.C_alloc ?_ _) | (with_reducible refine Kd.C_drewN ?_ _) | (with_reducible refine Kd.C_drew ?_) | exact HR329.out)) | (with_reducible refine Kd.C_alloc ?_ _) | (with_reducible refine Kd.C_drewN ?_ _) | (with_reducible refine Kd.C_drew ?_))); (case aB => exact (bl0_ HB.out)); (case aF => exact (fun k_ hk => ⟨(.inr (Nat.le_trans (by first | exact HK.out.1 | exact (show Kept w _ (fun k_ => P0_ k_) from by repeat (first | (with_reducible first | exact HK.out | apply Kept.alloc | apply Kept.drewN | apply Kept.drew) | exact HK.out)).1) hk)),Kd.fresh' (Kd.R_lt (kr_ HO_0.out)) k_ hk⟩)); (case aO => exact (by (with_reducible repeat (first | apply Kd.R_alloc | apply Kd.R_drewN | apply Kd.R_drew)); exact Kd.R_mono HO325.out (fun _ hk => ⟨hk.1.1,hk.2⟩))); (case aS => exact (below_size (bl0_ HB.out))); (case aL => have:=LMc11.out; omega); intro v331 w20 ho hb hg hat; rw [← Ny330.out] at ho; have n0_:=Aside0.mk (Kd.R_after (ok:=(fun k_ => (P0_ k_ ∨ w.heap.size ≤ k_))) (kr_ HO_0.out) hg hat); have n1_:=Aside0.mk (hb); have n2_:=Aside0.mk (Kept.of_grown (S:=(fun k_ => P0_ k_)) hg (by repeat (first | (with_reducible first | exact HK.out | apply Kept.alloc | apply Kept.drewN | apply Kept.drew) | exact HK.out)) (fun k_ e_ => (HO325.out.1 k_ e_).1.1)); have n3_:=Aside0.mk ((show Kd.C (Kd.int .i64) w20 (some ad321) y326.length y326 from by rw [Ny326.out]; exact Kd.C_take (m:=(x5_1:Int).toNat) ((Kd.R_reads' (Kd.R_after (ok:=(fun k_ => (P0_ k_ ∨ w.heap.size ≤ k_))) (kr_ HO_0.out) hg hat)).2.2) KL19.out)); have n4_:=Aside0.mk (ho); clear HO_0; clear HB; clear HK; clear HR329; clear HO325; have HO_0:=n0_; have HB:=n1_; have HK:=n2_; have HR329:=n3_; have HO332:=n4_; clear n0_ n1_ n2_ n3_ n4_; clear ho hb hg hat) | ((with_reducible refine gate_builtin (b:=.append) (xs:=#[.tmp 39,.tmp 41]) rfl ?_); at_builtin; refine Kd.R_append (Kd.int .i64) (w0:=w0) w0.heap.size rfl (.tmp 39) (.tmp 41) 22 3 (.int .i64 0) 8 rfl Tryd.underlying22 info3 rfl (by decide) (by omega) v331 y330 a1 [.int .i64 a1] (fun k_ => (P0_ k_ ∨ w.heap.size ≤ k_) ∧ some k_ ≠ (.slice (some ad321) l0.length co16:Value).ownBlock) (fun _ => False) rfl rfl ?aP (fun _ hk => hk.elim) ?aF ?aO ?aB ?aS ?aL ?_; (case aP => exact rfl); (case aB => exact (bl0_ HB.out)); (case aF => exact (fun k_ hk => ⟨(.inr (Nat.le_trans (by first | exact HK.out.1 | exact (show Kept w _ (fun k_ => P0_ k_) from by repeat (first | (with_reducible first | exact HK.out | apply Kept.alloc | apply Kept.drewN | apply Kept.drew) | exact HK.out)).1) hk)),Kd.fresh' (Kd.R_lt (kr_ HO_0.out)) k_ hk⟩)); (case aO => exact (kr_ HO332.out)); (case aS => exact (below_size (bl0_ HB.out))); (case aL => have:=LMc12.out; omega); intro v334 w21 ho hb hg hat; rw [← Ny333.out] at ho; have n0_:=Aside0.mk (Kd.R_after (ok:=(fun k_ => (P0_ k_ ∨ w.heap.size ≤ k_))) (kr_ HO_0.out) hg hat); have n1_:=Aside0.mk (hb); have n2_:=Aside0.mk (Kept.of_grown (S:=(fun k_ => P0_ k_)) hg (by repeat (first | (with_reducible first | exact HK.out | apply Kept.alloc | apply Kept.drewN | apply Kept.drew) | exact HK.out)) (fun k_ e_ => (HO332.out.1 k_ e_).1)); have n3_:=Aside0.mk ((show Kd.C (Kd.int .i64) w21 (some ad321) y326.length y326 from by rw [Ny326.out]; exact Kd.C_take (m:=(x5_1:Int).toNat) ((Kd.R_reads' (Kd.R_after (ok:=(fun k_ => (P0_ k_ ∨ w.heap.size ≤ k_))) (kr_ HO_0.out) hg hat)).2.2) KL19.out)); have n4_:=Aside0.mk (ho); clear HO_0; clear HB; clear HK; clear HR329; clear HO332; have HO_0:=n0_; have HB:=n1_; have HK:=n2_; have HR329:=n3_; have HO335:=n4_; clear n0_ n1_ n2_ n3_ n4_; clear ho hb hg hat; have q22:(x5_1:Int) ≤ ((l0.length:Int):Int):=of_decide_eq_true as_; obtain ⟨i022,hi022,_,hsz22,_⟩:=info_parts info3; have hroom22:l0.length ≤ co16:=(Kd.R_reads' HO_0.out).2.1; have hC22:Kd.C (Kd.int .i64) _ (some ad321) l0.length l0:=(Kd.R_reads' HO_0.out).2.2; have q022:(0:Int) ≤ (x5_1:Int):=of_decide_eq_true as_; have hcut22:=cut_from (P:=Tryd.prog) 22 3 .i64 Tryd.underlying22 hi022 1 hsz22 (some ad321) l0.length co16 x5_1 q022 q22; have hr22:=Kd.C_drop (m:=(x5_1:Int).toNat) (c:=co16) hC22 (by omega) hroom22; obtain ⟨A22,hA22⟩:∃ A1,A1 = (if co16 = (x5_1:Int).toNat then (some ad321) else ((some ad321):Option Addr).map (·.add ((x5_1:Int).toNat * 1))):=⟨_,rfl⟩; obtain ⟨c22,hc22⟩:∃ c1,c1 = co16 - (x5_1:Int).toNat:=⟨_,rfl⟩; have hy22:y336.length = l0.length - (x5_1:Int).toNat:=(by rw [Ny336.out,List.length_drop] <;> omega); rw [show (l0).drop (x5_1:Int).toNat = y336 from Ny336.out.symm] at hr22; replace hr22:Kd.C (Kd.int .i64) _ A22 y336.length y336:=(by rw [hA22]; exact hr22); rw [← hy22,← hA22,← hc22] at hcut22; have HR339:=Aside0.mk hr22; have HC339:=Aside0.mk (show y336.length ≤ c22 from by rw [hy22,hc22]; exact Nat.sub_le_sub_right hroom22 _); clear hr22 hC22 hroom22 hi022 hsz22 hc22; have KY22:=Aside0.mk hy22; have KA22:=Aside0.mk hA22; clear hy22 hA22; have KL22:=Aside0.mk (show (x5_1:Int).toNat ≤ l0.length from by omega); replace q22:=eq_true q22) | ((with_reducible refine gate_builtin (b:=.append) (xs:=#[.tmp 43,.tmp 46]) rfl ?_); at_builtin; refine Kd.R_append_rows (Kd.int .i64) (w0:=w0) w0.heap.size rfl (.tmp 43) (.tmp 46) 22 3 (.int .i64 0) 8 rfl Tryd.underlying22 info3 rfl (by decide) (by omega) v334 y333 y336 _ _ _ (fun k_ => (P0_ k_ ∨ w.heap.size ≤ k_) ∧ some k_ ≠ (.slice (some ad321) l0.length co16:Value).ownBlock) (fun _ => False) rfl rfl ?aO ?aR (fun _ _ h => h) (fun _ h => h.elim) ?aF ?aB ?aS ?aL ?_; (case aR => repeat (first | exact (by repeat (first | (with_reducible exact HR339.out) | (with_reducible refine Kd.C_alloc ?_ _) | (with_reducible refine Kd.C_drewN ?_ _) | (with_reducible refine Kd.C_drew ?_) | exact HR339.out)) | (with_reducible refine Kd.C_alloc ?_ _) | (with_reducible refine Kd.C_drewN ?_ _) | (with_reducible refine Kd.C_drew ?_))); (case aB => exact (bl0_ HB.out)); (case aF => exact (fun k_ hk => ⟨(.inr (Nat.le_trans (by first | exact HK.out.1 | exact (show Kept w _ (fun k_ => P0_ k_) from by repeat (first | (with_reducible first | exact HK.out | apply Kept.alloc | apply Kept.drewN | apply Kept.drew) | exact HK.out)).1) hk)),Kd.fresh' (Kd.R_lt (kr_ HO_0.out)) k_ hk⟩)); (case aO => exact (kr_ HO335.out)); (case aS => exact (below_size (bl0_ HB.out))); (case aL => have:=LMc15.out; omega); intro v341 w23 ho hb hg hat; rw [← Ny340.out] at ho; have n0_:=Aside0.mk (Kd.R_after (ok:=(fun k_ => (P0_ k_ ∨ w.heap.size ≤ k_))) (kr_ HO_0.out) hg hat); have n1_:=Aside0.mk (hb); have n2_:=Aside0.mk (Kept.of_grown (S:=(fun k_ => P0_ k_)) hg (by repeat (first | (with_reducible first | exact HK.out | apply Kept.alloc | apply Kept.drewN | apply Kept.drew) | exact HK.out)) (fun k_ e_ => (HO335.out.1 k_ e_).1)); have n3_:=Aside0.mk ((show Kd.C (Kd.int .i64) w23 (some ad321) y326.length y326 from by rw [Ny326.out]; exact Kd.C_take (m:=(x5_1:Int).toNat) ((Kd.R_reads' (Kd.R_after (ok:=(fun k_ => (P0_ k_ ∨ w.heap.size ≤ k_))) (kr_ HO_0.out) hg hat)).2.2) KL19.out)); have n4_:=Aside0.mk ((show Kd.C (Kd.int .i64) w23 A22 y336.length y336 from by rw [Ny336.out,KA22.out]; exact Kd.C_drop (m:=(x5_1:Int).toNat) (c:=co16) ((Kd.R_reads' (Kd.R_after (ok:=(fun k_ => (P0_ k_ ∨ w.heap.size ≤ k_))) (kr_ HO_0.out) hg hat)).2.2) KL22.out ((Kd.R_reads' (Kd.R_after (ok:=(fun k_ => (P0_ k_ ∨ w.heap.size ≤ k_))) (kr_ HO_0.out) hg hat)).2.1))); have n5_:=Aside0.mk (ho); clear HO_0; clear HB; clear HK; clear HR329; clear HR339; clear HO335; have HO_0:=n0_; have HB:=n1_; have HK:=n2_; have HR329:=n3_; have HR339:=n4_; have HO342:=n5_; clear n0_ n1_ n2_ n3_ n4_ n5_; clear ho hb hg hat))
           go_ret
           exact ⟨_,er_,by (with_reducible repeat (first | apply Kd.R_alloc | apply Kd.R_drewN | apply Kd.R_drew)); exact Kd.R_mono HO342.out (fun _ hk => hk.1),bl0_ HB.out,by repeat (first | (with_reducible first | exact HK.out | apply Kept.alloc | apply Kept.drewN | apply Kept.drew) | exact HK.out)⟩
          ·rw [if_neg c15] at H
           exact absurd H (by simp)
         ·rw [if_neg c12] at H
          exact absurd H (by simp)
        ·rw [if_neg c11] at H
         exact absurd H (by simp)
       ·rw [if_neg c10] at H
        exact absurd H (by simp)
    ·rw [if_neg c4] at H
     exact absurd H (by simp)
   ·rw [if_neg c3] at H
    have c3b0:decide (x5_1 < (l0.length:Int)) = false:=decide_eq_false c3
    clear c3
    obtain ⟨y343,hy343⟩:∃ y_:List Int,y_ = (([]:List Int)):=⟨_,rfl⟩
    replace H:(if 0 ≤ x5_1 then (if x5_1 ≤ (l0.length:Int) then ((some (l0.take (x5_1:Int).toNat:List Int)).bind fun y346 => (if y343.length + y346.length < 17592186044416 then ((some (y343 ++ y346:List Int)).bind fun y350 => (if y350.length < 17592186044416 then ((some (y350 ++ [a1]:List Int)).bind fun y353 => ((some (l0.drop (x5_1:Int).toNat:List Int)).bind fun y356 => (if y353.length + y356.length < 17592186044416 then (some (y353 ++ y356)) else (none)))) else (none))) else (none))) else (none)) else (none)) = some r:=by first | (rw [hy343]; with_reducible exact H) | (have H2_:=(Option.bind_some _ _).symm.trans H; rw [hy343]; with_reducible exact H2_) | (have H2_:=(Option.bind_some _ _).symm.trans H; with_reducible exact H2_) | with_reducible exact H | (rw [hy343]; exact H) | exact H
    have Ny343:=Aside0.mk hy343
    clear hy343
    by_cases c24:0 ≤ x5_1
    ·rw [if_pos c24] at H
     have c24b0:=eq_true c24
     have c24b1:decide (0 ≤ x5_1) = true:=decide_eq_true c24
     clear c24
     by_cases c25:x5_1 ≤ (l0.length:Int)
     ·rw [if_pos c25] at H
      have c25b0:=eq_true c25
      have c25b1:decide (x5_1 ≤ (l0.length:Int)) = true:=decide_eq_true c25
      clear c25
      obtain ⟨y346,hy346⟩:∃ y_:List Int,y_ = (l0.take (x5_1:Int).toNat):=⟨_,rfl⟩
      replace H:(if y343.length + y346.length < 17592186044416 then ((some (y343 ++ y346:List Int)).bind fun y350 => (if y350.length < 17592186044416 then ((some (y350 ++ [a1]:List Int)).bind fun y353 => ((some (l0.drop (x5_1:Int).toNat:List Int)).bind fun y356 => (if y353.length + y356.length < 17592186044416 then (some (y353 ++ y356)) else (none)))) else (none))) else (none)) = some r:=by first | (rw [hy346]; with_reducible exact H) | (have H2_:=(Option.bind_some _ _).symm.trans H; rw [hy346]; with_reducible exact H2_) | (have H2_:=(Option.bind_some _ _).symm.trans H; with_reducible exact H2_) | with_reducible exact H | (rw [hy346]; exact H) | exact H
      have Ny346:=Aside0.mk hy346
      clear hy346
      by_cases c26:y343.length + y346.length < 17592186044416
      ·rw [if_pos c26] at H
       have LMc26:=Aside0.mk c26
       clear c26
       obtain ⟨y350,hy350⟩:∃ y_:List Int,y_ = (y343 ++ y346):=⟨_,rfl⟩
       replace H:(if y350.length < 17592186044416 then ((some (y350 ++ [a1]:List Int)).bind fun y353 => ((some (l0.drop (x5_1:Int).toNat:List Int)).bind fun y356 => (if y353.length + y356.length < 17592186044416 then (some (y353 ++ y356)) else (none)))) else (none)) = some r:=by first | (rw [hy350]; with_reducible exact H) | (have H2_:=(Option.bind_some _ _).symm.trans H; rw [hy350]; with_reducible exact H2_) | (have H2_:=(Option.bind_some _ _).symm.trans H; with_reducible exact H2_) | with_reducible exact H | (rw [hy350]; exact H) | exact H
       have Ny350:=Aside0.mk hy350
       clear hy350
       by_cases c27:y350.length < 17592186044416
       ·rw [if_pos c27] at H
        have LMc27:=Aside0.mk c27
        clear c27
        obtain ⟨y353,hy353⟩:∃ y_:List Int,y_ = (y350 ++ [a1]):=⟨_,rfl⟩
        replace H:((some (l0.drop (x5_1:Int).toNat:List Int)).bind fun y356 => (if y353.length + y356.length < 17592186044416 then (some (y353 ++ y356)) else (none))) = some r:=by first | (rw [hy353]; with_reducible exact H) | (have H2_:=(Option.bind_some _ _).symm.trans H; rw [hy353]; with_reducible exact H2_) | (have H2_:=(Option.bind_some _ _).symm.trans H; with_reducible exact H2_) | with_reducible exact H | (rw [hy353]; exact H) | exact H
        have Ny353:=Aside0.mk hy353
        clear hy353
        have c28b0:=eq_true (of_decide_eq_true as_:0 ≤ x5_1)
        have c29b0:=eq_true (of_decide_eq_true as_:x5_1 ≤ (l0.length:Int))
        obtain ⟨y356,hy356⟩:∃ y_:List Int,y_ = (l0.drop (x5_1:Int).toNat):=⟨_,rfl⟩
        replace H:(if y353.length + y356.length < 17592186044416 then (some (y353 ++ y356)) else (none)) = some r:=by first | (rw [hy356]; with_reducible exact H) | (have H2_:=(Option.bind_some _ _).symm.trans H; rw [hy356]; with_reducible exact H2_) | (have H2_:=(Option.bind_some _ _).symm.trans H; with_reducible exact H2_) | with_reducible exact H | (rw [hy356]; exact H) | exact H
        have Ny356:=Aside0.mk hy356
        clear hy356
        by_cases c30:y353.length + y356.length < 17592186044416
        ·rw [if_pos c30] at H
         have LMc30:=Aside0.mk c30
         clear c30
         obtain ⟨y360,hy360⟩:∃ y_:List Int,y_ = (y353 ++ y356):=⟨_,rfl⟩
         replace H:(some y360) = some r:=by first | (rw [hy360]; with_reducible exact H) | (have H2_:=(Option.bind_some _ _).symm.trans H; rw [hy360]; with_reducible exact H2_) | (have H2_:=(Option.bind_some _ _).symm.trans H; with_reducible exact H2_) | with_reducible exact H | (rw [hy360]; exact H) | exact H
         have Ny360:=Aside0.mk hy360
         clear hy360
         obtain rfl:=Option.some.inj H
         obtain ⟨Ao31,co31,eo31⟩:=Kd.R_slice HO_0.out
         subst eo31
         go_wp2_with (first | ((with_reducible refine gate_dst (N:=34) rfl ?_); refine Kd.R_lit (Kd.int .i64) _ 3 ?hg (N:=34) ?hd (xs:=([]:List Int)) (inner:=[]) (ok:=fun _ => True) (okp:=fun _ => True) ?hr ?hp (fun _ hk => hk) trivial (Below.refl _ _) (Nat.le_refl _) (by simp) ?_; (case hd => rfl); (case hg => rfl); (case hr => first | (go_simp; done) | (go_simp; rfl)); (case hp => exact (Reps.none _ _)); intro v344 w32 ho33 hb hg_ hnew_; clear hg_ hnew_; (first | rw [← Ny343.out] at ho33 | (simp only [Int.reduceToNat] at ho33; rw [← Ny343.out] at ho33)); have n0_:=Aside0.mk (Kd.R_elder' (kr_ HO_0.out) (Kd.R_base ho33) hb); have n1_:=Aside0.mk (Kd.R_lower (Kd.R_new' (Kd.R_newM (M:=fun k_ => (P0_ k_ ∨ w.heap.size ≤ k_)) ho33 (by first | exact HK.out.1 | exact (show Kept w _ (fun k_ => P0_ k_) from by repeat (first | (with_reducible first | exact HK.out | apply Kept.alloc | apply Kept.drewN | apply Kept.drew) | exact HK.out)).1) (fun k_ h_ => .inr h_)) (Kd.R_lt (kr_ HO_0.out))) (below_size (bl0_ HB.out))); have n2_:=Aside0.mk (Kept.below (S:=(fun k_ => P0_ k_)) (by repeat (first | (with_reducible first | exact HK.out | apply Kept.alloc | apply Kept.drewN | apply Kept.drew) | exact HK.out)) hb); have n3_:=Aside0.mk (below_step (bl0_ HB.out) hb); clear HO_0; clear HK; clear HB; have HO_0:=n0_; have HO345:=n1_; have HK:=n2_; have HB:=n3_; clear n0_ n1_ n2_ n3_; clear hb ho33; have q34:(x5_1:Int) ≤ ((l0.length:Int):Int):=of_decide_eq_true as_; obtain ⟨i034,hi034,_,hsz34,_⟩:=info_parts info3; have hroom34:l0.length ≤ co31:=(Kd.R_reads' HO_0.out).2.1; have hC34:Kd.C (Kd.int .i64) _ Ao31 l0.length l0:=(Kd.R_reads' HO_0.out).2.2; have hcut34:=cut_to (P:=Tryd.prog) 22 3 .i64 Tryd.underlying22 hi034 Ao31 l0.length co31 x5_1 (of_decide_eq_true as_) q34 hroom34; have hr34:=Kd.C_take (m:=(x5_1:Int).toNat) hC34 (by omega); have hy34:y346.length = (x5_1:Int).toNat:=(by rw [Ny346.out,List.length_take]; omega); rw [← Ny346.out] at hr34; rw [← hy34] at hcut34; have HR349:=Aside0.mk hr34; have HC349:=Aside0.mk (show y346.length ≤ co31 from by omega); clear hr34 hC34 hroom34 hi034 hsz34; have KY34:=Aside0.mk hy34; clear hy34; have KL34:=Aside0.mk (show (x5_1:Int).toNat ≤ l0.length from by omega); replace q34:=eq_true q34) | ((with_reducible refine gate_builtin (b:=.append) (xs:=#[.tmp 34,.tmp 37]) rfl ?_); at_builtin; refine Kd.R_append_rows (Kd.int .i64) (w0:=w0) w0.heap.size rfl (.tmp 34) (.tmp 37) 22 3 (.int .i64 0) 8 rfl Tryd.underlying22 info3 rfl (by decide) (by omega) v344 y343 y346 _ _ _ (fun k_ => (P0_ k_ ∨ w.heap.size ≤ k_) ∧ some k_ ≠ (.slice Ao31 l0.length co31:Value).ownBlock) (fun _ => False) rfl rfl ?aO ?aR (fun _ _ h => h) (fun _ h => h.elim) ?aF ?aB ?aS ?aL ?_; (case aR => repeat (first | exact (by repeat (first | (with_reducible exact HR349.out) | (with_reducible refine Kd.C_alloc ?_ _) | (with_reducible refine Kd.C_drewN ?_ _) | (with_reducible refine Kd.C_drew ?_) | exact HR349.out)) | (with_reducible refine Kd.C_alloc ?_ _) | (with_reducible refine Kd.C_drewN ?_ _) | (with_reducible refine Kd.C_drew ?_))); (case aB => exact (bl0_ HB.out)); (case aF => exact (fun k_ hk => ⟨(.inr (Nat.le_trans (by first | exact HK.out.1 | exact (show Kept w _ (fun k_ => P0_ k_) from by repeat (first | (with_reducible first | exact HK.out | apply Kept.alloc | apply Kept.drewN | apply Kept.drew) | exact HK.out)).1) hk)),Kd.fresh' (Kd.R_lt (kr_ HO_0.out)) k_ hk⟩)); (case aO => exact (by (with_reducible repeat (first | apply Kd.R_alloc | apply Kd.R_drewN | apply Kd.R_drew)); exact Kd.R_mono HO345.out (fun _ hk => ⟨hk.1.1,hk.2⟩))); (case aS => exact (below_size (bl0_ HB.out))); (case aL => have:=LMc26.out; omega); intro v351 w35 ho hb hg hat; rw [← Ny350.out] at ho; have n0_:=Aside0.mk (Kd.R_after (ok:=(fun k_ => (P0_ k_ ∨ w.heap.size ≤ k_))) (kr_ HO_0.out) hg hat); have n1_:=Aside0.mk (hb); have n2_:=Aside0.mk (Kept.of_grown (S:=(fun k_ => P0_ k_)) hg (by repeat (first | (with_reducible first | exact HK.out | apply Kept.alloc | apply Kept.drewN | apply Kept.drew) | exact HK.out)) (fun k_ e_ => (HO345.out.1 k_ e_).1.1)); have n3_:=Aside0.mk ((show Kd.C (Kd.int .i64) w35 Ao31 y346.length y346 from by rw [Ny346.out]; exact Kd.C_take (m:=(x5_1:Int).toNat) ((Kd.R_reads' (Kd.R_after (ok:=(fun k_ => (P0_ k_ ∨ w.heap.size ≤ k_))) (kr_ HO_0.out) hg hat)).2.2) KL34.out)); have n4_:=Aside0.mk (ho); clear HO_0; clear HB; clear HK; clear HR349; clear HO345; have HO_0:=n0_; have HB:=n1_; have HK:=n2_; have HR349:=n3_; have HO352:=n4_; clear n0_ n1_ n2_ n3_ n4_; clear ho hb hg hat) | ((with_reducible refine gate_builtin (b:=.append) (xs:=#[.tmp 39,.tmp 41]) rfl ?_); at_builtin; refine Kd.R_append (Kd.int .i64) (w0:=w0) w0.heap.size rfl (.tmp 39) (.tmp 41) 22 3 (.int .i64 0) 8 rfl Tryd.underlying22 info3 rfl (by decide) (by omega) v351 y350 a1 [.int .i64 a1] (fun k_ => (P0_ k_ ∨ w.heap.size ≤ k_) ∧ some k_ ≠ (.slice Ao31 l0.length co31:Value).ownBlock) (fun _ => False) rfl rfl ?aP (fun _ hk => hk.elim) ?aF ?aO ?aB ?aS ?aL ?_; (case aP => exact rfl); (case aB => exact (bl0_ HB.out)); (case aF => exact (fun k_ hk => ⟨(.inr (Nat.le_trans (by first | exact HK.out.1 | exact (show Kept w _ (fun k_ => P0_ k_) from by repeat (first | (with_reducible first | exact HK.out | apply Kept.alloc | apply Kept.drewN | apply Kept.drew) | exact HK.out)).1) hk)),Kd.fresh' (Kd.R_lt (kr_ HO_0.out)) k_ hk⟩)); (case aO => exact (kr_ HO352.out)); (case aS => exact (below_size (bl0_ HB.out))); (case aL => have:=LMc27.out; omega); intro v354 w36 ho hb hg hat; rw [← Ny353.out] at ho; have n0_:=Aside0.mk (Kd.R_after (ok:=(fun k_ => (P0_ k_ ∨ w.heap.size ≤ k_))) (kr_ HO_0.out) hg hat); have n1_:=Aside0.mk (hb); have n2_:=Aside0.mk (Kept.of_grown (S:=(fun k_ => P0_ k_)) hg (by repeat (first | (with_reducible first | exact HK.out | apply Kept.alloc | apply Kept.drewN | apply Kept.drew) | exact HK.out)) (fun k_ e_ => (HO352.out.1 k_ e_).1)); have n3_:=Aside0.mk ((show Kd.C (Kd.int .i64) w36 Ao31 y346.length y346 from by rw [Ny346.out]; exact Kd.C_take (m:=(x5_1:Int).toNat) ((Kd.R_reads' (Kd.R_after (ok:=(fun k_ => (P0_ k_ ∨ w.heap.size ≤ k_))) (kr_ HO_0.out) hg hat)).2.2) KL34.out)); have n4_:=Aside0.mk (ho); clear HO_0; clear HB; clear HK; clear HR349; clear HO352; have HO_0:=n0_; have HB:=n1_; have HK:=n2_; have HR349:=n3_; have HO355:=n4_; clear n0_ n1_ n2_ n3_ n4_; clear ho hb hg hat; have q37:(x5_1:Int) ≤ ((l0.length:Int):Int):=of_decide_eq_true as_; obtain ⟨i037,hi037,_,hsz37,_⟩:=info_parts info3; have hroom37:l0.length ≤ co31:=(Kd.R_reads' HO_0.out).2.1; have hC37:Kd.C (Kd.int .i64) _ Ao31 l0.length l0:=(Kd.R_reads' HO_0.out).2.2; have q037:(0:Int) ≤ (x5_1:Int):=of_decide_eq_true as_; have hcut37:=cut_from (P:=Tryd.prog) 22 3 .i64 Tryd.underlying22 hi037 1 hsz37 Ao31 l0.length co31 x5_1 q037 q37; have hr37:=Kd.C_drop (m:=(x5_1:Int).toNat) (c:=co31) hC37 (by omega) hroom37; obtain ⟨A37,hA37⟩:∃ A1,A1 = (if co31 = (x5_1:Int).toNat then Ao31 else (Ao31:Option Addr).map (·.add ((x5_1:Int).toNat * 1))):=⟨_,rfl⟩; obtain ⟨c37,hc37⟩:∃ c1,c1 = co31 - (x5_1:Int).toNat:=⟨_,rfl⟩; have hy37:y356.length = l0.length - (x5_1:Int).toNat:=(by rw [Ny356.out,List.length_drop] <;> omega); rw [show (l0).drop (x5_1:Int).toNat = y356 from Ny356.out.symm] at hr37; replace hr37:Kd.C (Kd.int .i64) _ A37 y356.length y356:=(by rw [hA37]; exact hr37); rw [← hy37,← hA37,← hc37] at hcut37; have HR359:=Aside0.mk hr37; have HC359:=Aside0.mk (show y356.length ≤ c37 from by rw [hy37,hc37]; exact Nat.sub_le_sub_right hroom37 _); clear hr37 hC37 hroom37 hi037 hsz37 hc37; have KY37:=Aside0.mk hy37; have KA37:=Aside0.mk hA37; clear hy37 hA37; have KL37:=Aside0.mk (show (x5_1:Int).toNat ≤ l0.length from by omega); replace q37:=eq_true q37) | ((with_reducible refine gate_builtin (b:=.append) (xs:=#[.tmp 43,.tmp 46]) rfl ?_); at_builtin; refine Kd.R_append_rows (Kd.int .i64) (w0:=w0) w0.heap.size rfl (.tmp 43) (.tmp 46) 22 3 (.int .i64 0) 8 rfl Tryd.underlying22 info3 rfl (by decide) (by omega) v354 y353 y356 _ _ _ (fun k_ => (P0_ k_ ∨ w.heap.size ≤ k_) ∧ some k_ ≠ (.slice Ao31 l0.length co31:Value).ownBlock) (fun _ => False) rfl rfl ?aO ?aR (fun _ _ h => h) (fun _ h => h.elim) ?aF ?aB ?aS ?aL ?_; (case aR => repeat (first | exact (by repeat (first | (with_reducible exact HR359.out) | (with_reducible refine Kd.C_alloc ?_ _) | (with_reducible refine Kd.C_drewN ?_ _) | (with_reducible refine Kd.C_drew ?_) | exact HR359.out)) | (with_reducible refine Kd.C_alloc ?_ _) | (with_reducible refine Kd.C_drewN ?_ _) | (with_reducible refine Kd.C_drew ?_))); (case aB => exact (bl0_ HB.out)); (case aF => exact (fun k_ hk => ⟨(.inr (Nat.le_trans (by first | exact HK.out.1 | exact (show Kept w _ (fun k_ => P0_ k_) from by repeat (first | (with_reducible first | exact HK.out | apply Kept.alloc | apply Kept.drewN | apply Kept.drew) | exact HK.out)).1) hk)),Kd.fresh' (Kd.R_lt (kr_ HO_0.out)) k_ hk⟩)); (case aO => exact (kr_ HO355.out)); (case aS => exact (below_size (bl0_ HB.out))); (case aL => have:=LMc30.out; omega); intro v361 w38 ho hb hg hat; rw [← Ny360.out] at ho; have n0_:=Aside0.mk (Kd.R_after (ok:=(fun k_ => (P0_ k_ ∨ w.heap.size ≤ k_))) (kr_ HO_0.out) hg hat); have n1_:=Aside0.mk (hb); have n2_:=Aside0.mk (Kept.of_grown (S:=(fun k_ => P0_ k_)) hg (by repeat (first | (with_reducible first | exact HK.out | apply Kept.alloc | apply Kept.drewN | apply Kept.drew) | exact HK.out)) (fun k_ e_ => (HO355.out.1 k_ e_).1)); have n3_:=Aside0.mk ((show Kd.C (Kd.int .i64) w38 Ao31 y346.length y346 from by rw [Ny346.out]; exact Kd.C_take (m:=(x5_1:Int).toNat) ((Kd.R_reads' (Kd.R_after (ok:=(fun k_ => (P0_ k_ ∨ w.heap.size ≤ k_))) (kr_ HO_0.out) hg hat)).2.2) KL34.out)); have n4_:=Aside0.mk ((show Kd.C (Kd.int .i64) w38 A37 y356.length y356 from by rw [Ny356.out,KA37.out]; exact Kd.C_drop (m:=(x5_1:Int).toNat) (c:=co31) ((Kd.R_reads' (Kd.R_after (ok:=(fun k_ => (P0_ k_ ∨ w.heap.size ≤ k_))) (kr_ HO_0.out) hg hat)).2.2) KL37.out ((Kd.R_reads' (Kd.R_after (ok:=(fun k_ => (P0_ k_ ∨ w.heap.size ≤ k_))) (kr_ HO_0.out) hg hat)).2.1))); have n5_:=Aside0.mk (ho); clear HO_0; clear HB; clear HK; clear HR349; clear HR359; clear HO355; have HO_0:=n0_; have HB:=n1_; have HK:=n2_; have HR349:=n3_; have HR359:=n4_; have HO362:=n5_; clear n0_ n1_ n2_ n3_ n4_ n5_; clear ho hb hg hat))
         go_ret
         exact ⟨_,er_,by (with_reducible repeat (first | apply Kd.R_alloc | apply Kd.R_drewN | apply Kd.R_drew)); exact Kd.R_mono HO362.out (fun _ hk => hk.1),bl0_ HB.out,by repeat (first | (with_reducible first | exact HK.out | apply Kept.alloc | apply Kept.drewN | apply Kept.drew) | exact HK.out)⟩
        ·rw [if_neg c30] at H
         exact absurd H (by simp)
       ·rw [if_neg c27] at H
        exact absurd H (by simp)
      ·rw [if_neg c26] at H
       exact absurd H (by simp)
     ·rw [if_neg c25] at H
      exact absurd H (by simp)
    ·rw [if_neg c24] at H
     exact absurd H (by simp)


def spec_fiPut.f (k:Nat) (a0_0:Int) (a0_1:Int) (l0_2:List Int) (l0_3:List Int) (a1:Bool) (a2:Int) (a3:Int):Option (Int × Int × List Int × List Int):=(spec_fiOwn.f a0_0 a0_1 l0_2 l0_3).bind fun bt365 => ((spec_fiEdge.f a0_0 a0_1 l0_2 l0_3 a1 a2 a3).bind fun bt374 => ((spec_fiHas.f k a0_0 a0_1 l0_2 l0_3 a1 a2 a3).bind fun t376 => (if t376 = true then (some (bt365.1,bt365.2.1,bt365.2.2.1,bt365.2.2.2)) else (if a1 = true then ((spec_l1Put.f k bt365.2.2.2 bt374.1).bind fun t377 => (some (bt365.1,bt365.2.1,bt365.2.2.1,t377))) else ((spec_l1Put.f k bt365.2.2.1 bt374.1).bind fun t380 => (some (bt365.1,bt365.2.1,t380,bt365.2.2.2)))))))
theorem spec_fiPut.mono:∀ a0 a1 a2 a3 a4 a5 a6 k,LeO (spec_fiPut.f k a0 a1 a2 a3 a4 a5 a6) (spec_fiPut.f (k + 1) a0 a1 a2 a3 a4 a5 a6):=by
 intro a0 a1 a2 a3 a4 a5 a6 k
 unfold spec_fiPut.f
 repeat' first
   | (with_reducible exact spec_fiHas.mono _ _ _ _ _ _ _ _)
   | (with_reducible exact spec_l1Put.mono _ _ _)
   | (with_reducible exact LeO.refl _)
   | (with_reducible exact LeO.none _)
   | (with_reducible refine LeO.ite ?_ ?_)
   | (with_reducible refine LeO.bind ?_ (fun _ => ?_))
   | exact spec_fiHas.mono _ _ _ _ _ _ _ _
   | exact spec_l1Put.mono _ _ _
   | exact LeO.none _
   | refine LeO.ite ?_ ?_
   | refine LeO.bind ?_ (fun _ => ?_)
set_option maxHeartbeats 8000000 in
set_option maxRecDepth 100000 in
theorem spec_fiPut.calls (k:Nat) (a0_0:Int) (a0_1:Int) (A0_2:Option Addr) (c0_2:Nat) (l0_2:List Int) (A0_3:Option Addr) (c0_3:Nat) (l0_3:List Int) (a1:Bool) (a2:Int) (a3:Int) (r1:Int) (r2:Int) (r3:List Int) (r4:List Int) (w:World) (hr0_2:Kd.C (Kd.int .i64) w A0_2 l0_2.length l0_2) (hc0_2:l0_2.length ≤ c0_2) (hr0_3:Kd.C (Kd.int .i64) w A0_3 l0_3.length l0_3) (hc0_3:l0_3.length ≤ c0_3) (h:spec_fiPut.f k a0_0 a0_1 l0_2 l0_3 a1 a2 a3 = some (r1,r2,r3,r4)) :
  Calls Tryd.prog 47 #[.agg #[.int .i64 a0_0,.int .i64 a0_1,.slice A0_2 l0_2.length c0_2,.slice A0_3 l0_3.length c0_3],.bool a1,.int .i64 a2,.int .i64 a3] w fun e w' => ∃ v2_ v3_:Value,e = .returned (.agg #[.int .i64 r1,.int .i64 r2,v2_,v3_]) ∧ Kd.R (Kd.int .i64) 3 w' w.heap.size (fun k_ => some k_ ≠ (v3_:Value).ownBlock) v2_ r3 ∧ Kd.R (Kd.int .i64) 3 w' w.heap.size (fun k_ => some k_ ≠ (v2_:Value).ownBlock) v3_ r4 ∧ Below w.heap.size w w':=by
 have hu26:=Tryd.underlying26
 have HR0_2:=Aside0.mk hr0_2
 have HC0_2:=Aside0.mk hc0_2
 clear hr0_2 hc0_2
 have HR0_3:=Aside0.mk hr0_3
 have HC0_3:=Aside0.mk hc0_3
 clear hr0_3 hc0_3
 have HB:=Aside0.mk (Below.refl w.heap.size w)
 have H:((spec_fiOwn.f a0_0 a0_1 l0_2 l0_3).bind fun bt365 => ((spec_fiEdge.f a0_0 a0_1 l0_2 l0_3 a1 a2 a3).bind fun bt374 => ((spec_fiHas.f k a0_0 a0_1 l0_2 l0_3 a1 a2 a3).bind fun t376 => (if t376 = true then (some (bt365.1,bt365.2.1,bt365.2.2.1,bt365.2.2.2)) else (if a1 = true then ((spec_l1Put.f k bt365.2.2.2 bt374.1).bind fun t377 => (some (bt365.1,bt365.2.1,bt365.2.2.1,t377))) else ((spec_l1Put.f k bt365.2.2.1 bt374.1).bind fun t380 => (some (bt365.1,bt365.2.1,t380,bt365.2.2.2)))))))) = some (r1,r2,r3,r4):=h
 clear h
 replace H:=Option.bind_eq_some_iff.mp H
 obtain ⟨⟨t365,t366,t367,t370⟩,A50,H⟩:=H
 replace H:((spec_fiEdge.f a0_0 a0_1 l0_2 l0_3 a1 a2 a3).bind fun bt374 => ((spec_fiHas.f k a0_0 a0_1 l0_2 l0_3 a1 a2 a3).bind fun t376 => (if t376 = true then (some (t365,t366,t367,t370)) else (if a1 = true then ((spec_l1Put.f k t370 bt374.1).bind fun t377 => (some (t365,t366,t367,t377))) else ((spec_l1Put.f k t367 bt374.1).bind fun t380 => (some (t365,t366,t380,t370))))))) = some (r1,r2,r3,r4):=H
 have A5:=Aside0.mk A50
 clear A50
 replace H:=Option.bind_eq_some_iff.mp H
 obtain ⟨⟨t374,t375⟩,A60,H⟩:=H
 replace H:((spec_fiHas.f k a0_0 a0_1 l0_2 l0_3 a1 a2 a3).bind fun t376 => (if t376 = true then (some (t365,t366,t367,t370)) else (if a1 = true then ((spec_l1Put.f k t370 t374).bind fun t377 => (some (t365,t366,t367,t377))) else ((spec_l1Put.f k t367 t374).bind fun t380 => (some (t365,t366,t380,t370)))))) = some (r1,r2,r3,r4):=H
 have A6:=Aside0.mk A60
 clear A60
 replace H:=Option.bind_eq_some_iff.mp H
 obtain ⟨t376,A70,H⟩:=H
 replace H:(if t376 = true then (some (t365,t366,t367,t370)) else (if a1 = true then ((spec_l1Put.f k t370 t374).bind fun t377 => (some (t365,t366,t367,t377))) else ((spec_l1Put.f k t367 t374).bind fun t380 => (some (t365,t366,t380,t370))))) = some (r1,r2,r3,r4):=H
 have A7:=Aside0.mk A70
 clear A70
 by_cases c8:t376 = true
 ·subst c8
  have H1:(some (t365,t366,t367,t370)) = some (r1,r2,r3,r4):=by rw [if_pos rfl] at H; exact H
  clear H
  have H:=H1
  clear H1
  simp only [Option.some.injEq,Prod.mk.injEq] at H
  obtain ⟨rfl,rfl,rfl,rfl⟩:=H
  go_enter Tryd.func47,Tryd.ntmps47
  go_wp2_with (first | ((with_reducible refine gate_dst (N:=4) rfl ?_); refine boxE_ (N:=4) (cs:=#[.int .i64 a0_0,.int .i64 a0_1,.slice A0_2 l0_2.length c0_2,.slice A0_3 l0_3.length c0_3]) (t:=26) ?_; intro gb363 hg w9 hbox hb; have n0_:=Aside0.mk (below_step (bl0_ HB.out) hb); have n1_:=Aside0.mk (hbox); have n2_:=Aside0.mk ((bs0_ hg HB.out:w.heap.size ≤ gb363)); have n3_:=Aside0.mk ((bs0_ hg HB.out:w.heap.size ≤ gb363)); clear HB; have HB:=n0_; have BK363:=n1_; have GW363:=n2_; have GE363:=n3_; clear n0_ n1_ n2_ n3_; clear hb hbox hg) | ((with_reducible refine gate_dst (N:=8) rfl ?_); refine boxE_ (N:=8) (cs:=#[.int .i64 0,.int .i64 0,.slice none 0 0,.slice none 0 0]) (t:=26) ?_; intro gb364 hg w10 hbox hb; have n0_:=Aside0.mk (bb_ BK363.out hb); have n1_:=Aside0.mk (below_step (bl1_ HB.out GE363.out) hb); have n2_:=Aside0.mk (hbox); have n3_:=Aside0.mk ((bs1_ hg HB.out GE363.out:w.heap.size ≤ gb364)); have n4_:=Aside0.mk ((bs1_ hg HB.out GE363.out:w.heap.size ≤ gb364)); have n5_:=Aside0.mk ((nl_ hg BK363.out:gb363 ≠ gb364)); have n6_:=Aside0.mk ((ng_ hg BK363.out:gb364 ≠ gb363)); clear BK363; clear HB; have BK363:=n0_; have HB:=n1_; have BK364:=n2_; have GW364:=n3_; have GE364:=n4_; have NB363_364:=n5_; have NB364_363:=n6_; clear n0_ n1_ n2_ n3_ n4_ n5_ n6_; clear hb hbox hg; have hnb11:=NB363_364.out; have hnc11:=NB364_363.out; have hcz12_0:w10.cell? ⟨gb363,0,none⟩ = some (.int .i64 a0_0):=(blk_cell BK363.out 0).trans rfl; have hcz12_1:w10.cell? ⟨gb363,1,none⟩ = some (.int .i64 a0_1):=(blk_cell BK363.out 1).trans rfl; have hcz12_2:w10.cell? ⟨gb363,2,none⟩ = some (.slice A0_2 l0_2.length c0_2):=(blk_cell BK363.out 2).trans rfl; have hcz12_3:w10.cell? ⟨gb363,3,none⟩ = some (.slice A0_3 l0_3.length c0_3):=(blk_cell BK363.out 3).trans rfl; have hfz12_0:=blk_frozen BK363.out 0; have hfz12_1:=blk_frozen BK363.out 1; have hfz12_2:=blk_frozen BK363.out 2; have hfz12_3:=blk_frozen BK363.out 3) | ((with_reducible refine gate_callee (f:=72) rfl ?_); refine goesL_ (some 13) rfl rfl Tryd.func72 (by kernel_rfl) rfl #[.agg #[.int .i64 a0_0,.int .i64 a0_1,.slice A0_2 l0_2.length c0_2,.slice A0_3 l0_3.length c0_3]] rfl ob_ ?_; (with_reducible refine (spec_fiOwn.calls a0_0 a0_1 _ _ l0_2 _ _ l0_3 t365 t366 t367 t370 _ ?side1 ?side2 ?side3 ?side4 A5.out).mono ?_); (case side1 => exact kc_ (Kd.C_below HR0_2.out HB.out)); (case side2 => exact HC0_2.out); (case side3 => exact kc_ (Kd.C_below HR0_3.out HB.out)); (case side4 => exact HC0_3.out); rintro e w13 ⟨v368,v371,rfl,ho0,ho1,hb⟩; refine ⟨_,rfl,?_⟩; have n0_:=Aside0.mk (Kd.R_lower ho0 (below_size (bl2_ HB.out GE363.out GE364.out))); have n1_:=Aside0.mk (Kd.R_lower ho1 (below_size (bl2_ HB.out GE363.out GE364.out))); have n2_:=Aside0.mk (bb_ BK363.out hb); have n3_:=Aside0.mk (bb_ BK364.out hb); have n4_:=Aside0.mk (below_step (bl2_ HB.out GE363.out GE364.out) hb); clear BK363; clear BK364; clear HB; have HO369:=n0_; have HO372:=n1_; have BK363:=n2_; have BK364:=n3_; have HB:=n4_; clear n0_ n1_ n2_ n3_ n4_; (try clear hb); (try clear hb2); (try clear hk); (try clear hi); (try clear ho0); (try clear ho1)) | ((with_reducible refine gate_dst (N:=9) rfl ?_); refine boxE_ (N:=9) (cs:=#[.int .i64 0,.int .i64 0,.slice none 0 0,.slice none 0 0]) (t:=26) ?_; intro gb373 hg w14 hbox hb; have n0_:=Aside0.mk (Kd.R_below (kr_ HO369.out) hb); have n1_:=Aside0.mk (Kd.R_below (kr_ HO372.out) hb); have n2_:=Aside0.mk (bb_ BK363.out hb); have n3_:=Aside0.mk (bb_ BK364.out hb); have n4_:=Aside0.mk (below_step (bl2_ HB.out GE363.out GE364.out) hb); have n5_:=Aside0.mk (hbox); have n6_:=Aside0.mk ((bs2_ hg HB.out GE363.out GE364.out:w.heap.size ≤ gb373)); have n7_:=Aside0.mk ((bs2_ hg HB.out GE363.out GE364.out:w.heap.size ≤ gb373)); have n8_:=Aside0.mk ((nl_ hg BK363.out:gb363 ≠ gb373)); have n9_:=Aside0.mk ((ng_ hg BK363.out:gb373 ≠ gb363)); have n10_:=Aside0.mk ((nl_ hg BK364.out:gb364 ≠ gb373)); have n11_:=Aside0.mk ((ng_ hg BK364.out:gb373 ≠ gb364)); clear HO369; clear HO372; clear BK363; clear BK364; clear HB; have HO369:=n0_; have HO372:=n1_; have BK363:=n2_; have BK364:=n3_; have HB:=n4_; have BK373:=n5_; have GW373:=n6_; have GE373:=n7_; have NB363_373:=n8_; have NB373_363:=n9_; have NB364_373:=n10_; have NB373_364:=n11_; clear n0_ n1_ n2_ n3_ n4_ n5_ n6_ n7_ n8_ n9_ n10_ n11_; clear hb hbox hg; have hnb15:=NB373_363.out; have hnc15:=NB363_373.out; have hnb16:=NB373_364.out; have hnc16:=NB364_373.out; have hcz17_0:w14.cell? ⟨gb373,0,none⟩ = some (.int .i64 0):=(blk_cell BK373.out 0).trans rfl; have hcz17_1:w14.cell? ⟨gb373,1,none⟩ = some (.int .i64 0):=(blk_cell BK373.out 1).trans rfl; have hcz17_2:w14.cell? ⟨gb373,2,none⟩ = some (.slice none 0 0):=(blk_cell BK373.out 2).trans rfl; have hcz17_3:w14.cell? ⟨gb373,3,none⟩ = some (.slice none 0 0):=(blk_cell BK373.out 3).trans rfl; have hfz17_0:=blk_frozen BK373.out 0; have hfz17_1:=blk_frozen BK373.out 1; have hfz17_2:=blk_frozen BK373.out 2; have hfz17_3:=blk_frozen BK373.out 3; obtain ⟨Ao18,co18,eo18⟩:=Kd.R_slice HO369.out; subst eo18; obtain ⟨Ao19,co19,eo19⟩:=Kd.R_slice HO372.out; subst eo19; have hcz20_0:w14.cell? ⟨gb363,0,none⟩ = some (.int .i64 a0_0):=(blk_cell BK363.out 0).trans rfl; have hcz20_1:w14.cell? ⟨gb363,1,none⟩ = some (.int .i64 a0_1):=(blk_cell BK363.out 1).trans rfl; have hcz20_2:w14.cell? ⟨gb363,2,none⟩ = some (.slice A0_2 l0_2.length c0_2):=(blk_cell BK363.out 2).trans rfl; have hcz20_3:w14.cell? ⟨gb363,3,none⟩ = some (.slice A0_3 l0_3.length c0_3):=(blk_cell BK363.out 3).trans rfl; have hfz20_0:=blk_frozen BK363.out 0; have hfz20_1:=blk_frozen BK363.out 1; have hfz20_2:=blk_frozen BK363.out 2; have hfz20_3:=blk_frozen BK363.out 3) | ((with_reducible refine gate_callee (f:=73) rfl ?_); refine goesL_ (some 19) rfl rfl Tryd.func73 (by kernel_rfl) rfl #[.agg #[.int .i64 a0_0,.int .i64 a0_1,.slice A0_2 l0_2.length c0_2,.slice A0_3 l0_3.length c0_3],.bool a1,.int .i64 a2,.int .i64 a3] rfl ob_ ?_; (with_reducible refine (spec_fiEdge.calls a0_0 a0_1 _ _ l0_2 _ _ l0_3 a1 a2 a3 t374 t375 _ ?side1 ?side2 ?side3 ?side4 A6.out).mono ?_); (case side1 => exact Kd.C_below HR0_2.out (bl3_ HB.out GE363.out GE364.out GE373.out)); (case side2 => exact HC0_2.out); (case side3 => exact Kd.C_below HR0_3.out (bl3_ HB.out GE363.out GE364.out GE373.out)); (case side4 => exact HC0_3.out); rintro e w21 ⟨rfl,hb⟩; refine ⟨_,rfl,?_⟩; have n0_:=Aside0.mk (Kd.R_below (by (with_reducible repeat (first | apply Kd.R_alloc | apply Kd.R_drewN | apply Kd.R_drew)); exact (Kd.R_mono (Kd.R_far (p:=⟨gb373,3,none⟩) (Kd.R_far (p:=⟨gb373,2,none⟩) (Kd.R_far (p:=⟨gb373,1,none⟩) (Kd.R_far (p:=⟨gb373,0,none⟩) (Kd.R_types HO369.out BK373.out (by decide)) (fun _ hk => hk.2) (.int .i64 t365)) (fun _ hk => hk.2) (.int .i64 t366)) (fun _ hk => hk.2) (.slice Ao18 t367.length co18)) (fun _ hk => hk.2) (.slice Ao19 t370.length co19)) (fun _ h_ => h_.1))) hb); have n1_:=Aside0.mk (Kd.R_below (by (with_reducible repeat (first | apply Kd.R_alloc | apply Kd.R_drewN | apply Kd.R_drew)); exact (Kd.R_mono (Kd.R_far (p:=⟨gb373,3,none⟩) (Kd.R_far (p:=⟨gb373,2,none⟩) (Kd.R_far (p:=⟨gb373,1,none⟩) (Kd.R_far (p:=⟨gb373,0,none⟩) (Kd.R_types HO372.out BK373.out (by decide)) (fun _ hk => hk.2) (.int .i64 t365)) (fun _ hk => hk.2) (.int .i64 t366)) (fun _ hk => hk.2) (.slice Ao18 t367.length co18)) (fun _ hk => hk.2) (.slice Ao19 t370.length co19)) (fun _ h_ => h_.1))) hb); have n2_:=Aside0.mk (blk_below (g:=gb363) (o:=.cells #[.int .i64 a0_0,.int .i64 a0_1,.slice A0_2 l0_2.length c0_2,.slice A0_3 l0_3.length c0_3] 26 (0,0)) (bf4_ NB363_373.out NB363_373.out NB363_373.out NB363_373.out BK363.out) hb); have n3_:=Aside0.mk (blk_below (g:=gb364) (o:=.cells #[.int .i64 0,.int .i64 0,.slice none 0 0,.slice none 0 0] 26 (0,0)) (bf4_ NB364_373.out NB364_373.out NB364_373.out NB364_373.out BK364.out) hb); have n4_:=Aside0.mk (blk_below (g:=gb373) (o:=.cells #[.int .i64 t365,.int .i64 t366,.slice Ao18 t367.length co18,.slice Ao19 t370.length co19] 26 (0,0)) (by (with_reducible repeat (first | refine blk_drewN ?_ _ | refine blk_drew ?_ | refine blk_alloc ?_ _)); refine blk_put (cs:=#[.int .i64 t365,.int .i64 t366,.slice Ao18 t367.length co18,.slice none 0 0]) ?_ 3 _ rfl; (with_reducible repeat (first | refine blk_drewN ?_ _ | refine blk_drew ?_ | refine blk_alloc ?_ _)); refine blk_put (cs:=#[.int .i64 t365,.int .i64 t366,.slice none 0 0,.slice none 0 0]) ?_ 2 _ rfl; (with_reducible repeat (first | refine blk_drewN ?_ _ | refine blk_drew ?_ | refine blk_alloc ?_ _)); refine blk_put (cs:=#[.int .i64 t365,.int .i64 0,.slice none 0 0,.slice none 0 0]) ?_ 1 _ rfl; (with_reducible repeat (first | refine blk_drewN ?_ _ | refine blk_drew ?_ | refine blk_alloc ?_ _)); refine blk_put (cs:=#[.int .i64 0,.int .i64 0,.slice none 0 0,.slice none 0 0]) ?_ 0 _ rfl; (with_reducible repeat (first | refine blk_drewN ?_ _ | refine blk_drew ?_ | refine blk_alloc ?_ _)); exact BK373.out) hb); have n5_:=Aside0.mk (below_step (bl3_ HB.out GE363.out GE364.out GE373.out) hb); clear HO369; clear HO372; clear BK363; clear BK364; clear BK373; clear HB; have HO369:=n0_; have HO372:=n1_; have BK363:=n2_; have BK364:=n3_; have BK373:=n4_; have HB:=n5_; clear n0_ n1_ n2_ n3_ n4_ n5_; (try clear hb); (try clear hb2); (try clear hk); (try clear hi); have hcz22_0:w21.cell? ⟨gb363,0,none⟩ = some (.int .i64 a0_0):=(blk_cell BK363.out 0).trans rfl; have hcz22_1:w21.cell? ⟨gb363,1,none⟩ = some (.int .i64 a0_1):=(blk_cell BK363.out 1).trans rfl; have hcz22_2:w21.cell? ⟨gb363,2,none⟩ = some (.slice A0_2 l0_2.length c0_2):=(blk_cell BK363.out 2).trans rfl; have hcz22_3:w21.cell? ⟨gb363,3,none⟩ = some (.slice A0_3 l0_3.length c0_3):=(blk_cell BK363.out 3).trans rfl; have hfz22_0:=blk_frozen BK363.out 0; have hfz22_1:=blk_frozen BK363.out 1; have hfz22_2:=blk_frozen BK363.out 2; have hfz22_3:=blk_frozen BK363.out 3) | ((with_reducible refine gate_callee (f:=52) rfl ?_); refine goesL_ (some 32) rfl rfl Tryd.func52 (by kernel_rfl) rfl #[.agg #[.int .i64 a0_0,.int .i64 a0_1,.slice A0_2 l0_2.length c0_2,.slice A0_3 l0_3.length c0_3],.bool a1,.int .i64 a2,.int .i64 a3] rfl ob_ ?_; (with_reducible refine (spec_fiHas.calls k a0_0 a0_1 _ _ l0_2 _ _ l0_3 a1 a2 a3 true _ ?side1 ?side2 ?side3 ?side4 A7.out).mono ?_); (case side1 => exact kc_ (Kd.C_below HR0_2.out HB.out)); (case side2 => exact HC0_2.out); (case side3 => exact kc_ (Kd.C_below HR0_3.out HB.out)); (case side4 => exact HC0_3.out); rintro e w23 ⟨rfl,hb⟩; refine ⟨_,rfl,?_⟩; have n0_:=Aside0.mk (Kd.R_below (kr_ HO369.out) hb); have n1_:=Aside0.mk (Kd.R_below (kr_ HO372.out) hb); have n2_:=Aside0.mk (bb_ BK363.out hb); have n3_:=Aside0.mk (bb_ BK364.out hb); have n4_:=Aside0.mk (bb_ BK373.out hb); have n5_:=Aside0.mk (below_step (bl3_ HB.out GE363.out GE364.out GE373.out) hb); clear HO369; clear HO372; clear BK363; clear BK364; clear BK373; clear HB; have HO369:=n0_; have HO372:=n1_; have BK363:=n2_; have BK364:=n3_; have BK373:=n4_; have HB:=n5_; clear n0_ n1_ n2_ n3_ n4_ n5_; (try clear hb); (try clear hb2); (try clear hk); (try clear hi); have hcz24_0:w23.cell? ⟨gb373,0,none⟩ = some (.int .i64 t365):=(blk_cell BK373.out 0).trans rfl; have hcz24_1:w23.cell? ⟨gb373,1,none⟩ = some (.int .i64 t366):=(blk_cell BK373.out 1).trans rfl; have hcz24_2:w23.cell? ⟨gb373,2,none⟩ = some (.slice Ao18 t367.length co18):=(blk_cell BK373.out 2).trans rfl; have hcz24_3:w23.cell? ⟨gb373,3,none⟩ = some (.slice Ao19 t370.length co19):=(blk_cell BK373.out 3).trans rfl; have hfz24_0:=blk_frozen BK373.out 0; have hfz24_1:=blk_frozen BK373.out 1; have hfz24_2:=blk_frozen BK373.out 2; have hfz24_3:=blk_frozen BK373.out 3; have hcz25_0:w23.cell? ⟨gb364,0,none⟩ = some (.int .i64 0):=(blk_cell BK364.out 0).trans rfl; have hcz25_1:w23.cell? ⟨gb364,1,none⟩ = some (.int .i64 0):=(blk_cell BK364.out 1).trans rfl; have hcz25_2:w23.cell? ⟨gb364,2,none⟩ = some (.slice none 0 0):=(blk_cell BK364.out 2).trans rfl; have hcz25_3:w23.cell? ⟨gb364,3,none⟩ = some (.slice none 0 0):=(blk_cell BK364.out 3).trans rfl; have hfz25_0:=blk_frozen BK364.out 0; have hfz25_1:=blk_frozen BK364.out 1; have hfz25_2:=blk_frozen BK364.out 2; have hfz25_3:=blk_frozen BK364.out 3))
  refine bodyPost_ret (results_cell_row rfl _ _ gb364 26 #[.int .i64 t365,.int .i64 t366,.slice Ao18 t367.length co18,.slice Ao19 t370.length co19] (0,0) _ rfl (by (with_reducible repeat (first | refine blk_drewN ?_ _ | refine blk_drew ?_ | refine blk_alloc ?_ _)); refine blk_put (cs:=#[.int .i64 t365,.int .i64 t366,.slice Ao18 t367.length co18,.slice none 0 0]) ?_ 3 _ rfl; (with_reducible repeat (first | refine blk_drewN ?_ _ | refine blk_drew ?_ | refine blk_alloc ?_ _)); refine blk_put (cs:=#[.int .i64 t365,.int .i64 t366,.slice none 0 0,.slice none 0 0]) ?_ 2 _ rfl; (with_reducible repeat (first | refine blk_drewN ?_ _ | refine blk_drew ?_ | refine blk_alloc ?_ _)); refine blk_put (cs:=#[.int .i64 t365,.int .i64 0,.slice none 0 0,.slice none 0 0]) ?_ 1 _ rfl; (with_reducible repeat (first | refine blk_drewN ?_ _ | refine blk_drew ?_ | refine blk_alloc ?_ _)); refine blk_put (cs:=#[.int .i64 0,.int .i64 0,.slice none 0 0,.slice none 0 0]) ?_ 0 _ rfl; (with_reducible repeat (first | refine blk_drewN ?_ _ | refine blk_drew ?_ | refine blk_alloc ?_ _)); exact BK364.out) Tryd.underlying26 rfl (by kernel_rfl)) rfl ?_
  exact ⟨_,_,er_,by (with_reducible repeat (first | apply Kd.R_alloc | apply Kd.R_drewN | apply Kd.R_drew)); exact Kd.R_mono (Kd.R_far (p:=⟨gb364,3,none⟩) (Kd.R_far (p:=⟨gb364,2,none⟩) (Kd.R_far (p:=⟨gb364,1,none⟩) (Kd.R_far (p:=⟨gb364,0,none⟩) (Kd.R_types HO369.out BK364.out (by decide)) (fun _ hk => hk.2) (.int .i64 t365)) (fun _ hk => hk.2) (.int .i64 t366)) (fun _ hk => hk.2) (.slice Ao18 t367.length co18)) (fun _ hk => hk.2) (.slice Ao19 t370.length co19)) (fun _ hk => hk.1),by (with_reducible repeat (first | apply Kd.R_alloc | apply Kd.R_drewN | apply Kd.R_drew)); exact Kd.R_mono (Kd.R_far (p:=⟨gb364,3,none⟩) (Kd.R_far (p:=⟨gb364,2,none⟩) (Kd.R_far (p:=⟨gb364,1,none⟩) (Kd.R_far (p:=⟨gb364,0,none⟩) (Kd.R_types HO372.out BK364.out (by decide)) (fun _ hk => hk.2) (.int .i64 t365)) (fun _ hk => hk.2) (.int .i64 t366)) (fun _ hk => hk.2) (.slice Ao18 t367.length co18)) (fun _ hk => hk.2) (.slice Ao19 t370.length co19)) (fun _ hk => hk.1),bl3_ HB.out GE363.out GE364.out GE373.out⟩
 ·replace c8:=Bool.eq_false_iff.mpr c8
  subst c8
  have H1:(if a1 = true then ((spec_l1Put.f k t370 t374).bind fun t377 => (some (t365,t366,t367,t377))) else ((spec_l1Put.f k t367 t374).bind fun t380 => (some (t365,t366,t380,t370)))) = some (r1,r2,r3,r4):=by rw [if_neg (show ¬ (false = true) by decide)] at H; exact H
  clear H
  have H:=H1
  clear H1
  by_cases c26:a1 = true
  ·subst c26
   have H1:((spec_l1Put.f k t370 t374).bind fun t377 => (some (t365,t366,t367,t377))) = some (r1,r2,r3,r4):=by rw [if_pos rfl] at H; exact H
   clear H
   have H:=H1
   clear H1
   replace H:=Option.bind_eq_some_iff.mp H
   obtain ⟨t377,A270,H⟩:=H
   replace H:(some (t365,t366,t367,t377)) = some (r1,r2,r3,r4):=H
   have A27:=Aside0.mk A270
   clear A270
   simp only [Option.some.injEq,Prod.mk.injEq] at H
   obtain ⟨rfl,rfl,rfl,rfl⟩:=H
   go_enter Tryd.func47,Tryd.ntmps47
   go_wp2_with (first | ((with_reducible refine gate_dst (N:=4) rfl ?_); refine boxE_ (N:=4) (cs:=#[.int .i64 a0_0,.int .i64 a0_1,.slice A0_2 l0_2.length c0_2,.slice A0_3 l0_3.length c0_3]) (t:=26) ?_; intro gb363 hg w28 hbox hb; have n0_:=Aside0.mk (below_step (bl0_ HB.out) hb); have n1_:=Aside0.mk (hbox); have n2_:=Aside0.mk ((bs0_ hg HB.out:w.heap.size ≤ gb363)); have n3_:=Aside0.mk ((bs0_ hg HB.out:w.heap.size ≤ gb363)); clear HB; have HB:=n0_; have BK363:=n1_; have GW363:=n2_; have GE363:=n3_; clear n0_ n1_ n2_ n3_; clear hb hbox hg) | ((with_reducible refine gate_dst (N:=8) rfl ?_); refine boxE_ (N:=8) (cs:=#[.int .i64 0,.int .i64 0,.slice none 0 0,.slice none 0 0]) (t:=26) ?_; intro gb364 hg w29 hbox hb; have n0_:=Aside0.mk (bb_ BK363.out hb); have n1_:=Aside0.mk (below_step (bl1_ HB.out GE363.out) hb); have n2_:=Aside0.mk (hbox); have n3_:=Aside0.mk ((bs1_ hg HB.out GE363.out:w.heap.size ≤ gb364)); have n4_:=Aside0.mk ((bs1_ hg HB.out GE363.out:w.heap.size ≤ gb364)); have n5_:=Aside0.mk ((nl_ hg BK363.out:gb363 ≠ gb364)); have n6_:=Aside0.mk ((ng_ hg BK363.out:gb364 ≠ gb363)); clear BK363; clear HB; have BK363:=n0_; have HB:=n1_; have BK364:=n2_; have GW364:=n3_; have GE364:=n4_; have NB363_364:=n5_; have NB364_363:=n6_; clear n0_ n1_ n2_ n3_ n4_ n5_ n6_; clear hb hbox hg; have hnb30:=NB363_364.out; have hnc30:=NB364_363.out; have hcz31_0:w29.cell? ⟨gb363,0,none⟩ = some (.int .i64 a0_0):=(blk_cell BK363.out 0).trans rfl; have hcz31_1:w29.cell? ⟨gb363,1,none⟩ = some (.int .i64 a0_1):=(blk_cell BK363.out 1).trans rfl; have hcz31_2:w29.cell? ⟨gb363,2,none⟩ = some (.slice A0_2 l0_2.length c0_2):=(blk_cell BK363.out 2).trans rfl; have hcz31_3:w29.cell? ⟨gb363,3,none⟩ = some (.slice A0_3 l0_3.length c0_3):=(blk_cell BK363.out 3).trans rfl; have hfz31_0:=blk_frozen BK363.out 0; have hfz31_1:=blk_frozen BK363.out 1; have hfz31_2:=blk_frozen BK363.out 2; have hfz31_3:=blk_frozen BK363.out 3) | ((with_reducible refine gate_callee (f:=72) rfl ?_); refine goesL_ (some 13) rfl rfl Tryd.func72 (by kernel_rfl) rfl #[.agg #[.int .i64 a0_0,.int .i64 a0_1,.slice A0_2 l0_2.length c0_2,.slice A0_3 l0_3.length c0_3]] rfl ob_ ?_; (with_reducible refine (spec_fiOwn.calls a0_0 a0_1 _ _ l0_2 _ _ l0_3 t365 t366 t367 t370 _ ?side1 ?side2 ?side3 ?side4 A5.out).mono ?_); (case side1 => exact kc_ (Kd.C_below HR0_2.out HB.out)); (case side2 => exact HC0_2.out); (case side3 => exact kc_ (Kd.C_below HR0_3.out HB.out)); (case side4 => exact HC0_3.out); rintro e w32 ⟨v368,v371,rfl,ho0,ho1,hb⟩; refine ⟨_,rfl,?_⟩; have n0_:=Aside0.mk (Kd.R_lower ho0 (below_size (bl2_ HB.out GE363.out GE364.out))); have n1_:=Aside0.mk (Kd.R_lower ho1 (below_size (bl2_ HB.out GE363.out GE364.out))); have n2_:=Aside0.mk (bb_ BK363.out hb); have n3_:=Aside0.mk (bb_ BK364.out hb); have n4_:=Aside0.mk (below_step (bl2_ HB.out GE363.out GE364.out) hb); clear BK363; clear BK364; clear HB; have HO369:=n0_; have HO372:=n1_; have BK363:=n2_; have BK364:=n3_; have HB:=n4_; clear n0_ n1_ n2_ n3_ n4_; (try clear hb); (try clear hb2); (try clear hk); (try clear hi); (try clear ho0); (try clear ho1)) | ((with_reducible refine gate_dst (N:=9) rfl ?_); refine boxE_ (N:=9) (cs:=#[.int .i64 0,.int .i64 0,.slice none 0 0,.slice none 0 0]) (t:=26) ?_; intro gb373 hg w33 hbox hb; have n0_:=Aside0.mk (Kd.R_below (kr_ HO369.out) hb); have n1_:=Aside0.mk (Kd.R_below (kr_ HO372.out) hb); have n2_:=Aside0.mk (bb_ BK363.out hb); have n3_:=Aside0.mk (bb_ BK364.out hb); have n4_:=Aside0.mk (below_step (bl2_ HB.out GE363.out GE364.out) hb); have n5_:=Aside0.mk (hbox); have n6_:=Aside0.mk ((bs2_ hg HB.out GE363.out GE364.out:w.heap.size ≤ gb373)); have n7_:=Aside0.mk ((bs2_ hg HB.out GE363.out GE364.out:w.heap.size ≤ gb373)); have n8_:=Aside0.mk ((nl_ hg BK363.out:gb363 ≠ gb373)); have n9_:=Aside0.mk ((ng_ hg BK363.out:gb373 ≠ gb363)); have n10_:=Aside0.mk ((nl_ hg BK364.out:gb364 ≠ gb373)); have n11_:=Aside0.mk ((ng_ hg BK364.out:gb373 ≠ gb364)); clear HO369; clear HO372; clear BK363; clear BK364; clear HB; have HO369:=n0_; have HO372:=n1_; have BK363:=n2_; have BK364:=n3_; have HB:=n4_; have BK373:=n5_; have GW373:=n6_; have GE373:=n7_; have NB363_373:=n8_; have NB373_363:=n9_; have NB364_373:=n10_; have NB373_364:=n11_; clear n0_ n1_ n2_ n3_ n4_ n5_ n6_ n7_ n8_ n9_ n10_ n11_; clear hb hbox hg; have hnb34:=NB373_363.out; have hnc34:=NB363_373.out; have hnb35:=NB373_364.out; have hnc35:=NB364_373.out; have hcz36_0:w33.cell? ⟨gb373,0,none⟩ = some (.int .i64 0):=(blk_cell BK373.out 0).trans rfl; have hcz36_1:w33.cell? ⟨gb373,1,none⟩ = some (.int .i64 0):=(blk_cell BK373.out 1).trans rfl; have hcz36_2:w33.cell? ⟨gb373,2,none⟩ = some (.slice none 0 0):=(blk_cell BK373.out 2).trans rfl; have hcz36_3:w33.cell? ⟨gb373,3,none⟩ = some (.slice none 0 0):=(blk_cell BK373.out 3).trans rfl; have hfz36_0:=blk_frozen BK373.out 0; have hfz36_1:=blk_frozen BK373.out 1; have hfz36_2:=blk_frozen BK373.out 2; have hfz36_3:=blk_frozen BK373.out 3; obtain ⟨Ao37,co37,eo37⟩:=Kd.R_slice HO369.out; subst eo37; obtain ⟨Ao38,co38,eo38⟩:=Kd.R_slice HO372.out; subst eo38; have hcz39_0:w33.cell? ⟨gb363,0,none⟩ = some (.int .i64 a0_0):=(blk_cell BK363.out 0).trans rfl; have hcz39_1:w33.cell? ⟨gb363,1,none⟩ = some (.int .i64 a0_1):=(blk_cell BK363.out 1).trans rfl; have hcz39_2:w33.cell? ⟨gb363,2,none⟩ = some (.slice A0_2 l0_2.length c0_2):=(blk_cell BK363.out 2).trans rfl; have hcz39_3:w33.cell? ⟨gb363,3,none⟩ = some (.slice A0_3 l0_3.length c0_3):=(blk_cell BK363.out 3).trans rfl; have hfz39_0:=blk_frozen BK363.out 0; have hfz39_1:=blk_frozen BK363.out 1; have hfz39_2:=blk_frozen BK363.out 2; have hfz39_3:=blk_frozen BK363.out 3) | ((with_reducible refine gate_callee (f:=73) rfl ?_); refine goesL_ (some 19) rfl rfl Tryd.func73 (by kernel_rfl) rfl #[.agg #[.int .i64 a0_0,.int .i64 a0_1,.slice A0_2 l0_2.length c0_2,.slice A0_3 l0_3.length c0_3],.bool true,.int .i64 a2,.int .i64 a3] rfl ob_ ?_; (with_reducible refine (spec_fiEdge.calls a0_0 a0_1 _ _ l0_2 _ _ l0_3 true a2 a3 t374 t375 _ ?side1 ?side2 ?side3 ?side4 A6.out).mono ?_); (case side1 => exact Kd.C_below HR0_2.out (bl3_ HB.out GE363.out GE364.out GE373.out)); (case side2 => exact HC0_2.out); (case side3 => exact Kd.C_below HR0_3.out (bl3_ HB.out GE363.out GE364.out GE373.out)); (case side4 => exact HC0_3.out); rintro e w40 ⟨rfl,hb⟩; refine ⟨_,rfl,?_⟩; have n0_:=Aside0.mk (Kd.R_below (by (with_reducible repeat (first | apply Kd.R_alloc | apply Kd.R_drewN | apply Kd.R_drew)); exact (Kd.R_mono (Kd.R_far (p:=⟨gb373,3,none⟩) (Kd.R_far (p:=⟨gb373,2,none⟩) (Kd.R_far (p:=⟨gb373,1,none⟩) (Kd.R_far (p:=⟨gb373,0,none⟩) (Kd.R_types HO369.out BK373.out (by decide)) (fun _ hk => hk.2) (.int .i64 t365)) (fun _ hk => hk.2) (.int .i64 t366)) (fun _ hk => hk.2) (.slice Ao37 t367.length co37)) (fun _ hk => hk.2) (.slice Ao38 t370.length co38)) (fun _ h_ => h_.1))) hb); have n1_:=Aside0.mk (Kd.R_below (by (with_reducible repeat (first | apply Kd.R_alloc | apply Kd.R_drewN | apply Kd.R_drew)); exact (Kd.R_mono (Kd.R_far (p:=⟨gb373,3,none⟩) (Kd.R_far (p:=⟨gb373,2,none⟩) (Kd.R_far (p:=⟨gb373,1,none⟩) (Kd.R_far (p:=⟨gb373,0,none⟩) (Kd.R_types HO372.out BK373.out (by decide)) (fun _ hk => hk.2) (.int .i64 t365)) (fun _ hk => hk.2) (.int .i64 t366)) (fun _ hk => hk.2) (.slice Ao37 t367.length co37)) (fun _ hk => hk.2) (.slice Ao38 t370.length co38)) (fun _ h_ => h_.1))) hb); have n2_:=Aside0.mk (blk_below (g:=gb363) (o:=.cells #[.int .i64 a0_0,.int .i64 a0_1,.slice A0_2 l0_2.length c0_2,.slice A0_3 l0_3.length c0_3] 26 (0,0)) (bf4_ NB363_373.out NB363_373.out NB363_373.out NB363_373.out BK363.out) hb); have n3_:=Aside0.mk (blk_below (g:=gb364) (o:=.cells #[.int .i64 0,.int .i64 0,.slice none 0 0,.slice none 0 0] 26 (0,0)) (bf4_ NB364_373.out NB364_373.out NB364_373.out NB364_373.out BK364.out) hb); have n4_:=Aside0.mk (blk_below (g:=gb373) (o:=.cells #[.int .i64 t365,.int .i64 t366,.slice Ao37 t367.length co37,.slice Ao38 t370.length co38] 26 (0,0)) (by (with_reducible repeat (first | refine blk_drewN ?_ _ | refine blk_drew ?_ | refine blk_alloc ?_ _)); refine blk_put (cs:=#[.int .i64 t365,.int .i64 t366,.slice Ao37 t367.length co37,.slice none 0 0]) ?_ 3 _ rfl; (with_reducible repeat (first | refine blk_drewN ?_ _ | refine blk_drew ?_ | refine blk_alloc ?_ _)); refine blk_put (cs:=#[.int .i64 t365,.int .i64 t366,.slice none 0 0,.slice none 0 0]) ?_ 2 _ rfl; (with_reducible repeat (first | refine blk_drewN ?_ _ | refine blk_drew ?_ | refine blk_alloc ?_ _)); refine blk_put (cs:=#[.int .i64 t365,.int .i64 0,.slice none 0 0,.slice none 0 0]) ?_ 1 _ rfl; (with_reducible repeat (first | refine blk_drewN ?_ _ | refine blk_drew ?_ | refine blk_alloc ?_ _)); refine blk_put (cs:=#[.int .i64 0,.int .i64 0,.slice none 0 0,.slice none 0 0]) ?_ 0 _ rfl; (with_reducible repeat (first | refine blk_drewN ?_ _ | refine blk_drew ?_ | refine blk_alloc ?_ _)); exact BK373.out) hb); have n5_:=Aside0.mk (below_step (bl3_ HB.out GE363.out GE364.out GE373.out) hb); clear HO369; clear HO372; clear BK363; clear BK364; clear BK373; clear HB; have HO369:=n0_; have HO372:=n1_; have BK363:=n2_; have BK364:=n3_; have BK373:=n4_; have HB:=n5_; clear n0_ n1_ n2_ n3_ n4_ n5_; (try clear hb); (try clear hb2); (try clear hk); (try clear hi); have hcz41_0:w40.cell? ⟨gb363,0,none⟩ = some (.int .i64 a0_0):=(blk_cell BK363.out 0).trans rfl; have hcz41_1:w40.cell? ⟨gb363,1,none⟩ = some (.int .i64 a0_1):=(blk_cell BK363.out 1).trans rfl; have hcz41_2:w40.cell? ⟨gb363,2,none⟩ = some (.slice A0_2 l0_2.length c0_2):=(blk_cell BK363.out 2).trans rfl; have hcz41_3:w40.cell? ⟨gb363,3,none⟩ = some (.slice A0_3 l0_3.length c0_3):=(blk_cell BK363.out 3).trans rfl; have hfz41_0:=blk_frozen BK363.out 0; have hfz41_1:=blk_frozen BK363.out 1; have hfz41_2:=blk_frozen BK363.out 2; have hfz41_3:=blk_frozen BK363.out 3) | ((with_reducible refine gate_callee (f:=52) rfl ?_); refine goesL_ (some 32) rfl rfl Tryd.func52 (by kernel_rfl) rfl #[.agg #[.int .i64 a0_0,.int .i64 a0_1,.slice A0_2 l0_2.length c0_2,.slice A0_3 l0_3.length c0_3],.bool true,.int .i64 a2,.int .i64 a3] rfl ob_ ?_; (with_reducible refine (spec_fiHas.calls k a0_0 a0_1 _ _ l0_2 _ _ l0_3 true a2 a3 false _ ?side1 ?side2 ?side3 ?side4 A7.out).mono ?_); (case side1 => exact kc_ (Kd.C_below HR0_2.out HB.out)); (case side2 => exact HC0_2.out); (case side3 => exact kc_ (Kd.C_below HR0_3.out HB.out)); (case side4 => exact HC0_3.out); rintro e w42 ⟨rfl,hb⟩; refine ⟨_,rfl,?_⟩; have n0_:=Aside0.mk (Kd.R_below (kr_ HO369.out) hb); have n1_:=Aside0.mk (Kd.R_below (kr_ HO372.out) hb); have n2_:=Aside0.mk (bb_ BK363.out hb); have n3_:=Aside0.mk (bb_ BK364.out hb); have n4_:=Aside0.mk (bb_ BK373.out hb); have n5_:=Aside0.mk (below_step (bl3_ HB.out GE363.out GE364.out GE373.out) hb); clear HO369; clear HO372; clear BK363; clear BK364; clear BK373; clear HB; have HO369:=n0_; have HO372:=n1_; have BK363:=n2_; have BK364:=n3_; have BK373:=n4_; have HB:=n5_; clear n0_ n1_ n2_ n3_ n4_ n5_; (try clear hb); (try clear hb2); (try clear hk); (try clear hi); have hcz43_0:w42.cell? ⟨gb373,0,none⟩ = some (.int .i64 t365):=(blk_cell BK373.out 0).trans rfl; have hcz43_1:w42.cell? ⟨gb373,1,none⟩ = some (.int .i64 t366):=(blk_cell BK373.out 1).trans rfl; have hcz43_2:w42.cell? ⟨gb373,2,none⟩ = some (.slice Ao37 t367.length co37):=(blk_cell BK373.out 2).trans rfl; have hcz43_3:w42.cell? ⟨gb373,3,none⟩ = some (.slice Ao38 t370.length co38):=(blk_cell BK373.out 3).trans rfl; have hfz43_0:=blk_frozen BK373.out 0; have hfz43_1:=blk_frozen BK373.out 1; have hfz43_2:=blk_frozen BK373.out 2; have hfz43_3:=blk_frozen BK373.out 3) | ((with_reducible refine gate_callee (f:=74) rfl ?_); refine goesL_ (some 38) rfl rfl Tryd.func74 (by kernel_rfl) rfl #[.slice Ao38 t370.length co38,.int .i64 t374] rfl ob_ ?_; (with_reducible refine (spec_l1Put.calls k (fun k_ => some k_ = (.slice Ao38 t370.length co38:Value).ownBlock) (.slice Ao38 t370.length co38) t370 t374 t377 w _ ?side1 ?side2 A27.out).mono ?_); (case side1 => repeat (first | (with_reducible first | exact HB.out | apply below_alloc | apply pw_below_drewN | apply below_drew1 | refine below_set ?_ GE363.out | refine below_set ?_ GE364.out | refine below_set ?_ GE373.out) | exact HB.out)); (case side2 => exact Kd.R_tight rfl HO372.out); rintro e w44 ⟨v378,rfl,ho0,hb,hkp⟩; refine ⟨_,rfl,?_⟩; have n0_:=Aside0.mk (blk_kept (bk_ BK363.out) hkp (fun hs_ => (fun e_ => (Kd.R_ne HO372.out BK363.out (by decide)) e_) hs_)); have n1_:=Aside0.mk (blk_kept (bk_ BK364.out) hkp (fun hs_ => (fun e_ => (Kd.R_ne HO372.out BK364.out (by decide)) e_) hs_)); have n2_:=Aside0.mk (Kd.R_mono (ok':=fun k_ => some k_ ≠ (v378:Value).ownBlock) (Kd.R_keptB (HO369.out) hkp (fun k_ hk_ hs_ => (hk_) hs_)) (fun k_ hk_ => fun e_ => Or.elim (ho0.1 k_ e_.symm) (fun hs_ => hk_.2.1 hs_) (fun hn_ => Nat.not_le.2 hk_.2.2 hn_))); have n3_:=Aside0.mk (blk_kept (bk_ BK373.out) hkp (fun hs_ => (fun e_ => (Kd.R_ne HO372.out BK373.out (by decide)) e_) hs_)); have n4_:=Aside0.mk (Kd.R_mono (ok':=fun k_ => some k_ ≠ (.slice Ao37 t367.length co37:Value).ownBlock) ho0 (fun k_ hk_ => Or.elim hk_ (fun hs_ => fun e_ => (((HO369.out).1 k_ e_.symm)) hs_) (fun hn_ => (Kd.fresh' (Kd.R_lt (kr_ HO369.out)) k_ hn_)))); have n5_:=Aside0.mk (hb); clear BK363; clear BK364; clear HO369; clear BK373; clear HB; clear HO372; have BK363:=n0_; have BK364:=n1_; have HO369:=n2_; have BK373:=n3_; have HO379:=n4_; have HB:=n5_; clear n0_ n1_ n2_ n3_ n4_ n5_; (try clear hb); (try clear hkp); (try clear ho0); obtain ⟨Ao45,co45,eo45⟩:=Kd.R_slice HO379.out; subst eo45; have hcz46_0:w44.cell? ⟨gb373,0,none⟩ = some (.int .i64 t365):=(blk_cell BK373.out 0).trans rfl; have hcz46_1:w44.cell? ⟨gb373,1,none⟩ = some (.int .i64 t366):=(blk_cell BK373.out 1).trans rfl; have hcz46_2:w44.cell? ⟨gb373,2,none⟩ = some (.slice Ao37 t367.length co37):=(blk_cell BK373.out 2).trans rfl; have hcz46_3:w44.cell? ⟨gb373,3,none⟩ = some (.slice Ao38 t370.length co38):=(blk_cell BK373.out 3).trans rfl; have hfz46_0:=blk_frozen BK373.out 0; have hfz46_1:=blk_frozen BK373.out 1; have hfz46_2:=blk_frozen BK373.out 2; have hfz46_3:=blk_frozen BK373.out 3; have hcz47_0:w44.cell? ⟨gb364,0,none⟩ = some (.int .i64 0):=(blk_cell BK364.out 0).trans rfl; have hcz47_1:w44.cell? ⟨gb364,1,none⟩ = some (.int .i64 0):=(blk_cell BK364.out 1).trans rfl; have hcz47_2:w44.cell? ⟨gb364,2,none⟩ = some (.slice none 0 0):=(blk_cell BK364.out 2).trans rfl; have hcz47_3:w44.cell? ⟨gb364,3,none⟩ = some (.slice none 0 0):=(blk_cell BK364.out 3).trans rfl; have hfz47_0:=blk_frozen BK364.out 0; have hfz47_1:=blk_frozen BK364.out 1; have hfz47_2:=blk_frozen BK364.out 2; have hfz47_3:=blk_frozen BK364.out 3))
   refine bodyPost_ret (results_cell_row rfl _ _ gb364 26 #[.int .i64 t365,.int .i64 t366,.slice Ao37 t367.length co37,.slice Ao45 t377.length co45] (0,0) _ rfl (by (with_reducible repeat (first | refine blk_drewN ?_ _ | refine blk_drew ?_ | refine blk_alloc ?_ _)); refine blk_put (cs:=#[.int .i64 t365,.int .i64 t366,.slice Ao37 t367.length co37,.slice none 0 0]) ?_ 3 _ rfl; (with_reducible repeat (first | refine blk_drewN ?_ _ | refine blk_drew ?_ | refine blk_alloc ?_ _)); refine blk_put (cs:=#[.int .i64 t365,.int .i64 t366,.slice none 0 0,.slice none 0 0]) ?_ 2 _ rfl; (with_reducible repeat (first | refine blk_drewN ?_ _ | refine blk_drew ?_ | refine blk_alloc ?_ _)); refine blk_put (cs:=#[.int .i64 t365,.int .i64 0,.slice none 0 0,.slice none 0 0]) ?_ 1 _ rfl; (with_reducible repeat (first | refine blk_drewN ?_ _ | refine blk_drew ?_ | refine blk_alloc ?_ _)); refine blk_put (cs:=#[.int .i64 0,.int .i64 0,.slice none 0 0,.slice none 0 0]) ?_ 0 _ rfl; (with_reducible repeat (first | refine blk_drewN ?_ _ | refine blk_drew ?_ | refine blk_alloc ?_ _)); refine blk_far ?_ NB364_373.out _; (with_reducible repeat (first | refine blk_drewN ?_ _ | refine blk_drew ?_ | refine blk_alloc ?_ _)); exact BK364.out) Tryd.underlying26 rfl (by kernel_rfl)) rfl ?_
   exact ⟨_,_,er_,by (with_reducible repeat (first | apply Kd.R_alloc | apply Kd.R_drewN | apply Kd.R_drew)); exact Kd.R_mono (Kd.R_far (p:=⟨gb364,3,none⟩) (Kd.R_far (p:=⟨gb364,2,none⟩) (Kd.R_far (p:=⟨gb364,1,none⟩) (Kd.R_far (p:=⟨gb364,0,none⟩) (Kd.R_far (p:=⟨gb373,3,none⟩) (Kd.R_types (Kd.R_types HO369.out BK373.out (by decide)) BK364.out (by decide)) (fun _ hk => hk.1.2) (.slice Ao45 t377.length co45)) (fun _ hk => hk.2) (.int .i64 t365)) (fun _ hk => hk.2) (.int .i64 t366)) (fun _ hk => hk.2) (.slice Ao37 t367.length co37)) (fun _ hk => hk.2) (.slice Ao45 t377.length co45)) (fun _ hk => hk.1.1),by (with_reducible repeat (first | apply Kd.R_alloc | apply Kd.R_drewN | apply Kd.R_drew)); exact Kd.R_mono (Kd.R_far (p:=⟨gb364,3,none⟩) (Kd.R_far (p:=⟨gb364,2,none⟩) (Kd.R_far (p:=⟨gb364,1,none⟩) (Kd.R_far (p:=⟨gb364,0,none⟩) (Kd.R_far (p:=⟨gb373,3,none⟩) (Kd.R_types (Kd.R_types HO379.out BK373.out (by decide)) BK364.out (by decide)) (fun _ hk => hk.1.2) (.slice Ao45 t377.length co45)) (fun _ hk => hk.2) (.int .i64 t365)) (fun _ hk => hk.2) (.int .i64 t366)) (fun _ hk => hk.2) (.slice Ao37 t367.length co37)) (fun _ hk => hk.2) (.slice Ao45 t377.length co45)) (fun _ hk => hk.1.1),bl3_ HB.out GE363.out GE364.out GE373.out⟩
  ·replace c26:=Bool.eq_false_iff.mpr c26
   subst c26
   have H1:((spec_l1Put.f k t367 t374).bind fun t380 => (some (t365,t366,t380,t370))) = some (r1,r2,r3,r4):=by rw [if_neg (show ¬ (false = true) by decide)] at H; exact H
   clear H
   have H:=H1
   clear H1
   replace H:=Option.bind_eq_some_iff.mp H
   obtain ⟨t380,A480,H⟩:=H
   replace H:(some (t365,t366,t380,t370)) = some (r1,r2,r3,r4):=H
   have A48:=Aside0.mk A480
   clear A480
   simp only [Option.some.injEq,Prod.mk.injEq] at H
   obtain ⟨rfl,rfl,rfl,rfl⟩:=H
   go_enter Tryd.func47,Tryd.ntmps47
   go_wp2_with (first | ((with_reducible refine gate_dst (N:=4) rfl ?_); refine boxE_ (N:=4) (cs:=#[.int .i64 a0_0,.int .i64 a0_1,.slice A0_2 l0_2.length c0_2,.slice A0_3 l0_3.length c0_3]) (t:=26) ?_; intro gb363 hg w49 hbox hb; have n0_:=Aside0.mk (below_step (bl0_ HB.out) hb); have n1_:=Aside0.mk (hbox); have n2_:=Aside0.mk ((bs0_ hg HB.out:w.heap.size ≤ gb363)); have n3_:=Aside0.mk ((bs0_ hg HB.out:w.heap.size ≤ gb363)); clear HB; have HB:=n0_; have BK363:=n1_; have GW363:=n2_; have GE363:=n3_; clear n0_ n1_ n2_ n3_; clear hb hbox hg) | ((with_reducible refine gate_dst (N:=8) rfl ?_); refine boxE_ (N:=8) (cs:=#[.int .i64 0,.int .i64 0,.slice none 0 0,.slice none 0 0]) (t:=26) ?_; intro gb364 hg w50 hbox hb; have n0_:=Aside0.mk (bb_ BK363.out hb); have n1_:=Aside0.mk (below_step (bl1_ HB.out GE363.out) hb); have n2_:=Aside0.mk (hbox); have n3_:=Aside0.mk ((bs1_ hg HB.out GE363.out:w.heap.size ≤ gb364)); have n4_:=Aside0.mk ((bs1_ hg HB.out GE363.out:w.heap.size ≤ gb364)); have n5_:=Aside0.mk ((nl_ hg BK363.out:gb363 ≠ gb364)); have n6_:=Aside0.mk ((ng_ hg BK363.out:gb364 ≠ gb363)); clear BK363; clear HB; have BK363:=n0_; have HB:=n1_; have BK364:=n2_; have GW364:=n3_; have GE364:=n4_; have NB363_364:=n5_; have NB364_363:=n6_; clear n0_ n1_ n2_ n3_ n4_ n5_ n6_; clear hb hbox hg; have hnb51:=NB363_364.out; have hnc51:=NB364_363.out; have hcz52_0:w50.cell? ⟨gb363,0,none⟩ = some (.int .i64 a0_0):=(blk_cell BK363.out 0).trans rfl; have hcz52_1:w50.cell? ⟨gb363,1,none⟩ = some (.int .i64 a0_1):=(blk_cell BK363.out 1).trans rfl; have hcz52_2:w50.cell? ⟨gb363,2,none⟩ = some (.slice A0_2 l0_2.length c0_2):=(blk_cell BK363.out 2).trans rfl; have hcz52_3:w50.cell? ⟨gb363,3,none⟩ = some (.slice A0_3 l0_3.length c0_3):=(blk_cell BK363.out 3).trans rfl; have hfz52_0:=blk_frozen BK363.out 0; have hfz52_1:=blk_frozen BK363.out 1; have hfz52_2:=blk_frozen BK363.out 2; have hfz52_3:=blk_frozen BK363.out 3) | ((with_reducible refine gate_callee (f:=72) rfl ?_); refine goesL_ (some 13) rfl rfl Tryd.func72 (by kernel_rfl) rfl #[.agg #[.int .i64 a0_0,.int .i64 a0_1,.slice A0_2 l0_2.length c0_2,.slice A0_3 l0_3.length c0_3]] rfl ob_ ?_; (with_reducible refine (spec_fiOwn.calls a0_0 a0_1 _ _ l0_2 _ _ l0_3 t365 t366 t367 t370 _ ?side1 ?side2 ?side3 ?side4 A5.out).mono ?_); (case side1 => exact kc_ (Kd.C_below HR0_2.out HB.out)); (case side2 => exact HC0_2.out); (case side3 => exact kc_ (Kd.C_below HR0_3.out HB.out)); (case side4 => exact HC0_3.out); rintro e w53 ⟨v368,v371,rfl,ho0,ho1,hb⟩; refine ⟨_,rfl,?_⟩; have n0_:=Aside0.mk (Kd.R_lower ho0 (below_size (bl2_ HB.out GE363.out GE364.out))); have n1_:=Aside0.mk (Kd.R_lower ho1 (below_size (bl2_ HB.out GE363.out GE364.out))); have n2_:=Aside0.mk (bb_ BK363.out hb); have n3_:=Aside0.mk (bb_ BK364.out hb); have n4_:=Aside0.mk (below_step (bl2_ HB.out GE363.out GE364.out) hb); clear BK363; clear BK364; clear HB; have HO369:=n0_; have HO372:=n1_; have BK363:=n2_; have BK364:=n3_; have HB:=n4_; clear n0_ n1_ n2_ n3_ n4_; (try clear hb); (try clear hb2); (try clear hk); (try clear hi); (try clear ho0); (try clear ho1)) | ((with_reducible refine gate_dst (N:=9) rfl ?_); refine boxE_ (N:=9) (cs:=#[.int .i64 0,.int .i64 0,.slice none 0 0,.slice none 0 0]) (t:=26) ?_; intro gb373 hg w54 hbox hb; have n0_:=Aside0.mk (Kd.R_below (kr_ HO369.out) hb); have n1_:=Aside0.mk (Kd.R_below (kr_ HO372.out) hb); have n2_:=Aside0.mk (bb_ BK363.out hb); have n3_:=Aside0.mk (bb_ BK364.out hb); have n4_:=Aside0.mk (below_step (bl2_ HB.out GE363.out GE364.out) hb); have n5_:=Aside0.mk (hbox); have n6_:=Aside0.mk ((bs2_ hg HB.out GE363.out GE364.out:w.heap.size ≤ gb373)); have n7_:=Aside0.mk ((bs2_ hg HB.out GE363.out GE364.out:w.heap.size ≤ gb373)); have n8_:=Aside0.mk ((nl_ hg BK363.out:gb363 ≠ gb373)); have n9_:=Aside0.mk ((ng_ hg BK363.out:gb373 ≠ gb363)); have n10_:=Aside0.mk ((nl_ hg BK364.out:gb364 ≠ gb373)); have n11_:=Aside0.mk ((ng_ hg BK364.out:gb373 ≠ gb364)); clear HO369; clear HO372; clear BK363; clear BK364; clear HB; have HO369:=n0_; have HO372:=n1_; have BK363:=n2_; have BK364:=n3_; have HB:=n4_; have BK373:=n5_; have GW373:=n6_; have GE373:=n7_; have NB363_373:=n8_; have NB373_363:=n9_; have NB364_373:=n10_; have NB373_364:=n11_; clear n0_ n1_ n2_ n3_ n4_ n5_ n6_ n7_ n8_ n9_ n10_ n11_; clear hb hbox hg; have hnb55:=NB373_363.out; have hnc55:=NB363_373.out; have hnb56:=NB373_364.out; have hnc56:=NB364_373.out; have hcz57_0:w54.cell? ⟨gb373,0,none⟩ = some (.int .i64 0):=(blk_cell BK373.out 0).trans rfl; have hcz57_1:w54.cell? ⟨gb373,1,none⟩ = some (.int .i64 0):=(blk_cell BK373.out 1).trans rfl; have hcz57_2:w54.cell? ⟨gb373,2,none⟩ = some (.slice none 0 0):=(blk_cell BK373.out 2).trans rfl; have hcz57_3:w54.cell? ⟨gb373,3,none⟩ = some (.slice none 0 0):=(blk_cell BK373.out 3).trans rfl; have hfz57_0:=blk_frozen BK373.out 0; have hfz57_1:=blk_frozen BK373.out 1; have hfz57_2:=blk_frozen BK373.out 2; have hfz57_3:=blk_frozen BK373.out 3; obtain ⟨Ao58,co58,eo58⟩:=Kd.R_slice HO369.out; subst eo58; obtain ⟨Ao59,co59,eo59⟩:=Kd.R_slice HO372.out; subst eo59; have hcz60_0:w54.cell? ⟨gb363,0,none⟩ = some (.int .i64 a0_0):=(blk_cell BK363.out 0).trans rfl; have hcz60_1:w54.cell? ⟨gb363,1,none⟩ = some (.int .i64 a0_1):=(blk_cell BK363.out 1).trans rfl; have hcz60_2:w54.cell? ⟨gb363,2,none⟩ = some (.slice A0_2 l0_2.length c0_2):=(blk_cell BK363.out 2).trans rfl; have hcz60_3:w54.cell? ⟨gb363,3,none⟩ = some (.slice A0_3 l0_3.length c0_3):=(blk_cell BK363.out 3).trans rfl; have hfz60_0:=blk_frozen BK363.out 0; have hfz60_1:=blk_frozen BK363.out 1; have hfz60_2:=blk_frozen BK363.out 2; have hfz60_3:=blk_frozen BK363.out 3) | ((with_reducible refine gate_callee (f:=73) rfl ?_); refine goesL_ (some 19) rfl rfl Tryd.func73 (by kernel_rfl) rfl #[.agg #[.int .i64 a0_0,.int .i64 a0_1,.slice A0_2 l0_2.length c0_2,.slice A0_3 l0_3.length c0_3],.bool false,.int .i64 a2,.int .i64 a3] rfl ob_ ?_; (with_reducible refine (spec_fiEdge.calls a0_0 a0_1 _ _ l0_2 _ _ l0_3 false a2 a3 t374 t375 _ ?side1 ?side2 ?side3 ?side4 A6.out).mono ?_); (case side1 => exact Kd.C_below HR0_2.out (bl3_ HB.out GE363.out GE364.out GE373.out)); (case side2 => exact HC0_2.out); (case side3 => exact Kd.C_below HR0_3.out (bl3_ HB.out GE363.out GE364.out GE373.out)); (case side4 => exact HC0_3.out); rintro e w61 ⟨rfl,hb⟩; refine ⟨_,rfl,?_⟩; have n0_:=Aside0.mk (Kd.R_below (by (with_reducible repeat (first | apply Kd.R_alloc | apply Kd.R_drewN | apply Kd.R_drew)); exact (Kd.R_mono (Kd.R_far (p:=⟨gb373,3,none⟩) (Kd.R_far (p:=⟨gb373,2,none⟩) (Kd.R_far (p:=⟨gb373,1,none⟩) (Kd.R_far (p:=⟨gb373,0,none⟩) (Kd.R_types HO369.out BK373.out (by decide)) (fun _ hk => hk.2) (.int .i64 t365)) (fun _ hk => hk.2) (.int .i64 t366)) (fun _ hk => hk.2) (.slice Ao58 t367.length co58)) (fun _ hk => hk.2) (.slice Ao59 t370.length co59)) (fun _ h_ => h_.1))) hb); have n1_:=Aside0.mk (Kd.R_below (by (with_reducible repeat (first | apply Kd.R_alloc | apply Kd.R_drewN | apply Kd.R_drew)); exact (Kd.R_mono (Kd.R_far (p:=⟨gb373,3,none⟩) (Kd.R_far (p:=⟨gb373,2,none⟩) (Kd.R_far (p:=⟨gb373,1,none⟩) (Kd.R_far (p:=⟨gb373,0,none⟩) (Kd.R_types HO372.out BK373.out (by decide)) (fun _ hk => hk.2) (.int .i64 t365)) (fun _ hk => hk.2) (.int .i64 t366)) (fun _ hk => hk.2) (.slice Ao58 t367.length co58)) (fun _ hk => hk.2) (.slice Ao59 t370.length co59)) (fun _ h_ => h_.1))) hb); have n2_:=Aside0.mk (blk_below (g:=gb363) (o:=.cells #[.int .i64 a0_0,.int .i64 a0_1,.slice A0_2 l0_2.length c0_2,.slice A0_3 l0_3.length c0_3] 26 (0,0)) (bf4_ NB363_373.out NB363_373.out NB363_373.out NB363_373.out BK363.out) hb); have n3_:=Aside0.mk (blk_below (g:=gb364) (o:=.cells #[.int .i64 0,.int .i64 0,.slice none 0 0,.slice none 0 0] 26 (0,0)) (bf4_ NB364_373.out NB364_373.out NB364_373.out NB364_373.out BK364.out) hb); have n4_:=Aside0.mk (blk_below (g:=gb373) (o:=.cells #[.int .i64 t365,.int .i64 t366,.slice Ao58 t367.length co58,.slice Ao59 t370.length co59] 26 (0,0)) (by (with_reducible repeat (first | refine blk_drewN ?_ _ | refine blk_drew ?_ | refine blk_alloc ?_ _)); refine blk_put (cs:=#[.int .i64 t365,.int .i64 t366,.slice Ao58 t367.length co58,.slice none 0 0]) ?_ 3 _ rfl; (with_reducible repeat (first | refine blk_drewN ?_ _ | refine blk_drew ?_ | refine blk_alloc ?_ _)); refine blk_put (cs:=#[.int .i64 t365,.int .i64 t366,.slice none 0 0,.slice none 0 0]) ?_ 2 _ rfl; (with_reducible repeat (first | refine blk_drewN ?_ _ | refine blk_drew ?_ | refine blk_alloc ?_ _)); refine blk_put (cs:=#[.int .i64 t365,.int .i64 0,.slice none 0 0,.slice none 0 0]) ?_ 1 _ rfl; (with_reducible repeat (first | refine blk_drewN ?_ _ | refine blk_drew ?_ | refine blk_alloc ?_ _)); refine blk_put (cs:=#[.int .i64 0,.int .i64 0,.slice none 0 0,.slice none 0 0]) ?_ 0 _ rfl; (with_reducible repeat (first | refine blk_drewN ?_ _ | refine blk_drew ?_ | refine blk_alloc ?_ _)); exact BK373.out) hb); have n5_:=Aside0.mk (below_step (bl3_ HB.out GE363.out GE364.out GE373.out) hb); clear HO369; clear HO372; clear BK363; clear BK364; clear BK373; clear HB; have HO369:=n0_; have HO372:=n1_; have BK363:=n2_; have BK364:=n3_; have BK373:=n4_; have HB:=n5_; clear n0_ n1_ n2_ n3_ n4_ n5_; (try clear hb); (try clear hb2); (try clear hk); (try clear hi); have hcz62_0:w61.cell? ⟨gb363,0,none⟩ = some (.int .i64 a0_0):=(blk_cell BK363.out 0).trans rfl; have hcz62_1:w61.cell? ⟨gb363,1,none⟩ = some (.int .i64 a0_1):=(blk_cell BK363.out 1).trans rfl; have hcz62_2:w61.cell? ⟨gb363,2,none⟩ = some (.slice A0_2 l0_2.length c0_2):=(blk_cell BK363.out 2).trans rfl; have hcz62_3:w61.cell? ⟨gb363,3,none⟩ = some (.slice A0_3 l0_3.length c0_3):=(blk_cell BK363.out 3).trans rfl; have hfz62_0:=blk_frozen BK363.out 0; have hfz62_1:=blk_frozen BK363.out 1; have hfz62_2:=blk_frozen BK363.out 2; have hfz62_3:=blk_frozen BK363.out 3) | ((with_reducible refine gate_callee (f:=52) rfl ?_); refine goesL_ (some 32) rfl rfl Tryd.func52 (by kernel_rfl) rfl #[.agg #[.int .i64 a0_0,.int .i64 a0_1,.slice A0_2 l0_2.length c0_2,.slice A0_3 l0_3.length c0_3],.bool false,.int .i64 a2,.int .i64 a3] rfl ob_ ?_; (with_reducible refine (spec_fiHas.calls k a0_0 a0_1 _ _ l0_2 _ _ l0_3 false a2 a3 false _ ?side1 ?side2 ?side3 ?side4 A7.out).mono ?_); (case side1 => exact kc_ (Kd.C_below HR0_2.out HB.out)); (case side2 => exact HC0_2.out); (case side3 => exact kc_ (Kd.C_below HR0_3.out HB.out)); (case side4 => exact HC0_3.out); rintro e w63 ⟨rfl,hb⟩; refine ⟨_,rfl,?_⟩; have n0_:=Aside0.mk (Kd.R_below (kr_ HO369.out) hb); have n1_:=Aside0.mk (Kd.R_below (kr_ HO372.out) hb); have n2_:=Aside0.mk (bb_ BK363.out hb); have n3_:=Aside0.mk (bb_ BK364.out hb); have n4_:=Aside0.mk (bb_ BK373.out hb); have n5_:=Aside0.mk (below_step (bl3_ HB.out GE363.out GE364.out GE373.out) hb); clear HO369; clear HO372; clear BK363; clear BK364; clear BK373; clear HB; have HO369:=n0_; have HO372:=n1_; have BK363:=n2_; have BK364:=n3_; have BK373:=n4_; have HB:=n5_; clear n0_ n1_ n2_ n3_ n4_ n5_; (try clear hb); (try clear hb2); (try clear hk); (try clear hi); have hcz64_0:w63.cell? ⟨gb373,0,none⟩ = some (.int .i64 t365):=(blk_cell BK373.out 0).trans rfl; have hcz64_1:w63.cell? ⟨gb373,1,none⟩ = some (.int .i64 t366):=(blk_cell BK373.out 1).trans rfl; have hcz64_2:w63.cell? ⟨gb373,2,none⟩ = some (.slice Ao58 t367.length co58):=(blk_cell BK373.out 2).trans rfl; have hcz64_3:w63.cell? ⟨gb373,3,none⟩ = some (.slice Ao59 t370.length co59):=(blk_cell BK373.out 3).trans rfl; have hfz64_0:=blk_frozen BK373.out 0; have hfz64_1:=blk_frozen BK373.out 1; have hfz64_2:=blk_frozen BK373.out 2; have hfz64_3:=blk_frozen BK373.out 3) | ((with_reducible refine gate_callee (f:=74) rfl ?_); refine goesL_ (some 25) rfl rfl Tryd.func74 (by kernel_rfl) rfl #[.slice Ao58 t367.length co58,.int .i64 t374] rfl ob_ ?_; (with_reducible refine (spec_l1Put.calls k (fun k_ => some k_ = (.slice Ao58 t367.length co58:Value).ownBlock) (.slice Ao58 t367.length co58) t367 t374 t380 w _ ?side1 ?side2 A48.out).mono ?_); (case side1 => repeat (first | (with_reducible first | exact HB.out | apply below_alloc | apply pw_below_drewN | apply below_drew1 | refine below_set ?_ GE363.out | refine below_set ?_ GE364.out | refine below_set ?_ GE373.out) | exact HB.out)); (case side2 => exact Kd.R_tight rfl HO369.out); rintro e w65 ⟨v381,rfl,ho0,hb,hkp⟩; refine ⟨_,rfl,?_⟩; have n0_:=Aside0.mk (blk_kept (bk_ BK363.out) hkp (fun hs_ => (fun e_ => (Kd.R_ne HO369.out BK363.out (by decide)) e_) hs_)); have n1_:=Aside0.mk (blk_kept (bk_ BK364.out) hkp (fun hs_ => (fun e_ => (Kd.R_ne HO369.out BK364.out (by decide)) e_) hs_)); have n2_:=Aside0.mk (Kd.R_mono (ok':=fun k_ => some k_ ≠ (v381:Value).ownBlock) (Kd.R_keptB (HO372.out) hkp (fun k_ hk_ hs_ => (hk_) hs_)) (fun k_ hk_ => fun e_ => Or.elim (ho0.1 k_ e_.symm) (fun hs_ => hk_.2.1 hs_) (fun hn_ => Nat.not_le.2 hk_.2.2 hn_))); have n3_:=Aside0.mk (blk_kept (bk_ BK373.out) hkp (fun hs_ => (fun e_ => (Kd.R_ne HO369.out BK373.out (by decide)) e_) hs_)); have n4_:=Aside0.mk (Kd.R_mono (ok':=fun k_ => some k_ ≠ (.slice Ao59 t370.length co59:Value).ownBlock) ho0 (fun k_ hk_ => Or.elim hk_ (fun hs_ => fun e_ => (((HO372.out).1 k_ e_.symm)) hs_) (fun hn_ => (Kd.fresh' (Kd.R_lt (kr_ HO372.out)) k_ hn_)))); have n5_:=Aside0.mk (hb); clear BK363; clear BK364; clear HO372; clear BK373; clear HB; clear HO369; have BK363:=n0_; have BK364:=n1_; have HO372:=n2_; have BK373:=n3_; have HO382:=n4_; have HB:=n5_; clear n0_ n1_ n2_ n3_ n4_ n5_; (try clear hb); (try clear hkp); (try clear ho0); obtain ⟨Ao66,co66,eo66⟩:=Kd.R_slice HO382.out; subst eo66; have hcz67_0:w65.cell? ⟨gb373,0,none⟩ = some (.int .i64 t365):=(blk_cell BK373.out 0).trans rfl; have hcz67_1:w65.cell? ⟨gb373,1,none⟩ = some (.int .i64 t366):=(blk_cell BK373.out 1).trans rfl; have hcz67_2:w65.cell? ⟨gb373,2,none⟩ = some (.slice Ao58 t367.length co58):=(blk_cell BK373.out 2).trans rfl; have hcz67_3:w65.cell? ⟨gb373,3,none⟩ = some (.slice Ao59 t370.length co59):=(blk_cell BK373.out 3).trans rfl; have hfz67_0:=blk_frozen BK373.out 0; have hfz67_1:=blk_frozen BK373.out 1; have hfz67_2:=blk_frozen BK373.out 2; have hfz67_3:=blk_frozen BK373.out 3; have hcz68_0:w65.cell? ⟨gb364,0,none⟩ = some (.int .i64 0):=(blk_cell BK364.out 0).trans rfl; have hcz68_1:w65.cell? ⟨gb364,1,none⟩ = some (.int .i64 0):=(blk_cell BK364.out 1).trans rfl; have hcz68_2:w65.cell? ⟨gb364,2,none⟩ = some (.slice none 0 0):=(blk_cell BK364.out 2).trans rfl; have hcz68_3:w65.cell? ⟨gb364,3,none⟩ = some (.slice none 0 0):=(blk_cell BK364.out 3).trans rfl; have hfz68_0:=blk_frozen BK364.out 0; have hfz68_1:=blk_frozen BK364.out 1; have hfz68_2:=blk_frozen BK364.out 2; have hfz68_3:=blk_frozen BK364.out 3))
   refine bodyPost_ret (results_cell_row rfl _ _ gb364 26 #[.int .i64 t365,.int .i64 t366,.slice Ao66 t380.length co66,.slice Ao59 t370.length co59] (0,0) _ rfl (by (with_reducible repeat (first | refine blk_drewN ?_ _ | refine blk_drew ?_ | refine blk_alloc ?_ _)); refine blk_put (cs:=#[.int .i64 t365,.int .i64 t366,.slice Ao66 t380.length co66,.slice none 0 0]) ?_ 3 _ rfl; (with_reducible repeat (first | refine blk_drewN ?_ _ | refine blk_drew ?_ | refine blk_alloc ?_ _)); refine blk_put (cs:=#[.int .i64 t365,.int .i64 t366,.slice none 0 0,.slice none 0 0]) ?_ 2 _ rfl; (with_reducible repeat (first | refine blk_drewN ?_ _ | refine blk_drew ?_ | refine blk_alloc ?_ _)); refine blk_put (cs:=#[.int .i64 t365,.int .i64 0,.slice none 0 0,.slice none 0 0]) ?_ 1 _ rfl; (with_reducible repeat (first | refine blk_drewN ?_ _ | refine blk_drew ?_ | refine blk_alloc ?_ _)); refine blk_put (cs:=#[.int .i64 0,.int .i64 0,.slice none 0 0,.slice none 0 0]) ?_ 0 _ rfl; (with_reducible repeat (first | refine blk_drewN ?_ _ | refine blk_drew ?_ | refine blk_alloc ?_ _)); refine blk_far ?_ NB364_373.out _; (with_reducible repeat (first | refine blk_drewN ?_ _ | refine blk_drew ?_ | refine blk_alloc ?_ _)); exact BK364.out) Tryd.underlying26 rfl (by kernel_rfl)) rfl ?_
   exact ⟨_,_,er_,by (with_reducible repeat (first | apply Kd.R_alloc | apply Kd.R_drewN | apply Kd.R_drew)); exact Kd.R_mono (Kd.R_far (p:=⟨gb364,3,none⟩) (Kd.R_far (p:=⟨gb364,2,none⟩) (Kd.R_far (p:=⟨gb364,1,none⟩) (Kd.R_far (p:=⟨gb364,0,none⟩) (Kd.R_far (p:=⟨gb373,2,none⟩) (Kd.R_types (Kd.R_types HO382.out BK373.out (by decide)) BK364.out (by decide)) (fun _ hk => hk.1.2) (.slice Ao66 t380.length co66)) (fun _ hk => hk.2) (.int .i64 t365)) (fun _ hk => hk.2) (.int .i64 t366)) (fun _ hk => hk.2) (.slice Ao66 t380.length co66)) (fun _ hk => hk.2) (.slice Ao59 t370.length co59)) (fun _ hk => hk.1.1),by (with_reducible repeat (first | apply Kd.R_alloc | apply Kd.R_drewN | apply Kd.R_drew)); exact Kd.R_mono (Kd.R_far (p:=⟨gb364,3,none⟩) (Kd.R_far (p:=⟨gb364,2,none⟩) (Kd.R_far (p:=⟨gb364,1,none⟩) (Kd.R_far (p:=⟨gb364,0,none⟩) (Kd.R_far (p:=⟨gb373,2,none⟩) (Kd.R_types (Kd.R_types HO372.out BK373.out (by decide)) BK364.out (by decide)) (fun _ hk => hk.1.2) (.slice Ao66 t380.length co66)) (fun _ hk => hk.2) (.int .i64 t365)) (fun _ hk => hk.2) (.int .i64 t366)) (fun _ hk => hk.2) (.slice Ao66 t380.length co66)) (fun _ hk => hk.2) (.slice Ao59 t370.length co59)) (fun _ hk => hk.1.1),bl3_ HB.out GE363.out GE364.out GE373.out⟩

end Go.Proofs.YtjnajeplfgdklaaDoor.P
