/- For every input the law FnExactFirstTidyMove answers true: the program's FirstTidyMove tells what the reference's FirstTidyMove tells; no condition. (part 5 of the proof; the words of the kit's print tool and the texts of this seat, merged by a program) -/
import Derived.Below
import Derived.ChangeOld
import Derived.FnData
import Derived.Handed
import Derived.JoinedOf
import Derived.LaidHandle
import Derived.LaidLaws
import Derived.Lib.Join
import Derived.Lib.SmallJoins
import Derived.OpenShut
import Derived.ProofKit
import Derived.SevenTiedAt
import Derived.SizedLaws
import Derived.Test.YtehjfaddhmdicaaGreatDoorCards
import Derived.Test.YtehjfaddhmdicaaGreatDoorClosed
import Derived.Test.YtehjfaddhmdicaaGreatDoorRows
import Derived.Test.YtehjfaddhmdicaaGreatDoorTie
import Derived.WalkKit
import Derived.Test.YtehjfaddhmdicaaGreatDoorMFB4
namespace Go.Proofs.YtehjfaddhmdicaaGreatDoor.P
open Go.RowKit Go.Proofs.YtehjfaddhmdicaaGreatDoorW.PrintWords Go.Proofs.YtehjfaddhmdicaaGreatDoorW.PrintLast Go.Proofs.YtehjfaddhmdicaaGreatDoorW.PrintMore
attribute [local go_sem] max2_int min2_int max_two min_two max_three min_three max_four min_four   -- for this text's walks alone
set_option linter.unusedVariables false
set_option linter.unusedSimpArgs false

mutual
def spec_moFirst.j0:Nat → Int → Int → Bool → Bool → Int → Int → List Int → List Int → Option (Int × Int × List Int × List Int × Bool)
 | 0,_,_,_,_,_,_,_,_ => none
 | k + 1,x1,x2,x3,x25,x184000,x184001,x184002,x184003 => if x25 = true then (some (0,0,([]:List Int),([]:List Int),false)) else ((spec_moThose.f k x184000 x184001 x184002 x184003 x1 x2 x3 true).bind fun t188 => (spec_moFirst.l0 k (⟨#[]⟩:ByteArray) t188 (t188.length:Int) 0 x184000 x184001 x184002 x184003 0 0 ([]:List Int) ([]:List Int)))
def spec_moFirst.l0:Nat → ByteArray → List Int → Int → Int → Int → Int → List Int → List Int → Int → Int → List Int → List Int → Option (Int × Int × List Int × List Int × Bool)
 | 0,_,_,_,_,_,_,_,_,_,_,_,_ => none
 | k + 1,x11,x32,x33,x34,x184000,x184001,x184002,x184003,x188000,x188001,x188002,x188003 => if x34 < x33 then (if 0 ≤ x34 then (if x34 < (x32.length:Int) then ((spec_sqFigure.f k x184000 x184001 (rd x32 x34)).bind fun bt192 => ((spec_fiText.f k bt192.1 bt192.2.1 bt192.2.2.1 bt192.2.2.2).bind fun t201 => (if x11.toList = ([]:List UInt8) then (spec_moFirst.l0 k t201 x32 x33 (wrap64 (x34 + 1)) x184000 x184001 x184002 x184003 bt192.1 bt192.2.1 bt192.2.2.1 bt192.2.2.2) else (if (Op.bytesLess t201.toList x11.toList) = true then (spec_moFirst.l0 k t201 x32 x33 (wrap64 (x34 + 1)) x184000 x184001 x184002 x184003 bt192.1 bt192.2.1 bt192.2.2.1 bt192.2.2.2) else (spec_moFirst.l0 k x11 x32 x33 (wrap64 (x34 + 1)) x184000 x184001 x184002 x184003 x188000 x188001 x188002 x188003))))) else (none)) else (none)) else (some (x188000,x188001,x188002,x188003,(x11.toList != ([]:List UInt8))))
end
def spec_moFirst.f (k:Nat) (a0_0:Int) (a0_1:Int) (l0_2:List Int) (l0_3:List Int) (a1:Int) (a2:Int) (a3:Bool):Option (Int × Int × List Int × List Int × Bool):=(spec_moAsked.f k a0_0 a0_1 l0_2 l0_3 a1 a3).bind fun t185 => (if t185 = true then ((spec_moSquares.f a2).bind fun t186 => (spec_moFirst.j0 k a1 a2 a3 (!t186) a0_0 a0_1 l0_2 l0_3)) else (spec_moFirst.j0 k a1 a2 a3 true a0_0 a0_1 l0_2 l0_3))
theorem spec_moFirst.mono_l:∀ k,(∀ y0 y1 y2 y3 y4 y5 y6 y7,LeO (spec_moFirst.j0 k y0 y1 y2 y3 y4 y5 y6 y7) (spec_moFirst.j0 (k + 1) y0 y1 y2 y3 y4 y5 y6 y7)) ∧ (∀ y0 y1 y2 y3 y4 y5 y6 y7 y8 y9 y10 y11,LeO (spec_moFirst.l0 k y0 y1 y2 y3 y4 y5 y6 y7 y8 y9 y10 y11) (spec_moFirst.l0 (k + 1) y0 y1 y2 y3 y4 y5 y6 y7 y8 y9 y10 y11))
 | 0 => ⟨fun _ _ _ _ _ _ _ _ r h => by simp [spec_moFirst.j0] at h,fun _ _ _ _ _ _ _ _ _ _ _ _ r h => by simp [spec_moFirst.l0] at h⟩
 | k + 1 => by
  obtain ⟨ih0,ih1⟩:=spec_moFirst.mono_l k
  refine ⟨?_,?_⟩
  ·intro y0 y1 y2 y3 y4 y5 y6 y7
   unfold spec_moFirst.j0
   repeat' first | (with_reducible first | exact ih0 _ _ _ _ _ _ _ _ | exact ih1 _ _ _ _ _ _ _ _ _ _ _ _ | exact spec_fiText.mono _ _ _ _ _ | exact spec_moAsked.mono _ _ _ _ _ _ _ | exact spec_moThose.mono _ _ _ _ _ _ _ _ _ | exact spec_sqFigure.mono _ _ _ _ | exact LeO.refl _ | exact LeO.none _ | refine LeO.ite ?_ ?_ | refine LeO.bind ?_ (fun _ => ?_)) | exact ih0 _ _ _ _ _ _ _ _ | exact ih1 _ _ _ _ _ _ _ _ _ _ _ _ | exact spec_fiText.mono _ _ _ _ _ | exact spec_moAsked.mono _ _ _ _ _ _ _ | exact spec_moThose.mono _ _ _ _ _ _ _ _ _ | exact spec_sqFigure.mono _ _ _ _
  ·intro y0 y1 y2 y3 y4 y5 y6 y7 y8 y9 y10 y11
   unfold spec_moFirst.l0
   repeat' first | (with_reducible first | exact ih0 _ _ _ _ _ _ _ _ | exact ih1 _ _ _ _ _ _ _ _ _ _ _ _ | exact spec_fiText.mono _ _ _ _ _ | exact spec_moAsked.mono _ _ _ _ _ _ _ | exact spec_moThose.mono _ _ _ _ _ _ _ _ _ | exact spec_sqFigure.mono _ _ _ _ | exact LeO.refl _ | exact LeO.none _ | refine LeO.ite ?_ ?_ | refine LeO.bind ?_ (fun _ => ?_)) | exact ih0 _ _ _ _ _ _ _ _ | exact ih1 _ _ _ _ _ _ _ _ _ _ _ _ | exact spec_fiText.mono _ _ _ _ _ | exact spec_moAsked.mono _ _ _ _ _ _ _ | exact spec_moThose.mono _ _ _ _ _ _ _ _ _ | exact spec_sqFigure.mono _ _ _ _
theorem spec_moFirst.mono:∀ a0 a1 a2 a3 a4 a5 a6 k,LeO (spec_moFirst.f k a0 a1 a2 a3 a4 a5 a6) (spec_moFirst.f (k + 1) a0 a1 a2 a3 a4 a5 a6):=by
 intro a0 a1 a2 a3 a4 a5 a6 k
 obtain ⟨ih0,ih1⟩:=spec_moFirst.mono_l k
 unfold spec_moFirst.f
 repeat' first | (with_reducible first | exact ih0 _ _ _ _ _ _ _ _ | exact ih1 _ _ _ _ _ _ _ _ _ _ _ _ | exact spec_fiText.mono _ _ _ _ _ | exact spec_moAsked.mono _ _ _ _ _ _ _ | exact spec_moThose.mono _ _ _ _ _ _ _ _ _ | exact spec_sqFigure.mono _ _ _ _ | exact LeO.refl _ | exact LeO.none _ | refine LeO.ite ?_ ?_ | refine LeO.bind ?_ (fun _ => ?_)) | exact ih0 _ _ _ _ _ _ _ _ | exact ih1 _ _ _ _ _ _ _ _ _ _ _ _ | exact spec_fiText.mono _ _ _ _ _ | exact spec_moAsked.mono _ _ _ _ _ _ _ | exact spec_moThose.mono _ _ _ _ _ _ _ _ _ | exact spec_sqFigure.mono _ _ _ _
set_option maxHeartbeats 8000000 in
set_option maxRecDepth 100000 in
theorem spec_moFirst.calls (k:Nat) (a0_0:Int) (a0_1:Int) (A0_2:Option Addr) (c0_2:Nat) (l0_2:List Int) (A0_3:Option Addr) (c0_3:Nat) (l0_3:List Int) (a1:Int) (a2:Int) (a3:Bool) (r1:Int) (r2:Int) (r3:List Int) (r4:List Int) (r5:Bool) (w:World) (hr0_2:Kd.C (Kd.int .i64) w A0_2 l0_2.length l0_2) (hc0_2:l0_2.length ≤ c0_2) (hr0_3:Kd.C (Kd.int .i64) w A0_3 l0_3.length l0_3) (hc0_3:l0_3.length ≤ c0_3) (h:spec_moFirst.f k a0_0 a0_1 l0_2 l0_3 a1 a2 a3 = some (r1,r2,r3,r4,r5)) :
  Calls Tryz.prog 25 #[.agg #[.int .i64 a0_0,.int .i64 a0_1,.slice A0_2 l0_2.length c0_2,.slice A0_3 l0_3.length c0_3],.int .i64 a1,.int .i64 a2,.bool a3] w fun e w' => ∃ v2_ v3_:Value,e = .returned (.tuple #[.agg #[.int .i64 r1,.int .i64 r2,v2_,v3_],.bool r5]) ∧ Kd.R (Kd.int .i64) 3 w' w.heap.size (fun k_ => some k_ ≠ (v3_:Value).ownBlock) v2_ r3 ∧ Kd.R (Kd.int .i64) 3 w' w.heap.size (fun k_ => some k_ ≠ (v2_:Value).ownBlock) v3_ r4 ∧ Below w.heap.size w w':=by
 have hu26:=Tryz.underlying26
 have HR0_2:=am_ hr0_2
 have HC0_2:=am_ hc0_2
 clear hr0_2 hc0_2
 have HR0_3:=am_ hr0_3
 have HC0_3:=am_ hc0_3
 clear hr0_3 hc0_3
 have HB:=am_ (Below.refl w.heap.size w)
 have H:((spec_moAsked.f k a0_0 a0_1 l0_2 l0_3 a1 a3).bind fun t185 => (if t185 = true then ((spec_moSquares.f a2).bind fun t186 => (spec_moFirst.j0 k a1 a2 a3 (!t186) a0_0 a0_1 l0_2 l0_3)) else (spec_moFirst.j0 k a1 a2 a3 true a0_0 a0_1 l0_2 l0_3))) = some (r1,r2,r3,r4,r5):=h
 clear h
 have HC5:=am_ H
 clear H
 go_enter Tryz.func25,Tryz.ntmps25
 go_upto_region 1 with (first | ((with_reducible refine gate_dst (N:=4) rfl ?_); refine boxE_ (N:=4) (cs:=#[.int .i64 a0_0,.int .i64 a0_1,.slice A0_2 l0_2.length c0_2,.slice A0_3 l0_3.length c0_3]) (t:=26) ?_; intro gb183 hg w6 hbox hb; have n0_:=am_ (below_step (bl0_ HB.out) hb); have n1_:=am_ (hbox); have n2_:=am_ ((bs0_ hg HB.out:w.heap.size ≤ gb183)); have n3_:=am_ ((bs0_ hg HB.out:w.heap.size ≤ gb183)); clear HB; have HB:=n0_; have BK183:=n1_; have GW183:=n2_; have GE183:=n3_; clear n0_ n1_ n2_ n3_; clear hb hbox hg) | ((with_reducible refine gate_dst (N:=8) rfl ?_); refine boxE_ (N:=8) (cs:=#[.int .i64 0,.int .i64 0,.slice none 0 0,.slice none 0 0]) (t:=26) ?_; intro gb184 hg w7 hbox hb; have n0_:=am_ (bb_ BK183.out hb); have n1_:=am_ (below_step (bl1_ HB.out GE183.out) hb); have n2_:=am_ (hbox); have n3_:=am_ ((bs1_ hg HB.out GE183.out:w.heap.size ≤ gb184)); have n4_:=am_ ((bs1_ hg HB.out GE183.out:w.heap.size ≤ gb184)); have n5_:=am_ ((nl_ hg BK183.out:gb183 ≠ gb184)); have n6_:=am_ ((ng_ hg BK183.out:gb184 ≠ gb183)); clear BK183; clear HB; have BK183:=n0_; have HB:=n1_; have BK184:=n2_; have GW184:=n3_; have GE184:=n4_; have NB183_184:=n5_; have NB184_183:=n6_; clear n0_ n1_ n2_ n3_ n4_ n5_ n6_; clear hb hbox hg))
 (try simp only [Act.put,List.setIfInBounds_toArray,List.set_cons_zero,List.set_cons_succ])
 go_cut [25] (fun v25 wc => ∃ (kq:Nat) (x25_4:Bool),v25 = .bool x25_4 ∧ Aside0 (spec_moFirst.j0 kq a1 a2 a3 x25_4 a0_0 a0_1 l0_2 l0_3 = some (r1,r2,r3,r4,r5)) ∧ Aside0 (kq ≤ k) ∧ Aside0 (wc.heap[gb183]? = some (.cells #[.int .i64 a0_0,.int .i64 a0_1,(.slice A0_2 l0_2.length c0_2),(.slice A0_3 l0_3.length c0_3)] 26 (0,0))) ∧ Aside0 (wc.heap[gb184]? = some (.cells #[.int .i64 0,.int .i64 0,(.slice none 0 0),(.slice none 0 0)] 26 (0,0))) ∧ Aside0 (Below w.heap.size w wc))
 case first =>
  have H:=HC5.out
  clear HC5
  replace H:=bi_ H
  obtain ⟨t185,A80,H⟩:=H
  replace H:(if t185 = true then ((spec_moSquares.f a2).bind fun t186 => (spec_moFirst.j0 k a1 a2 a3 (!t186) a0_0 a0_1 l0_2 l0_3)) else (spec_moFirst.j0 k a1 a2 a3 true a0_0 a0_1 l0_2 l0_3)) = some (r1,r2,r3,r4,r5):=H
  have A8:=am_ A80
  clear A80
  by_cases c9:t185 = true
  ·subst c9
   have H1:((spec_moSquares.f a2).bind fun t186 => (spec_moFirst.j0 k a1 a2 a3 (!t186) a0_0 a0_1 l0_2 l0_3)) = some (r1,r2,r3,r4,r5):=by rw [if_pos rfl] at H; exact H
   clear H
   have H:=H1
   clear H1
   replace H:=bi_ H
   obtain ⟨t186,A100,H⟩:=H
   replace H:(spec_moFirst.j0 k a1 a2 a3 (!t186) a0_0 a0_1 l0_2 l0_3) = some (r1,r2,r3,r4,r5):=H
   have A10:=am_ A100
   clear A100
   have H':=am_ H
   clear H
   have hnb11:=NB183_184.out
   have hnc11:=NB184_183.out
   have hcz12_0:w7.cell? ⟨gb183,0,none⟩ = some (.int .i64 a0_0):=(bc_ BK183.out 0).trans rfl
   have hcz12_1:w7.cell? ⟨gb183,1,none⟩ = some (.int .i64 a0_1):=(bc_ BK183.out 1).trans rfl
   have hcz12_2:w7.cell? ⟨gb183,2,none⟩ = some (.slice A0_2 l0_2.length c0_2):=(bc_ BK183.out 2).trans rfl
   have hcz12_3:w7.cell? ⟨gb183,3,none⟩ = some (.slice A0_3 l0_3.length c0_3):=(bc_ BK183.out 3).trans rfl
   have hfz12_0:=bz_ BK183.out 0
   have hfz12_1:=bz_ BK183.out 1
   have hfz12_2:=bz_ BK183.out 2
   have hfz12_3:=bz_ BK183.out 3
   go_wp2_with (first | ((with_reducible refine gate_callee (f:=34) rfl ?_); refine goesL_ (some 19) rfl rfl Tryz.func34 (by kernel_rfl) rfl #[.agg #[.int .i64 a0_0,.int .i64 a0_1,.slice A0_2 l0_2.length c0_2,.slice A0_3 l0_3.length c0_3],.int .i64 a1,.bool a3] rfl ob_ ?_; (with_reducible refine (spec_moAsked.calls k a0_0 a0_1 _ _ l0_2 _ _ l0_3 a1 a3 true _ ?side1 ?side2 ?side3 ?side4 A8.out).mono ?_); (case side1 => exact kc_ (Kd.C_below HR0_2.out HB.out)); (case side2 => exact HC0_2.out); (case side3 => exact kc_ (Kd.C_below HR0_3.out HB.out)); (case side4 => exact HC0_3.out); rintro e w13 ⟨rfl,hb⟩; refine ⟨_,rfl,?_⟩; have n0_:=am_ (bb_ BK183.out hb); have n1_:=am_ (bb_ BK184.out hb); have n2_:=am_ (below_step (bl2_ HB.out GE183.out GE184.out) hb); clear BK183; clear BK184; clear HB; have BK183:=n0_; have BK184:=n1_; have HB:=n2_; clear n0_ n1_ n2_; (try clear hb); (try clear hb2); (try clear hk); (try clear hi)) | (go_at_call 35; (with_reducible refine (spec_moSquares.calls a2 t186 _ A10.out).mono ?_); rintro e w' ⟨rfl,⟨nd,rfl⟩⟩))
   go_meet
   case rel => exact ⟨_,(!t186),rs_,H',⟨by first | omega | exact Nat.le_refl _⟩,⟨bk_ BK183.out⟩,⟨bk_ BK184.out⟩,⟨bl2_ HB.out GE183.out GE184.out⟩⟩
  ·replace c9:=Bool.eq_false_iff.mpr c9
   subst c9
   have H1:(spec_moFirst.j0 k a1 a2 a3 true a0_0 a0_1 l0_2 l0_3) = some (r1,r2,r3,r4,r5):=by rw [if_neg (show ¬ (false = true) by decide)] at H; exact H
   clear H
   have H:=H1
   clear H1
   have H':=am_ H
   clear H
   have hnb14:=NB183_184.out
   have hnc14:=NB184_183.out
   have hcz15_0:w7.cell? ⟨gb183,0,none⟩ = some (.int .i64 a0_0):=(bc_ BK183.out 0).trans rfl
   have hcz15_1:w7.cell? ⟨gb183,1,none⟩ = some (.int .i64 a0_1):=(bc_ BK183.out 1).trans rfl
   have hcz15_2:w7.cell? ⟨gb183,2,none⟩ = some (.slice A0_2 l0_2.length c0_2):=(bc_ BK183.out 2).trans rfl
   have hcz15_3:w7.cell? ⟨gb183,3,none⟩ = some (.slice A0_3 l0_3.length c0_3):=(bc_ BK183.out 3).trans rfl
   have hfz15_0:=bz_ BK183.out 0
   have hfz15_1:=bz_ BK183.out 1
   have hfz15_2:=bz_ BK183.out 2
   have hfz15_3:=bz_ BK183.out 3
   go_wp2_with (first | ((with_reducible refine gate_callee (f:=34) rfl ?_); refine goesL_ (some 19) rfl rfl Tryz.func34 (by kernel_rfl) rfl #[.agg #[.int .i64 a0_0,.int .i64 a0_1,.slice A0_2 l0_2.length c0_2,.slice A0_3 l0_3.length c0_3],.int .i64 a1,.bool a3] rfl ob_ ?_; (with_reducible refine (spec_moAsked.calls k a0_0 a0_1 _ _ l0_2 _ _ l0_3 a1 a3 false _ ?side1 ?side2 ?side3 ?side4 A8.out).mono ?_); (case side1 => exact kc_ (Kd.C_below HR0_2.out HB.out)); (case side2 => exact HC0_2.out); (case side3 => exact kc_ (Kd.C_below HR0_3.out HB.out)); (case side4 => exact HC0_3.out); rintro e w16 ⟨rfl,hb⟩; refine ⟨_,rfl,?_⟩; have n0_:=am_ (bb_ BK183.out hb); have n1_:=am_ (bb_ BK184.out hb); have n2_:=am_ (below_step (bl2_ HB.out GE183.out GE184.out) hb); clear BK183; clear BK184; clear HB; have BK183:=n0_; have BK184:=n1_; have HB:=n2_; clear n0_ n1_ n2_; (try clear hb); (try clear hb2); (try clear hk); (try clear hi)))
   go_meet
   case rel => exact ⟨_,(true),rs_,H',⟨by first | omega | exact Nat.le_refl _⟩,⟨bk_ BK183.out⟩,⟨bk_ BK184.out⟩,⟨bl2_ HB.out GE183.out GE184.out⟩⟩
 case rest =>
  clear HC5
  try clear c1
  try clear c2
  try clear p2
  try clear c3
  try clear c9
  try clear c11
  try clear c14
  try clear hcz12_0
  try clear hcz12_1
  try clear hcz12_2
  try clear hcz12_3
  try clear hcz15_0
  try clear hcz15_1
  try clear hcz15_2
  try clear hcz15_3
  try clear hfz12_0
  try clear hfz12_1
  try clear hfz12_2
  try clear hfz12_3
  try clear hfz15_0
  try clear hfz15_1
  try clear hfz15_2
  try clear hfz15_3
  obtain ⟨kq,x25_4,rfl,HA,HJ4,BK183,BK184,HB⟩:=hcut
  cases kq with
  | zero => exact absurd HA.out (by simp [spec_moFirst.j0])
  | succ kj4 =>
   have H:=HA.out
   clear HA
   simp only [spec_moFirst.j0] at H
   by_cases c17:x25_4 = true
   ·subst c17
    have H1:(some (0,0,([]:List Int),([]:List Int),false)) = some (r1,r2,r3,r4,r5):=by rw [if_pos rfl] at H; exact H
    clear H
    have H:=H1
    clear H1
    simp only [Option.some.injEq,Prod.mk.injEq] at H
    obtain ⟨rfl,rfl,rfl,rfl,rfl⟩:=H
    have hnb18:=NB184_183.out
    have hnc18:=NB183_184.out
    have hcz19_0:wc.cell? ⟨gb184,0,none⟩ = some (.int .i64 0):=(bc_ BK184.out 0).trans rfl
    have hcz19_1:wc.cell? ⟨gb184,1,none⟩ = some (.int .i64 0):=(bc_ BK184.out 1).trans rfl
    have hcz19_2:wc.cell? ⟨gb184,2,none⟩ = some (.slice none 0 0):=(bc_ BK184.out 2).trans rfl
    have hcz19_3:wc.cell? ⟨gb184,3,none⟩ = some (.slice none 0 0):=(bc_ BK184.out 3).trans rfl
    have hfz19_0:=bz_ BK184.out 0
    have hfz19_1:=bz_ BK184.out 1
    have hfz19_2:=bz_ BK184.out 2
    have hfz19_3:=bz_ BK184.out 3
    go_wp2
    refine bodyPost_ret (results_ct rfl _ _ gb184 26 #[.int .i64 0,.int .i64 0,.slice none 0 0,.slice none 0 0] (0,0) _ rfl (by (with_reducible repeat (first | refine blk_drewN ?_ _ | refine blk_drew ?_ | refine blk_alloc ?_ _)); refine blk_put (cs:=#[.int .i64 0,.int .i64 0,.slice none 0 0,.slice none 0 0]) ?_ 3 _ rfl; (with_reducible repeat (first | refine blk_drewN ?_ _ | refine blk_drew ?_ | refine blk_alloc ?_ _)); refine blk_put (cs:=#[.int .i64 0,.int .i64 0,.slice none 0 0,.slice none 0 0]) ?_ 2 _ rfl; (with_reducible repeat (first | refine blk_drewN ?_ _ | refine blk_drew ?_ | refine blk_alloc ?_ _)); refine blk_put (cs:=#[.int .i64 0,.int .i64 0,.slice none 0 0,.slice none 0 0]) ?_ 1 _ rfl; (with_reducible repeat (first | refine blk_drewN ?_ _ | refine blk_drew ?_ | refine blk_alloc ?_ _)); refine blk_put (cs:=#[.int .i64 0,.int .i64 0,.slice none 0 0,.slice none 0 0]) ?_ 0 _ rfl; (with_reducible repeat (first | refine blk_drewN ?_ _ | refine blk_drew ?_ | refine blk_alloc ?_ _)); exact BK184.out) Tryz.underlying26 rfl (by kernel_rfl)) rfl ?_
    exact ⟨_,_,er_,by first | exact Kd.R_nil _ _ _ _ _ | exact Kd.N_nil _ _ _ _ _ | exact Kd.V_nil _ _ _ _ _ | exact Kd.Q_nil _ _ _ _ _ | exact Kd.S_nil _ _ _ _ _,by first | exact Kd.R_nil _ _ _ _ _ | exact Kd.N_nil _ _ _ _ _ | exact Kd.V_nil _ _ _ _ _ | exact Kd.Q_nil _ _ _ _ _ | exact Kd.S_nil _ _ _ _ _,bl2_ HB.out GE183.out GE184.out⟩
   ·replace c17:=Bool.eq_false_iff.mpr c17
    subst c17
    have H1:((spec_moThose.f kj4 a0_0 a0_1 l0_2 l0_3 a1 a2 a3 true).bind fun t188 => (spec_moFirst.l0 kj4 (⟨#[]⟩:ByteArray) t188 (t188.length:Int) 0 a0_0 a0_1 l0_2 l0_3 0 0 ([]:List Int) ([]:List Int))) = some (r1,r2,r3,r4,r5):=by rw [if_neg (show ¬ (false = true) by decide)] at H; exact H
    clear H
    have H:=H1
    clear H1
    replace H:=bi_ H
    obtain ⟨t188,A200,H⟩:=H
    replace H:(spec_moFirst.l0 kj4 (⟨#[]⟩:ByteArray) t188 (t188.length:Int) 0 a0_0 a0_1 l0_2 l0_3 0 0 ([]:List Int) ([]:List Int)) = some (r1,r2,r3,r4,r5):=H
    have A20:=am_ A200
    clear A200
    have H':=am_ H
    clear H
    go_wp2_with (first | ((with_reducible refine gate_dst (N:=10) rfl ?_); refine boxE_ (N:=10) (cs:=#[.int .i64 0,.int .i64 0,.slice none 0 0,.slice none 0 0]) (t:=26) ?_; intro gb187 hg w21 hbox hb; have n0_:=am_ (bb_ BK183.out hb); have n1_:=am_ (bb_ BK184.out hb); have n2_:=am_ (below_step (bl2_ HB.out GE183.out GE184.out) hb); have n3_:=am_ (hbox); have n4_:=am_ ((bs2_ hg HB.out GE183.out GE184.out:w.heap.size ≤ gb187)); have n5_:=am_ ((bs2_ hg HB.out GE183.out GE184.out:w.heap.size ≤ gb187)); have n6_:=am_ ((nl_ hg BK183.out:gb183 ≠ gb187)); have n7_:=am_ ((ng_ hg BK183.out:gb187 ≠ gb183)); have n8_:=am_ ((nl_ hg BK184.out:gb184 ≠ gb187)); have n9_:=am_ ((ng_ hg BK184.out:gb187 ≠ gb184)); clear BK183; clear BK184; clear HB; have BK183:=n0_; have BK184:=n1_; have HB:=n2_; have BK187:=n3_; have GW187:=n4_; have GE187:=n5_; have NB183_187:=n6_; have NB187_183:=n7_; have NB184_187:=n8_; have NB187_184:=n9_; clear n0_ n1_ n2_ n3_ n4_ n5_ n6_ n7_ n8_ n9_; clear hb hbox hg; have hnb22:=NB187_183.out; have hnc22:=NB183_187.out; have hnb23:=NB187_184.out; have hnc23:=NB184_187.out; have hcz24_0:w21.cell? ⟨gb187,0,none⟩ = some (.int .i64 0):=(bc_ BK187.out 0).trans rfl; have hcz24_1:w21.cell? ⟨gb187,1,none⟩ = some (.int .i64 0):=(bc_ BK187.out 1).trans rfl; have hcz24_2:w21.cell? ⟨gb187,2,none⟩ = some (.slice none 0 0):=(bc_ BK187.out 2).trans rfl; have hcz24_3:w21.cell? ⟨gb187,3,none⟩ = some (.slice none 0 0):=(bc_ BK187.out 3).trans rfl; have hfz24_0:=bz_ BK187.out 0; have hfz24_1:=bz_ BK187.out 1; have hfz24_2:=bz_ BK187.out 2; have hfz24_3:=bz_ BK187.out 3; have hnb25:=NB183_184.out; have hnc25:=NB184_183.out; have hcz26_0:w21.cell? ⟨gb183,0,none⟩ = some (.int .i64 a0_0):=(bc_ BK183.out 0).trans rfl; have hcz26_1:w21.cell? ⟨gb183,1,none⟩ = some (.int .i64 a0_1):=(bc_ BK183.out 1).trans rfl; have hcz26_2:w21.cell? ⟨gb183,2,none⟩ = some (.slice A0_2 l0_2.length c0_2):=(bc_ BK183.out 2).trans rfl; have hcz26_3:w21.cell? ⟨gb183,3,none⟩ = some (.slice A0_3 l0_3.length c0_3):=(bc_ BK183.out 3).trans rfl; have hfz26_0:=bz_ BK183.out 0; have hfz26_1:=bz_ BK183.out 1; have hfz26_2:=bz_ BK183.out 2; have hfz26_3:=bz_ BK183.out 3) | ((with_reducible refine gate_callee (f:=36) rfl ?_); refine goesL_ (some 32) rfl rfl Tryz.func36 (by kernel_rfl) rfl #[.agg #[.int .i64 a0_0,.int .i64 a0_1,.slice A0_2 l0_2.length c0_2,.slice A0_3 l0_3.length c0_3],.int .i64 a1,.int .i64 a2,.bool a3,.bool true] rfl ob_ ?_; (with_reducible refine (spec_moThose.calls kj4 a0_0 a0_1 _ _ l0_2 _ _ l0_3 a1 a2 a3 true t188 _ ?side1 ?side2 ?side3 ?side4 A20.out).mono ?_); (case side1 => exact Kd.C_below HR0_2.out (bl3_ HB.out GE183.out GE184.out GE187.out)); (case side2 => exact HC0_2.out); (case side3 => exact Kd.C_below HR0_3.out (bl3_ HB.out GE183.out GE184.out GE187.out)); (case side4 => exact HC0_3.out); rintro e w27 ⟨v189,rfl,ho0,hb⟩; refine ⟨_,rfl,?_⟩; have n0_:=am_ (Kd.R_lower ho0 (below_size (bl3_ HB.out GE183.out GE184.out GE187.out))); have n1_:=am_ (blk_below (g:=gb183) (o:=.cells #[.int .i64 a0_0,.int .i64 a0_1,.slice A0_2 l0_2.length c0_2,.slice A0_3 l0_3.length c0_3] 26 (0,0)) (bf4_ NB183_187.out NB183_187.out NB183_187.out NB183_187.out BK183.out) hb); have n2_:=am_ (blk_below (g:=gb184) (o:=.cells #[.int .i64 0,.int .i64 0,.slice none 0 0,.slice none 0 0] 26 (0,0)) (bf4_ NB184_187.out NB184_187.out NB184_187.out NB184_187.out BK184.out) hb); have n3_:=am_ (blk_below (g:=gb187) (o:=.cells #[.int .i64 0,.int .i64 0,.slice none 0 0,.slice none 0 0] 26 (0,0)) (by (with_reducible repeat (first | refine blk_drewN ?_ _ | refine blk_drew ?_ | refine blk_alloc ?_ _)); refine blk_put (cs:=#[.int .i64 0,.int .i64 0,.slice none 0 0,.slice none 0 0]) ?_ 3 _ rfl; (with_reducible repeat (first | refine blk_drewN ?_ _ | refine blk_drew ?_ | refine blk_alloc ?_ _)); refine blk_put (cs:=#[.int .i64 0,.int .i64 0,.slice none 0 0,.slice none 0 0]) ?_ 2 _ rfl; (with_reducible repeat (first | refine blk_drewN ?_ _ | refine blk_drew ?_ | refine blk_alloc ?_ _)); refine blk_put (cs:=#[.int .i64 0,.int .i64 0,.slice none 0 0,.slice none 0 0]) ?_ 1 _ rfl; (with_reducible repeat (first | refine blk_drewN ?_ _ | refine blk_drew ?_ | refine blk_alloc ?_ _)); refine blk_put (cs:=#[.int .i64 0,.int .i64 0,.slice none 0 0,.slice none 0 0]) ?_ 0 _ rfl; (with_reducible repeat (first | refine blk_drewN ?_ _ | refine blk_drew ?_ | refine blk_alloc ?_ _)); exact BK187.out) hb); have n4_:=am_ (below_step (bl3_ HB.out GE183.out GE184.out GE187.out) hb); clear BK183; clear BK184; clear BK187; clear HB; have HO190:=n0_; have BK183:=n1_; have BK184:=n2_; have BK187:=n3_; have HB:=n4_; clear n0_ n1_ n2_ n3_ n4_; (try clear hb); (try clear hb2); (try clear hk); (try clear hi); (try clear ho0); obtain ⟨Ao28,co28,eo28⟩:=Kd.R_slice HO190.out; subst eo28))
    go_loopg [11,34] kj4 (fun kq v11 v34 w' => ∃ (x11_2:ByteArray) (x34_2:Int) (x188000_2:Int) (x188001_2:Int) (x188002_2:List Int) (x188003_2:List Int) (u188002:Value) (u188003:Value),v11 = .string x11_2 ∧ v34 = .int .i64 x34_2 ∧ Aside0 (spec_moFirst.l0 kq x11_2 t188 (t188.length:Int) x34_2 a0_0 a0_1 l0_2 l0_3 x188000_2 x188001_2 x188002_2 x188003_2 = some (r1,r2,r3,r4,r5)) ∧ Aside0 (kq ≤ kj4) ∧ Aside0 (Kd.R (Kd.int .i64) 3 w' w.heap.size (fun k_ => some k_ ≠ (u188002:Value).ownBlock ∧ some k_ ≠ (u188003:Value).ownBlock) (.slice Ao28 t188.length co28) t188) ∧ Aside0 (Kd.R (Kd.int .i64) 3 w' w.heap.size (fun k_ => some k_ ≠ ((.slice Ao28 t188.length co28):Value).ownBlock ∧ some k_ ≠ (u188003:Value).ownBlock) u188002 x188002_2) ∧ Aside0 (Kd.R (Kd.int .i64) 3 w' w.heap.size (fun k_ => some k_ ≠ ((.slice Ao28 t188.length co28):Value).ownBlock ∧ some k_ ≠ (u188002:Value).ownBlock) u188003 x188003_2) ∧ Aside0 (w'.heap[gb183]? = some (.cells #[.int .i64 a0_0,.int .i64 a0_1,(.slice A0_2 l0_2.length c0_2),(.slice A0_3 l0_3.length c0_3)] 26 (0,0))) ∧ Aside0 (w'.heap[gb184]? = some (.cells #[.int .i64 0,.int .i64 0,(.slice none 0 0),(.slice none 0 0)] 26 (0,0))) ∧ Aside0 (w'.heap[gb187]? = some (.cells #[.int .i64 x188000_2,.int .i64 x188001_2,u188002,u188003] 26 (0,0))) ∧ Aside0 (Below w.heap.size w w'))
    case atStart => exact ⟨((⟨#[]⟩:ByteArray)),(0),(0),(0),(([]:List Int)),(([]:List Int)),(.slice none 0 0),(.slice none 0 0),rs_,rs_,H',⟨Nat.le_refl _⟩,⟨by (with_reducible repeat (first | apply Kd.R_alloc | apply Kd.R_drewN | apply Kd.R_drew)); exact Kd.R_mono HO190.out (fun _ hk => ⟨(by simp [Value.ownBlock]),(by simp [Value.ownBlock])⟩)⟩,⟨by first | exact Kd.R_nil _ _ _ _ _ | exact Kd.N_nil _ _ _ _ _ | exact Kd.V_nil _ _ _ _ _ | exact Kd.Q_nil _ _ _ _ _ | exact Kd.S_nil _ _ _ _ _⟩,⟨by first | exact Kd.R_nil _ _ _ _ _ | exact Kd.N_nil _ _ _ _ _ | exact Kd.V_nil _ _ _ _ _ | exact Kd.Q_nil _ _ _ _ _ | exact Kd.S_nil _ _ _ _ _⟩,⟨bk_ BK183.out⟩,⟨bk_ BK184.out⟩,⟨bk_ BK187.out⟩,⟨bl3_ HB.out GE183.out GE184.out GE187.out⟩⟩
    case round =>
     clear H'
     try clear c1
     try clear c2
     try clear p2
     try clear c3
     try clear c9
     try clear c11
     try clear c14
     try clear c17
     try clear c18
     try clear c22
     try clear c23
     try clear c25
     try clear hcz12_0
     try clear hcz12_1
     try clear hcz12_2
     try clear hcz12_3
     try clear hcz15_0
     try clear hcz15_1
     try clear hcz15_2
     try clear hcz15_3
     try clear hcz19_0
     try clear hcz19_1
     try clear hcz19_2
     try clear hcz19_3
     try clear hcz24_0
     try clear hcz24_1
     try clear hcz24_2
     try clear hcz24_3
     try clear hcz26_0
     try clear hcz26_1
     try clear hcz26_2
     try clear hcz26_3
     try clear hfz12_0
     try clear hfz12_1
     try clear hfz12_2
     try clear hfz12_3
     try clear hfz15_0
     try clear hfz15_1
     try clear hfz15_2
     try clear hfz15_3
     try clear hfz19_0
     try clear hfz19_1
     try clear hfz19_2
     try clear hfz19_3
     try clear hfz24_0
     try clear hfz24_1
     try clear hfz24_2
     try clear hfz24_3
     try clear hfz26_0
     try clear hfz26_1
     try clear hfz26_2
     try clear hfz26_3
     try clear p2
     obtain ⟨x11_2,x34_2,x188000_2,x188001_2,x188002_2,x188003_2,u188002,u188003,rfl,rfl,HA,HK2,HO_32,HO_188002,HO_188003,BK183,BK184,BK187,HB⟩:=hrel
     cases gk with
     | zero => exact absurd HA.out (by simp [spec_moFirst.l0])
     | succ k2 =>
      have H:=HA.out
      clear HA
      simp only [spec_moFirst.l0] at H
      by_cases c29:x34_2 < (t188.length:Int)
      ·rw [if_pos c29] at H
       have c29b0:decide (x34_2 < (t188.length:Int)) = true:=decide_eq_true c29
       clear c29
       by_cases c30:0 ≤ x34_2
       ·rw [if_pos c30] at H
        have c30b0:decide (0 ≤ x34_2) = true:=decide_eq_true c30
        clear c30
        by_cases c31:x34_2 < (t188.length:Int)
        ·rw [if_pos c31] at H
         have c31b0:decide (x34_2 < (t188.length:Int)) = true:=decide_eq_true c31
         clear c31
         replace H:=bi_ H
         obtain ⟨⟨t192,t193,t194,t197⟩,A320,H⟩:=H
         replace H:((spec_fiText.f k2 t192 t193 t194 t197).bind fun t201 => (if x11_2.toList = ([]:List UInt8) then (spec_moFirst.l0 k2 t201 t188 (t188.length:Int) (wrap64 (x34_2 + 1)) a0_0 a0_1 l0_2 l0_3 t192 t193 t194 t197) else (if (Op.bytesLess t201.toList x11_2.toList) = true then (spec_moFirst.l0 k2 t201 t188 (t188.length:Int) (wrap64 (x34_2 + 1)) a0_0 a0_1 l0_2 l0_3 t192 t193 t194 t197) else (spec_moFirst.l0 k2 x11_2 t188 (t188.length:Int) (wrap64 (x34_2 + 1)) a0_0 a0_1 l0_2 l0_3 x188000_2 x188001_2 x188002_2 x188003_2)))) = some (r1,r2,r3,r4,r5):=H
         have A32:=am_ A320
         clear A320
         replace H:=bi_ H
         obtain ⟨t201,A330,H⟩:=H
         replace H:(if x11_2.toList = ([]:List UInt8) then (spec_moFirst.l0 k2 t201 t188 (t188.length:Int) (wrap64 (x34_2 + 1)) a0_0 a0_1 l0_2 l0_3 t192 t193 t194 t197) else (if (Op.bytesLess t201.toList x11_2.toList) = true then (spec_moFirst.l0 k2 t201 t188 (t188.length:Int) (wrap64 (x34_2 + 1)) a0_0 a0_1 l0_2 l0_3 t192 t193 t194 t197) else (spec_moFirst.l0 k2 x11_2 t188 (t188.length:Int) (wrap64 (x34_2 + 1)) a0_0 a0_1 l0_2 l0_3 x188000_2 x188001_2 x188002_2 x188003_2))) = some (r1,r2,r3,r4,r5):=H
         have A33:=am_ A330
         clear A330
         by_cases c34:x11_2.toList = ([]:List UInt8)
         ·rw [if_pos c34] at H
          have c34b0:(x11_2.toList == ([]:List UInt8)) = true:=beq_iff_eq.mpr c34
          have c34b1:(x11_2.toList != ([]:List UInt8)) = false:=bne_eq_false_iff_eq.mpr c34
          clear c34
          have H':=am_ H
          clear H
          have p191:0 ≤ (x34_2:Int):=of_decide_eq_true as_
          have q191:x34_2 < (t188.length:Int):=of_decide_eq_true as_
          obtain ⟨ad191,e191,hx191_0⟩:=Kd.at_int (Kd.R_reads' HO_32.out).2.2 x34_2 p191 q191
          cases e191
          replace p191:=eq_true p191
          replace q191:=eq_true q191
          have hnb35:=NB183_184.out
          have hnc35:=NB184_183.out
          have hnb36:=NB183_187.out
          have hnc36:=NB187_183.out
          have hcz37_0:wr.cell? ⟨gb183,0,none⟩ = some (.int .i64 a0_0):=(bc_ BK183.out 0).trans rfl
          have hcz37_1:wr.cell? ⟨gb183,1,none⟩ = some (.int .i64 a0_1):=(bc_ BK183.out 1).trans rfl
          have hcz37_2:wr.cell? ⟨gb183,2,none⟩ = some (.slice A0_2 l0_2.length c0_2):=(bc_ BK183.out 2).trans rfl
          have hcz37_3:wr.cell? ⟨gb183,3,none⟩ = some (.slice A0_3 l0_3.length c0_3):=(bc_ BK183.out 3).trans rfl
          have hfz37_0:=bz_ BK183.out 0
          have hfz37_1:=bz_ BK183.out 1
          have hfz37_2:=bz_ BK183.out 2
          have hfz37_3:=bz_ BK183.out 3
          go_wp2_with (first | ((with_reducible refine gate_callee (f:=37) rfl ?_); refine goesL_ (some 43) rfl rfl Tryz.func37 (by kernel_rfl) rfl #[.int .i64 a0_0,.int .i64 a0_1,.int .i64 (rd t188 x34_2)] rfl ob_ ?_; (with_reducible refine (spec_sqFigure.calls k2 a0_0 a0_1 (rd t188 x34_2) t192 t193 t194 t197 _ A32.out).mono ?_); rintro e w38 ⟨v195,v198,rfl,ho0,ho1,hb⟩; refine ⟨_,rfl,?_⟩; have n0_:=am_ (Kd.R_mono (Kd.R_told (Kd.R_told (Kd.R_old (kr_ HO_32.out) hb) (Kd.R_base ho0)) (Kd.R_base ho1)) (fun _ h_ => h_.1)); have n1_:=am_ (Kd.R_mono (Kd.R_told (Kd.R_told (Kd.R_old (kr_ HO_188002.out) hb) (Kd.R_base ho0)) (Kd.R_base ho1)) (fun _ h_ => h_.1)); have n2_:=am_ (Kd.R_mono (Kd.R_told (Kd.R_told (Kd.R_old (kr_ HO_188003.out) hb) (Kd.R_base ho0)) (Kd.R_base ho1)) (fun _ h_ => h_.1)); have n3_:=am_ (Kd.R_lower (Kd.R_new' (Kd.R_new' (Kd.R_new' ho0 (Kd.R_lt (kr_ HO_32.out))) (Kd.R_lt (kr_ HO_188002.out))) (Kd.R_lt (kr_ HO_188003.out))) (below_size (bl3_ HB.out GE183.out GE184.out GE187.out))); have n4_:=am_ (Kd.R_lower (Kd.R_new' (Kd.R_new' (Kd.R_new' ho1 (Kd.R_lt (kr_ HO_32.out))) (Kd.R_lt (kr_ HO_188002.out))) (Kd.R_lt (kr_ HO_188003.out))) (below_size (bl3_ HB.out GE183.out GE184.out GE187.out))); have n5_:=am_ (bb_ BK183.out hb); have n6_:=am_ (bb_ BK184.out hb); have n7_:=am_ (bb_ BK187.out hb); have n8_:=am_ (below_step (bl3_ HB.out GE183.out GE184.out GE187.out) hb); clear HO_32; clear HO_188002; clear HO_188003; clear BK183; clear BK184; clear BK187; clear HB; have HO_32:=n0_; have HO_188002:=n1_; have HO_188003:=n2_; have HO196:=n3_; have HO199:=n4_; have BK183:=n5_; have BK184:=n6_; have BK187:=n7_; have HB:=n8_; clear n0_ n1_ n2_ n3_ n4_ n5_ n6_ n7_ n8_; (try clear hb); (try clear hb2); (try clear hk); (try clear hi); (try clear ho0); (try clear ho1)) | ((with_reducible refine gate_dst (N:=14) rfl ?_); refine boxE_ (N:=14) (cs:=#[.int .i64 0,.int .i64 0,.slice none 0 0,.slice none 0 0]) (t:=26) ?_; intro gb200 hg w39 hbox hb; have n0_:=am_ (Kd.R_below (kr_ HO_32.out) hb); have n1_:=am_ (Kd.R_below (kr_ HO_188002.out) hb); have n2_:=am_ (Kd.R_below (kr_ HO_188003.out) hb); have n3_:=am_ (Kd.R_below (kr_ HO196.out) hb); have n4_:=am_ (Kd.R_below (kr_ HO199.out) hb); have n5_:=am_ (bb_ BK183.out hb); have n6_:=am_ (bb_ BK184.out hb); have n7_:=am_ (bb_ BK187.out hb); have n8_:=am_ (below_step (bl3_ HB.out GE183.out GE184.out GE187.out) hb); have n9_:=am_ (hbox); have n10_:=am_ ((bs3_ hg HB.out GE183.out GE184.out GE187.out:w.heap.size ≤ gb200)); have n11_:=am_ ((bs3_ hg HB.out GE183.out GE184.out GE187.out:w.heap.size ≤ gb200)); have n12_:=am_ ((nl_ hg BK183.out:gb183 ≠ gb200)); have n13_:=am_ ((ng_ hg BK183.out:gb200 ≠ gb183)); have n14_:=am_ ((nl_ hg BK184.out:gb184 ≠ gb200)); have n15_:=am_ ((ng_ hg BK184.out:gb200 ≠ gb184)); have n16_:=am_ ((nl_ hg BK187.out:gb187 ≠ gb200)); have n17_:=am_ ((ng_ hg BK187.out:gb200 ≠ gb187)); clear HO_32; clear HO_188002; clear HO_188003; clear HO196; clear HO199; clear BK183; clear BK184; clear BK187; clear HB; have HO_32:=n0_; have HO_188002:=n1_; have HO_188003:=n2_; have HO196:=n3_; have HO199:=n4_; have BK183:=n5_; have BK184:=n6_; have BK187:=n7_; have HB:=n8_; have BK200:=n9_; have GW200:=n10_; have GE200:=n11_; have NB183_200:=n12_; have NB200_183:=n13_; have NB184_200:=n14_; have NB200_184:=n15_; have NB187_200:=n16_; have NB200_187:=n17_; clear n0_ n1_ n2_ n3_ n4_ n5_ n6_ n7_ n8_ n9_ n10_ n11_ n12_ n13_ n14_ n15_ n16_ n17_; clear hb hbox hg; have hnb40:=NB200_183.out; have hnc40:=NB183_200.out; have hnb41:=NB200_184.out; have hnc41:=NB184_200.out; have hnb42:=NB200_187.out; have hnc42:=NB187_200.out; have hcz43_0:w39.cell? ⟨gb200,0,none⟩ = some (.int .i64 0):=(bc_ BK200.out 0).trans rfl; have hcz43_1:w39.cell? ⟨gb200,1,none⟩ = some (.int .i64 0):=(bc_ BK200.out 1).trans rfl; have hcz43_2:w39.cell? ⟨gb200,2,none⟩ = some (.slice none 0 0):=(bc_ BK200.out 2).trans rfl; have hcz43_3:w39.cell? ⟨gb200,3,none⟩ = some (.slice none 0 0):=(bc_ BK200.out 3).trans rfl; have hfz43_0:=bz_ BK200.out 0; have hfz43_1:=bz_ BK200.out 1; have hfz43_2:=bz_ BK200.out 2; have hfz43_3:=bz_ BK200.out 3; obtain ⟨Ao44,co44,eo44⟩:=Kd.R_slice HO196.out; subst eo44; obtain ⟨Ao45,co45,eo45⟩:=Kd.R_slice HO199.out; subst eo45) | ((with_reducible refine gate_callee (f:=38) rfl ?_); refine goesL_ (some 45) rfl rfl Tryz.func38 (by kernel_rfl) rfl #[.agg #[.int .i64 t192,.int .i64 t193,.slice Ao44 t194.length co44,.slice Ao45 t197.length co45]] rfl ob_ ?_; (with_reducible refine (spec_fiText.calls k2 t192 t193 _ _ t194 _ _ t197 t201 _ ?side1 ?side2 ?side3 ?side4 A33.out).mono ?_); (case side1 => refine (Kd.R_reads' (e:=3) (base:=w.heap.size) (ok:=fun k_ => (((some k_ ≠ (.slice Ao45 t197.length co45:Value).ownBlock ∧ some k_ ≠ (.slice (some ad191) t188.length co28:Value).ownBlock) ∧ some k_ ≠ (u188002:Value).ownBlock) ∧ some k_ ≠ (u188003:Value).ownBlock)) (n:=t194.length) (c:=co44) ?_).2.2; exact (by (with_reducible repeat (first | apply Kd.R_alloc | apply Kd.R_drewN | apply Kd.R_drew)); exact (Kd.R_mono (Kd.R_far (p:=⟨gb200,3,none⟩) (Kd.R_far (p:=⟨gb200,2,none⟩) (Kd.R_far (p:=⟨gb200,1,none⟩) (Kd.R_far (p:=⟨gb200,0,none⟩) (Kd.R_types HO196.out BK200.out (by decide)) (fun _ hk => hk.2) (.int .i64 t192)) (fun _ hk => hk.2) (.int .i64 t193)) (fun _ hk => hk.2) (.slice Ao44 t194.length co44)) (fun _ hk => hk.2) (.slice Ao45 t197.length co45)) (fun _ h_ => h_.1)))); (case side2 => exact (Kd.R_reads' HO196.out).2.1); (case side3 => refine (Kd.R_reads' (e:=3) (base:=w.heap.size) (ok:=fun k_ => (((some k_ ≠ (.slice Ao44 t194.length co44:Value).ownBlock ∧ some k_ ≠ (.slice (some ad191) t188.length co28:Value).ownBlock) ∧ some k_ ≠ (u188002:Value).ownBlock) ∧ some k_ ≠ (u188003:Value).ownBlock)) (n:=t197.length) (c:=co45) ?_).2.2; exact (by (with_reducible repeat (first | apply Kd.R_alloc | apply Kd.R_drewN | apply Kd.R_drew)); exact (Kd.R_mono (Kd.R_far (p:=⟨gb200,3,none⟩) (Kd.R_far (p:=⟨gb200,2,none⟩) (Kd.R_far (p:=⟨gb200,1,none⟩) (Kd.R_far (p:=⟨gb200,0,none⟩) (Kd.R_types HO199.out BK200.out (by decide)) (fun _ hk => hk.2) (.int .i64 t192)) (fun _ hk => hk.2) (.int .i64 t193)) (fun _ hk => hk.2) (.slice Ao44 t194.length co44)) (fun _ hk => hk.2) (.slice Ao45 t197.length co45)) (fun _ h_ => h_.1)))); (case side4 => exact (Kd.R_reads' HO199.out).2.1); rintro e w46 ⟨rfl,hb⟩; refine ⟨_,rfl,?_⟩; have n0_:=am_ (Kd.R_below (by (with_reducible repeat (first | apply Kd.R_alloc | apply Kd.R_drewN | apply Kd.R_drew)); exact (Kd.R_mono (Kd.R_far (p:=⟨gb200,3,none⟩) (Kd.R_far (p:=⟨gb200,2,none⟩) (Kd.R_far (p:=⟨gb200,1,none⟩) (Kd.R_far (p:=⟨gb200,0,none⟩) (Kd.R_types HO_32.out BK200.out (by decide)) (fun _ hk => hk.2) (.int .i64 t192)) (fun _ hk => hk.2) (.int .i64 t193)) (fun _ hk => hk.2) (.slice Ao44 t194.length co44)) (fun _ hk => hk.2) (.slice Ao45 t197.length co45)) (fun _ h_ => h_.1))) hb); have n1_:=am_ (Kd.R_below (by (with_reducible repeat (first | apply Kd.R_alloc | apply Kd.R_drewN | apply Kd.R_drew)); exact (Kd.R_mono (Kd.R_far (p:=⟨gb200,3,none⟩) (Kd.R_far (p:=⟨gb200,2,none⟩) (Kd.R_far (p:=⟨gb200,1,none⟩) (Kd.R_far (p:=⟨gb200,0,none⟩) (Kd.R_types HO_188002.out BK200.out (by decide)) (fun _ hk => hk.2) (.int .i64 t192)) (fun _ hk => hk.2) (.int .i64 t193)) (fun _ hk => hk.2) (.slice Ao44 t194.length co44)) (fun _ hk => hk.2) (.slice Ao45 t197.length co45)) (fun _ h_ => h_.1))) hb); have n2_:=am_ (Kd.R_below (by (with_reducible repeat (first | apply Kd.R_alloc | apply Kd.R_drewN | apply Kd.R_drew)); exact (Kd.R_mono (Kd.R_far (p:=⟨gb200,3,none⟩) (Kd.R_far (p:=⟨gb200,2,none⟩) (Kd.R_far (p:=⟨gb200,1,none⟩) (Kd.R_far (p:=⟨gb200,0,none⟩) (Kd.R_types HO_188003.out BK200.out (by decide)) (fun _ hk => hk.2) (.int .i64 t192)) (fun _ hk => hk.2) (.int .i64 t193)) (fun _ hk => hk.2) (.slice Ao44 t194.length co44)) (fun _ hk => hk.2) (.slice Ao45 t197.length co45)) (fun _ h_ => h_.1))) hb); have n3_:=am_ (Kd.R_below (by (with_reducible repeat (first | apply Kd.R_alloc | apply Kd.R_drewN | apply Kd.R_drew)); exact (Kd.R_mono (Kd.R_far (p:=⟨gb200,3,none⟩) (Kd.R_far (p:=⟨gb200,2,none⟩) (Kd.R_far (p:=⟨gb200,1,none⟩) (Kd.R_far (p:=⟨gb200,0,none⟩) (Kd.R_types HO196.out BK200.out (by decide)) (fun _ hk => hk.2) (.int .i64 t192)) (fun _ hk => hk.2) (.int .i64 t193)) (fun _ hk => hk.2) (.slice Ao44 t194.length co44)) (fun _ hk => hk.2) (.slice Ao45 t197.length co45)) (fun _ h_ => h_.1))) hb); have n4_:=am_ (Kd.R_below (by (with_reducible repeat (first | apply Kd.R_alloc | apply Kd.R_drewN | apply Kd.R_drew)); exact (Kd.R_mono (Kd.R_far (p:=⟨gb200,3,none⟩) (Kd.R_far (p:=⟨gb200,2,none⟩) (Kd.R_far (p:=⟨gb200,1,none⟩) (Kd.R_far (p:=⟨gb200,0,none⟩) (Kd.R_types HO199.out BK200.out (by decide)) (fun _ hk => hk.2) (.int .i64 t192)) (fun _ hk => hk.2) (.int .i64 t193)) (fun _ hk => hk.2) (.slice Ao44 t194.length co44)) (fun _ hk => hk.2) (.slice Ao45 t197.length co45)) (fun _ h_ => h_.1))) hb); have n5_:=am_ (blk_below (g:=gb183) (o:=.cells #[.int .i64 a0_0,.int .i64 a0_1,.slice A0_2 l0_2.length c0_2,.slice A0_3 l0_3.length c0_3] 26 (0,0)) (bf4_ NB183_200.out NB183_200.out NB183_200.out NB183_200.out BK183.out) hb); have n6_:=am_ (blk_below (g:=gb184) (o:=.cells #[.int .i64 0,.int .i64 0,.slice none 0 0,.slice none 0 0] 26 (0,0)) (bf4_ NB184_200.out NB184_200.out NB184_200.out NB184_200.out BK184.out) hb); have n7_:=am_ (blk_below (g:=gb187) (o:=.cells #[.int .i64 x188000_2,.int .i64 x188001_2,u188002,u188003] 26 (0,0)) (bf4_ NB187_200.out NB187_200.out NB187_200.out NB187_200.out BK187.out) hb); have n8_:=am_ (blk_below (g:=gb200) (o:=.cells #[.int .i64 t192,.int .i64 t193,.slice Ao44 t194.length co44,.slice Ao45 t197.length co45] 26 (0,0)) (by (with_reducible repeat (first | refine blk_drewN ?_ _ | refine blk_drew ?_ | refine blk_alloc ?_ _)); refine blk_put (cs:=#[.int .i64 t192,.int .i64 t193,.slice Ao44 t194.length co44,.slice none 0 0]) ?_ 3 _ rfl; (with_reducible repeat (first | refine blk_drewN ?_ _ | refine blk_drew ?_ | refine blk_alloc ?_ _)); refine blk_put (cs:=#[.int .i64 t192,.int .i64 t193,.slice none 0 0,.slice none 0 0]) ?_ 2 _ rfl; (with_reducible repeat (first | refine blk_drewN ?_ _ | refine blk_drew ?_ | refine blk_alloc ?_ _)); refine blk_put (cs:=#[.int .i64 t192,.int .i64 0,.slice none 0 0,.slice none 0 0]) ?_ 1 _ rfl; (with_reducible repeat (first | refine blk_drewN ?_ _ | refine blk_drew ?_ | refine blk_alloc ?_ _)); refine blk_put (cs:=#[.int .i64 0,.int .i64 0,.slice none 0 0,.slice none 0 0]) ?_ 0 _ rfl; (with_reducible repeat (first | refine blk_drewN ?_ _ | refine blk_drew ?_ | refine blk_alloc ?_ _)); exact BK200.out) hb); have n9_:=am_ (below_step (bl4_ HB.out GE183.out GE184.out GE187.out GE200.out) hb); clear HO_32; clear HO_188002; clear HO_188003; clear HO196; clear HO199; clear BK183; clear BK184; clear BK187; clear BK200; clear HB; have HO_32:=n0_; have HO_188002:=n1_; have HO_188003:=n2_; have HO196:=n3_; have HO199:=n4_; have BK183:=n5_; have BK184:=n6_; have BK187:=n7_; have BK200:=n8_; have HB:=n9_; clear n0_ n1_ n2_ n3_ n4_ n5_ n6_ n7_ n8_ n9_; (try clear hb); (try clear hb2); (try clear hk); (try clear hi); have hcz47_0:w46.cell? ⟨gb200,0,none⟩ = some (.int .i64 t192):=(bc_ BK200.out 0).trans rfl; have hcz47_1:w46.cell? ⟨gb200,1,none⟩ = some (.int .i64 t193):=(bc_ BK200.out 1).trans rfl; have hcz47_2:w46.cell? ⟨gb200,2,none⟩ = some (.slice Ao44 t194.length co44):=(bc_ BK200.out 2).trans rfl; have hcz47_3:w46.cell? ⟨gb200,3,none⟩ = some (.slice Ao45 t197.length co45):=(bc_ BK200.out 3).trans rfl; have hfz47_0:=bz_ BK200.out 0; have hfz47_1:=bz_ BK200.out 1; have hfz47_2:=bz_ BK200.out 2; have hfz47_3:=bz_ BK200.out 3; have hnb48:=NB187_184.out; have hnc48:=NB184_187.out; have hcz49_0:w46.cell? ⟨gb187,0,none⟩ = some (.int .i64 x188000_2):=(bc_ BK187.out 0).trans rfl; have hcz49_1:w46.cell? ⟨gb187,1,none⟩ = some (.int .i64 x188001_2):=(bc_ BK187.out 1).trans rfl; have hcz49_2:w46.cell? ⟨gb187,2,none⟩ = some (u188002):=(bc_ BK187.out 2).trans rfl; have hcz49_3:w46.cell? ⟨gb187,3,none⟩ = some (u188003):=(bc_ BK187.out 3).trans rfl; have hfz49_0:=bz_ BK187.out 0; have hfz49_1:=bz_ BK187.out 1; have hfz49_2:=bz_ BK187.out 2; have hfz49_3:=bz_ BK187.out 3))
          go_roundg k2
          case measure => have:=HJ4.out; have:=HK2.out; omega
          case rel => exact ⟨(t201),(wrap64 (x34_2 + 1)),(t192),(t193),(t194),(t197),(.slice Ao44 t194.length co44),(.slice Ao45 t197.length co45),rs_,rs_,H',⟨by have:=HJ4.out; have:=HK2.out; omega⟩,⟨by (with_reducible repeat (first | apply Kd.R_alloc | apply Kd.R_drewN | apply Kd.R_drew)); exact Kd.R_mono (Kd.R_far (p:=⟨gb187,3,none⟩) (Kd.R_far (p:=⟨gb187,2,none⟩) (Kd.R_far (p:=⟨gb187,1,none⟩) (Kd.R_far (p:=⟨gb187,0,none⟩) (Kd.R_types HO_32.out BK187.out (by decide)) (fun _ hk => hk.2) (.int .i64 t192)) (fun _ hk => hk.2) (.int .i64 t193)) (fun _ hk => hk.2) (.slice Ao44 t194.length co44)) (fun _ hk => hk.2) (.slice Ao45 t197.length co45)) (fun _ hk => ⟨hk.1.1.2,hk.1.2⟩)⟩,⟨by (with_reducible repeat (first | apply Kd.R_alloc | apply Kd.R_drewN | apply Kd.R_drew)); exact Kd.R_mono (Kd.R_far (p:=⟨gb187,3,none⟩) (Kd.R_far (p:=⟨gb187,2,none⟩) (Kd.R_far (p:=⟨gb187,1,none⟩) (Kd.R_far (p:=⟨gb187,0,none⟩) (Kd.R_types HO196.out BK187.out (by decide)) (fun _ hk => hk.2) (.int .i64 t192)) (fun _ hk => hk.2) (.int .i64 t193)) (fun _ hk => hk.2) (.slice Ao44 t194.length co44)) (fun _ hk => hk.2) (.slice Ao45 t197.length co45)) (fun _ hk => ⟨hk.1.1.1.2,hk.1.1.1.1⟩)⟩,⟨by (with_reducible repeat (first | apply Kd.R_alloc | apply Kd.R_drewN | apply Kd.R_drew)); exact Kd.R_mono (Kd.R_far (p:=⟨gb187,3,none⟩) (Kd.R_far (p:=⟨gb187,2,none⟩) (Kd.R_far (p:=⟨gb187,1,none⟩) (Kd.R_far (p:=⟨gb187,0,none⟩) (Kd.R_types HO199.out BK187.out (by decide)) (fun _ hk => hk.2) (.int .i64 t192)) (fun _ hk => hk.2) (.int .i64 t193)) (fun _ hk => hk.2) (.slice Ao44 t194.length co44)) (fun _ hk => hk.2) (.slice Ao45 t197.length co45)) (fun _ hk => ⟨hk.1.1.1.2,hk.1.1.1.1⟩)⟩,⟨bf4_ NB183_187.out NB183_187.out NB183_187.out NB183_187.out BK183.out⟩,⟨bf4_ NB184_187.out NB184_187.out NB184_187.out NB184_187.out BK184.out⟩,⟨by (with_reducible repeat (first | refine blk_drewN ?_ _ | refine blk_drew ?_ | refine blk_alloc ?_ _)); refine blk_put (cs:=#[.int .i64 t192,.int .i64 t193,.slice Ao44 t194.length co44,u188003]) ?_ 3 _ rfl; (with_reducible repeat (first | refine blk_drewN ?_ _ | refine blk_drew ?_ | refine blk_alloc ?_ _)); refine blk_put (cs:=#[.int .i64 t192,.int .i64 t193,u188002,u188003]) ?_ 2 _ rfl; (with_reducible repeat (first | refine blk_drewN ?_ _ | refine blk_drew ?_ | refine blk_alloc ?_ _)); refine blk_put (cs:=#[.int .i64 t192,.int .i64 x188001_2,u188002,u188003]) ?_ 1 _ rfl; (with_reducible repeat (first | refine blk_drewN ?_ _ | refine blk_drew ?_ | refine blk_alloc ?_ _)); refine blk_put (cs:=#[.int .i64 x188000_2,.int .i64 x188001_2,u188002,u188003]) ?_ 0 _ rfl; (with_reducible repeat (first | refine blk_drewN ?_ _ | refine blk_drew ?_ | refine blk_alloc ?_ _)); exact BK187.out⟩,⟨bl4_ HB.out GE183.out GE184.out GE187.out GE200.out⟩⟩
         ·rw [if_neg c34] at H
          have c34b0:(x11_2.toList == ([]:List UInt8)) = false:=beq_eq_false_iff_ne.mpr c34
          have c34b1:(x11_2.toList != ([]:List UInt8)) = true:=bne_iff_ne.mpr c34
          by_cases c50:(Op.bytesLess t201.toList x11_2.toList) = true
          ·rw [if_pos c50] at H
           have c50b0:(Op.bytesLess t201.toList x11_2.toList) = true:=c50
           clear c50
           have H':=am_ H
           clear H
           have p191:0 ≤ (x34_2:Int):=of_decide_eq_true as_
           have q191:x34_2 < (t188.length:Int):=of_decide_eq_true as_
           obtain ⟨ad191,e191,hx191_0⟩:=Kd.at_int (Kd.R_reads' HO_32.out).2.2 x34_2 p191 q191
           cases e191
           replace p191:=eq_true p191
           replace q191:=eq_true q191
           have hnb51:=NB183_184.out
           have hnc51:=NB184_183.out
           have hnb52:=NB183_187.out
           have hnc52:=NB187_183.out
           have hcz53_0:wr.cell? ⟨gb183,0,none⟩ = some (.int .i64 a0_0):=(bc_ BK183.out 0).trans rfl
           have hcz53_1:wr.cell? ⟨gb183,1,none⟩ = some (.int .i64 a0_1):=(bc_ BK183.out 1).trans rfl
           have hcz53_2:wr.cell? ⟨gb183,2,none⟩ = some (.slice A0_2 l0_2.length c0_2):=(bc_ BK183.out 2).trans rfl
           have hcz53_3:wr.cell? ⟨gb183,3,none⟩ = some (.slice A0_3 l0_3.length c0_3):=(bc_ BK183.out 3).trans rfl
           have hfz53_0:=bz_ BK183.out 0
           have hfz53_1:=bz_ BK183.out 1
           have hfz53_2:=bz_ BK183.out 2
           have hfz53_3:=bz_ BK183.out 3
           go_wp2_with (first | ((with_reducible refine gate_callee (f:=37) rfl ?_); refine goesL_ (some 43) rfl rfl Tryz.func37 (by kernel_rfl) rfl #[.int .i64 a0_0,.int .i64 a0_1,.int .i64 (rd t188 x34_2)] rfl ob_ ?_; (with_reducible refine (spec_sqFigure.calls k2 a0_0 a0_1 (rd t188 x34_2) t192 t193 t194 t197 _ A32.out).mono ?_); rintro e w54 ⟨v195,v198,rfl,ho0,ho1,hb⟩; refine ⟨_,rfl,?_⟩; have n0_:=am_ (Kd.R_mono (Kd.R_told (Kd.R_told (Kd.R_old (kr_ HO_32.out) hb) (Kd.R_base ho0)) (Kd.R_base ho1)) (fun _ h_ => h_.1)); have n1_:=am_ (Kd.R_mono (Kd.R_told (Kd.R_told (Kd.R_old (kr_ HO_188002.out) hb) (Kd.R_base ho0)) (Kd.R_base ho1)) (fun _ h_ => h_.1)); have n2_:=am_ (Kd.R_mono (Kd.R_told (Kd.R_told (Kd.R_old (kr_ HO_188003.out) hb) (Kd.R_base ho0)) (Kd.R_base ho1)) (fun _ h_ => h_.1)); have n3_:=am_ (Kd.R_lower (Kd.R_new' (Kd.R_new' (Kd.R_new' ho0 (Kd.R_lt (kr_ HO_32.out))) (Kd.R_lt (kr_ HO_188002.out))) (Kd.R_lt (kr_ HO_188003.out))) (below_size (bl3_ HB.out GE183.out GE184.out GE187.out))); have n4_:=am_ (Kd.R_lower (Kd.R_new' (Kd.R_new' (Kd.R_new' ho1 (Kd.R_lt (kr_ HO_32.out))) (Kd.R_lt (kr_ HO_188002.out))) (Kd.R_lt (kr_ HO_188003.out))) (below_size (bl3_ HB.out GE183.out GE184.out GE187.out))); have n5_:=am_ (bb_ BK183.out hb); have n6_:=am_ (bb_ BK184.out hb); have n7_:=am_ (bb_ BK187.out hb); have n8_:=am_ (below_step (bl3_ HB.out GE183.out GE184.out GE187.out) hb); clear HO_32; clear HO_188002; clear HO_188003; clear BK183; clear BK184; clear BK187; clear HB; have HO_32:=n0_; have HO_188002:=n1_; have HO_188003:=n2_; have HO196:=n3_; have HO199:=n4_; have BK183:=n5_; have BK184:=n6_; have BK187:=n7_; have HB:=n8_; clear n0_ n1_ n2_ n3_ n4_ n5_ n6_ n7_ n8_; (try clear hb); (try clear hb2); (try clear hk); (try clear hi); (try clear ho0); (try clear ho1)) | ((with_reducible refine gate_dst (N:=14) rfl ?_); refine boxE_ (N:=14) (cs:=#[.int .i64 0,.int .i64 0,.slice none 0 0,.slice none 0 0]) (t:=26) ?_; intro gb200 hg w55 hbox hb; have n0_:=am_ (Kd.R_below (kr_ HO_32.out) hb); have n1_:=am_ (Kd.R_below (kr_ HO_188002.out) hb); have n2_:=am_ (Kd.R_below (kr_ HO_188003.out) hb); have n3_:=am_ (Kd.R_below (kr_ HO196.out) hb); have n4_:=am_ (Kd.R_below (kr_ HO199.out) hb); have n5_:=am_ (bb_ BK183.out hb); have n6_:=am_ (bb_ BK184.out hb); have n7_:=am_ (bb_ BK187.out hb); have n8_:=am_ (below_step (bl3_ HB.out GE183.out GE184.out GE187.out) hb); have n9_:=am_ (hbox); have n10_:=am_ ((bs3_ hg HB.out GE183.out GE184.out GE187.out:w.heap.size ≤ gb200)); have n11_:=am_ ((bs3_ hg HB.out GE183.out GE184.out GE187.out:w.heap.size ≤ gb200)); have n12_:=am_ ((nl_ hg BK183.out:gb183 ≠ gb200)); have n13_:=am_ ((ng_ hg BK183.out:gb200 ≠ gb183)); have n14_:=am_ ((nl_ hg BK184.out:gb184 ≠ gb200)); have n15_:=am_ ((ng_ hg BK184.out:gb200 ≠ gb184)); have n16_:=am_ ((nl_ hg BK187.out:gb187 ≠ gb200)); have n17_:=am_ ((ng_ hg BK187.out:gb200 ≠ gb187)); clear HO_32; clear HO_188002; clear HO_188003; clear HO196; clear HO199; clear BK183; clear BK184; clear BK187; clear HB; have HO_32:=n0_; have HO_188002:=n1_; have HO_188003:=n2_; have HO196:=n3_; have HO199:=n4_; have BK183:=n5_; have BK184:=n6_; have BK187:=n7_; have HB:=n8_; have BK200:=n9_; have GW200:=n10_; have GE200:=n11_; have NB183_200:=n12_; have NB200_183:=n13_; have NB184_200:=n14_; have NB200_184:=n15_; have NB187_200:=n16_; have NB200_187:=n17_; clear n0_ n1_ n2_ n3_ n4_ n5_ n6_ n7_ n8_ n9_ n10_ n11_ n12_ n13_ n14_ n15_ n16_ n17_; clear hb hbox hg; have hnb56:=NB200_183.out; have hnc56:=NB183_200.out; have hnb57:=NB200_184.out; have hnc57:=NB184_200.out; have hnb58:=NB200_187.out; have hnc58:=NB187_200.out; have hcz59_0:w55.cell? ⟨gb200,0,none⟩ = some (.int .i64 0):=(bc_ BK200.out 0).trans rfl; have hcz59_1:w55.cell? ⟨gb200,1,none⟩ = some (.int .i64 0):=(bc_ BK200.out 1).trans rfl; have hcz59_2:w55.cell? ⟨gb200,2,none⟩ = some (.slice none 0 0):=(bc_ BK200.out 2).trans rfl; have hcz59_3:w55.cell? ⟨gb200,3,none⟩ = some (.slice none 0 0):=(bc_ BK200.out 3).trans rfl; have hfz59_0:=bz_ BK200.out 0; have hfz59_1:=bz_ BK200.out 1; have hfz59_2:=bz_ BK200.out 2; have hfz59_3:=bz_ BK200.out 3; obtain ⟨Ao60,co60,eo60⟩:=Kd.R_slice HO196.out; subst eo60; obtain ⟨Ao61,co61,eo61⟩:=Kd.R_slice HO199.out; subst eo61) | ((with_reducible refine gate_callee (f:=38) rfl ?_); refine goesL_ (some 45) rfl rfl Tryz.func38 (by kernel_rfl) rfl #[.agg #[.int .i64 t192,.int .i64 t193,.slice Ao60 t194.length co60,.slice Ao61 t197.length co61]] rfl ob_ ?_; (with_reducible refine (spec_fiText.calls k2 t192 t193 _ _ t194 _ _ t197 t201 _ ?side1 ?side2 ?side3 ?side4 A33.out).mono ?_); (case side1 => refine (Kd.R_reads' (e:=3) (base:=w.heap.size) (ok:=fun k_ => (((some k_ ≠ (.slice Ao61 t197.length co61:Value).ownBlock ∧ some k_ ≠ (.slice (some ad191) t188.length co28:Value).ownBlock) ∧ some k_ ≠ (u188002:Value).ownBlock) ∧ some k_ ≠ (u188003:Value).ownBlock)) (n:=t194.length) (c:=co60) ?_).2.2; exact (by (with_reducible repeat (first | apply Kd.R_alloc | apply Kd.R_drewN | apply Kd.R_drew)); exact (Kd.R_mono (Kd.R_far (p:=⟨gb200,3,none⟩) (Kd.R_far (p:=⟨gb200,2,none⟩) (Kd.R_far (p:=⟨gb200,1,none⟩) (Kd.R_far (p:=⟨gb200,0,none⟩) (Kd.R_types HO196.out BK200.out (by decide)) (fun _ hk => hk.2) (.int .i64 t192)) (fun _ hk => hk.2) (.int .i64 t193)) (fun _ hk => hk.2) (.slice Ao60 t194.length co60)) (fun _ hk => hk.2) (.slice Ao61 t197.length co61)) (fun _ h_ => h_.1)))); (case side2 => exact (Kd.R_reads' HO196.out).2.1); (case side3 => refine (Kd.R_reads' (e:=3) (base:=w.heap.size) (ok:=fun k_ => (((some k_ ≠ (.slice Ao60 t194.length co60:Value).ownBlock ∧ some k_ ≠ (.slice (some ad191) t188.length co28:Value).ownBlock) ∧ some k_ ≠ (u188002:Value).ownBlock) ∧ some k_ ≠ (u188003:Value).ownBlock)) (n:=t197.length) (c:=co61) ?_).2.2; exact (by (with_reducible repeat (first | apply Kd.R_alloc | apply Kd.R_drewN | apply Kd.R_drew)); exact (Kd.R_mono (Kd.R_far (p:=⟨gb200,3,none⟩) (Kd.R_far (p:=⟨gb200,2,none⟩) (Kd.R_far (p:=⟨gb200,1,none⟩) (Kd.R_far (p:=⟨gb200,0,none⟩) (Kd.R_types HO199.out BK200.out (by decide)) (fun _ hk => hk.2) (.int .i64 t192)) (fun _ hk => hk.2) (.int .i64 t193)) (fun _ hk => hk.2) (.slice Ao60 t194.length co60)) (fun _ hk => hk.2) (.slice Ao61 t197.length co61)) (fun _ h_ => h_.1)))); (case side4 => exact (Kd.R_reads' HO199.out).2.1); rintro e w62 ⟨rfl,hb⟩; refine ⟨_,rfl,?_⟩; have n0_:=am_ (Kd.R_below (by (with_reducible repeat (first | apply Kd.R_alloc | apply Kd.R_drewN | apply Kd.R_drew)); exact (Kd.R_mono (Kd.R_far (p:=⟨gb200,3,none⟩) (Kd.R_far (p:=⟨gb200,2,none⟩) (Kd.R_far (p:=⟨gb200,1,none⟩) (Kd.R_far (p:=⟨gb200,0,none⟩) (Kd.R_types HO_32.out BK200.out (by decide)) (fun _ hk => hk.2) (.int .i64 t192)) (fun _ hk => hk.2) (.int .i64 t193)) (fun _ hk => hk.2) (.slice Ao60 t194.length co60)) (fun _ hk => hk.2) (.slice Ao61 t197.length co61)) (fun _ h_ => h_.1))) hb); have n1_:=am_ (Kd.R_below (by (with_reducible repeat (first | apply Kd.R_alloc | apply Kd.R_drewN | apply Kd.R_drew)); exact (Kd.R_mono (Kd.R_far (p:=⟨gb200,3,none⟩) (Kd.R_far (p:=⟨gb200,2,none⟩) (Kd.R_far (p:=⟨gb200,1,none⟩) (Kd.R_far (p:=⟨gb200,0,none⟩) (Kd.R_types HO_188002.out BK200.out (by decide)) (fun _ hk => hk.2) (.int .i64 t192)) (fun _ hk => hk.2) (.int .i64 t193)) (fun _ hk => hk.2) (.slice Ao60 t194.length co60)) (fun _ hk => hk.2) (.slice Ao61 t197.length co61)) (fun _ h_ => h_.1))) hb); have n2_:=am_ (Kd.R_below (by (with_reducible repeat (first | apply Kd.R_alloc | apply Kd.R_drewN | apply Kd.R_drew)); exact (Kd.R_mono (Kd.R_far (p:=⟨gb200,3,none⟩) (Kd.R_far (p:=⟨gb200,2,none⟩) (Kd.R_far (p:=⟨gb200,1,none⟩) (Kd.R_far (p:=⟨gb200,0,none⟩) (Kd.R_types HO_188003.out BK200.out (by decide)) (fun _ hk => hk.2) (.int .i64 t192)) (fun _ hk => hk.2) (.int .i64 t193)) (fun _ hk => hk.2) (.slice Ao60 t194.length co60)) (fun _ hk => hk.2) (.slice Ao61 t197.length co61)) (fun _ h_ => h_.1))) hb); have n3_:=am_ (Kd.R_below (by (with_reducible repeat (first | apply Kd.R_alloc | apply Kd.R_drewN | apply Kd.R_drew)); exact (Kd.R_mono (Kd.R_far (p:=⟨gb200,3,none⟩) (Kd.R_far (p:=⟨gb200,2,none⟩) (Kd.R_far (p:=⟨gb200,1,none⟩) (Kd.R_far (p:=⟨gb200,0,none⟩) (Kd.R_types HO196.out BK200.out (by decide)) (fun _ hk => hk.2) (.int .i64 t192)) (fun _ hk => hk.2) (.int .i64 t193)) (fun _ hk => hk.2) (.slice Ao60 t194.length co60)) (fun _ hk => hk.2) (.slice Ao61 t197.length co61)) (fun _ h_ => h_.1))) hb); have n4_:=am_ (Kd.R_below (by (with_reducible repeat (first | apply Kd.R_alloc | apply Kd.R_drewN | apply Kd.R_drew)); exact (Kd.R_mono (Kd.R_far (p:=⟨gb200,3,none⟩) (Kd.R_far (p:=⟨gb200,2,none⟩) (Kd.R_far (p:=⟨gb200,1,none⟩) (Kd.R_far (p:=⟨gb200,0,none⟩) (Kd.R_types HO199.out BK200.out (by decide)) (fun _ hk => hk.2) (.int .i64 t192)) (fun _ hk => hk.2) (.int .i64 t193)) (fun _ hk => hk.2) (.slice Ao60 t194.length co60)) (fun _ hk => hk.2) (.slice Ao61 t197.length co61)) (fun _ h_ => h_.1))) hb); have n5_:=am_ (blk_below (g:=gb183) (o:=.cells #[.int .i64 a0_0,.int .i64 a0_1,.slice A0_2 l0_2.length c0_2,.slice A0_3 l0_3.length c0_3] 26 (0,0)) (bf4_ NB183_200.out NB183_200.out NB183_200.out NB183_200.out BK183.out) hb); have n6_:=am_ (blk_below (g:=gb184) (o:=.cells #[.int .i64 0,.int .i64 0,.slice none 0 0,.slice none 0 0] 26 (0,0)) (bf4_ NB184_200.out NB184_200.out NB184_200.out NB184_200.out BK184.out) hb); have n7_:=am_ (blk_below (g:=gb187) (o:=.cells #[.int .i64 x188000_2,.int .i64 x188001_2,u188002,u188003] 26 (0,0)) (bf4_ NB187_200.out NB187_200.out NB187_200.out NB187_200.out BK187.out) hb); have n8_:=am_ (blk_below (g:=gb200) (o:=.cells #[.int .i64 t192,.int .i64 t193,.slice Ao60 t194.length co60,.slice Ao61 t197.length co61] 26 (0,0)) (by (with_reducible repeat (first | refine blk_drewN ?_ _ | refine blk_drew ?_ | refine blk_alloc ?_ _)); refine blk_put (cs:=#[.int .i64 t192,.int .i64 t193,.slice Ao60 t194.length co60,.slice none 0 0]) ?_ 3 _ rfl; (with_reducible repeat (first | refine blk_drewN ?_ _ | refine blk_drew ?_ | refine blk_alloc ?_ _)); refine blk_put (cs:=#[.int .i64 t192,.int .i64 t193,.slice none 0 0,.slice none 0 0]) ?_ 2 _ rfl; (with_reducible repeat (first | refine blk_drewN ?_ _ | refine blk_drew ?_ | refine blk_alloc ?_ _)); refine blk_put (cs:=#[.int .i64 t192,.int .i64 0,.slice none 0 0,.slice none 0 0]) ?_ 1 _ rfl; (with_reducible repeat (first | refine blk_drewN ?_ _ | refine blk_drew ?_ | refine blk_alloc ?_ _)); refine blk_put (cs:=#[.int .i64 0,.int .i64 0,.slice none 0 0,.slice none 0 0]) ?_ 0 _ rfl; (with_reducible repeat (first | refine blk_drewN ?_ _ | refine blk_drew ?_ | refine blk_alloc ?_ _)); exact BK200.out) hb); have n9_:=am_ (below_step (bl4_ HB.out GE183.out GE184.out GE187.out GE200.out) hb); clear HO_32; clear HO_188002; clear HO_188003; clear HO196; clear HO199; clear BK183; clear BK184; clear BK187; clear BK200; clear HB; have HO_32:=n0_; have HO_188002:=n1_; have HO_188003:=n2_; have HO196:=n3_; have HO199:=n4_; have BK183:=n5_; have BK184:=n6_; have BK187:=n7_; have BK200:=n8_; have HB:=n9_; clear n0_ n1_ n2_ n3_ n4_ n5_ n6_ n7_ n8_ n9_; (try clear hb); (try clear hb2); (try clear hk); (try clear hi); have hcz63_0:w62.cell? ⟨gb200,0,none⟩ = some (.int .i64 t192):=(bc_ BK200.out 0).trans rfl; have hcz63_1:w62.cell? ⟨gb200,1,none⟩ = some (.int .i64 t193):=(bc_ BK200.out 1).trans rfl; have hcz63_2:w62.cell? ⟨gb200,2,none⟩ = some (.slice Ao60 t194.length co60):=(bc_ BK200.out 2).trans rfl; have hcz63_3:w62.cell? ⟨gb200,3,none⟩ = some (.slice Ao61 t197.length co61):=(bc_ BK200.out 3).trans rfl; have hfz63_0:=bz_ BK200.out 0; have hfz63_1:=bz_ BK200.out 1; have hfz63_2:=bz_ BK200.out 2; have hfz63_3:=bz_ BK200.out 3; have hnb64:=NB187_184.out; have hnc64:=NB184_187.out; have hcz65_0:w62.cell? ⟨gb187,0,none⟩ = some (.int .i64 x188000_2):=(bc_ BK187.out 0).trans rfl; have hcz65_1:w62.cell? ⟨gb187,1,none⟩ = some (.int .i64 x188001_2):=(bc_ BK187.out 1).trans rfl; have hcz65_2:w62.cell? ⟨gb187,2,none⟩ = some (u188002):=(bc_ BK187.out 2).trans rfl; have hcz65_3:w62.cell? ⟨gb187,3,none⟩ = some (u188003):=(bc_ BK187.out 3).trans rfl; have hfz65_0:=bz_ BK187.out 0; have hfz65_1:=bz_ BK187.out 1; have hfz65_2:=bz_ BK187.out 2; have hfz65_3:=bz_ BK187.out 3))
           go_roundg k2
           case measure => have:=HJ4.out; have:=HK2.out; omega
           case rel => exact ⟨(t201),(wrap64 (x34_2 + 1)),(t192),(t193),(t194),(t197),(.slice Ao60 t194.length co60),(.slice Ao61 t197.length co61),rs_,rs_,H',⟨by have:=HJ4.out; have:=HK2.out; omega⟩,⟨by (with_reducible repeat (first | apply Kd.R_alloc | apply Kd.R_drewN | apply Kd.R_drew)); exact Kd.R_mono (Kd.R_far (p:=⟨gb187,3,none⟩) (Kd.R_far (p:=⟨gb187,2,none⟩) (Kd.R_far (p:=⟨gb187,1,none⟩) (Kd.R_far (p:=⟨gb187,0,none⟩) (Kd.R_types HO_32.out BK187.out (by decide)) (fun _ hk => hk.2) (.int .i64 t192)) (fun _ hk => hk.2) (.int .i64 t193)) (fun _ hk => hk.2) (.slice Ao60 t194.length co60)) (fun _ hk => hk.2) (.slice Ao61 t197.length co61)) (fun _ hk => ⟨hk.1.1.2,hk.1.2⟩)⟩,⟨by (with_reducible repeat (first | apply Kd.R_alloc | apply Kd.R_drewN | apply Kd.R_drew)); exact Kd.R_mono (Kd.R_far (p:=⟨gb187,3,none⟩) (Kd.R_far (p:=⟨gb187,2,none⟩) (Kd.R_far (p:=⟨gb187,1,none⟩) (Kd.R_far (p:=⟨gb187,0,none⟩) (Kd.R_types HO196.out BK187.out (by decide)) (fun _ hk => hk.2) (.int .i64 t192)) (fun _ hk => hk.2) (.int .i64 t193)) (fun _ hk => hk.2) (.slice Ao60 t194.length co60)) (fun _ hk => hk.2) (.slice Ao61 t197.length co61)) (fun _ hk => ⟨hk.1.1.1.2,hk.1.1.1.1⟩)⟩,⟨by (with_reducible repeat (first | apply Kd.R_alloc | apply Kd.R_drewN | apply Kd.R_drew)); exact Kd.R_mono (Kd.R_far (p:=⟨gb187,3,none⟩) (Kd.R_far (p:=⟨gb187,2,none⟩) (Kd.R_far (p:=⟨gb187,1,none⟩) (Kd.R_far (p:=⟨gb187,0,none⟩) (Kd.R_types HO199.out BK187.out (by decide)) (fun _ hk => hk.2) (.int .i64 t192)) (fun _ hk => hk.2) (.int .i64 t193)) (fun _ hk => hk.2) (.slice Ao60 t194.length co60)) (fun _ hk => hk.2) (.slice Ao61 t197.length co61)) (fun _ hk => ⟨hk.1.1.1.2,hk.1.1.1.1⟩)⟩,⟨bf4_ NB183_187.out NB183_187.out NB183_187.out NB183_187.out BK183.out⟩,⟨bf4_ NB184_187.out NB184_187.out NB184_187.out NB184_187.out BK184.out⟩,⟨by (with_reducible repeat (first | refine blk_drewN ?_ _ | refine blk_drew ?_ | refine blk_alloc ?_ _)); refine blk_put (cs:=#[.int .i64 t192,.int .i64 t193,.slice Ao60 t194.length co60,u188003]) ?_ 3 _ rfl; (with_reducible repeat (first | refine blk_drewN ?_ _ | refine blk_drew ?_ | refine blk_alloc ?_ _)); refine blk_put (cs:=#[.int .i64 t192,.int .i64 t193,u188002,u188003]) ?_ 2 _ rfl; (with_reducible repeat (first | refine blk_drewN ?_ _ | refine blk_drew ?_ | refine blk_alloc ?_ _)); refine blk_put (cs:=#[.int .i64 t192,.int .i64 x188001_2,u188002,u188003]) ?_ 1 _ rfl; (with_reducible repeat (first | refine blk_drewN ?_ _ | refine blk_drew ?_ | refine blk_alloc ?_ _)); refine blk_put (cs:=#[.int .i64 x188000_2,.int .i64 x188001_2,u188002,u188003]) ?_ 0 _ rfl; (with_reducible repeat (first | refine blk_drewN ?_ _ | refine blk_drew ?_ | refine blk_alloc ?_ _)); exact BK187.out⟩,⟨bl4_ HB.out GE183.out GE184.out GE187.out GE200.out⟩⟩
          ·rw [if_neg c50] at H
           have c50b0:(Op.bytesLess t201.toList x11_2.toList) = false:=by simpa using c50
           clear c50
           have H':=am_ H
           clear H
           have p191:0 ≤ (x34_2:Int):=of_decide_eq_true as_
           have q191:x34_2 < (t188.length:Int):=of_decide_eq_true as_
           obtain ⟨ad191,e191,hx191_0⟩:=Kd.at_int (Kd.R_reads' HO_32.out).2.2 x34_2 p191 q191
           cases e191
           replace p191:=eq_true p191
           replace q191:=eq_true q191
           have hnb66:=NB183_184.out
           have hnc66:=NB184_183.out
           have hnb67:=NB183_187.out
           have hnc67:=NB187_183.out
           have hcz68_0:wr.cell? ⟨gb183,0,none⟩ = some (.int .i64 a0_0):=(bc_ BK183.out 0).trans rfl
           have hcz68_1:wr.cell? ⟨gb183,1,none⟩ = some (.int .i64 a0_1):=(bc_ BK183.out 1).trans rfl
           have hcz68_2:wr.cell? ⟨gb183,2,none⟩ = some (.slice A0_2 l0_2.length c0_2):=(bc_ BK183.out 2).trans rfl
           have hcz68_3:wr.cell? ⟨gb183,3,none⟩ = some (.slice A0_3 l0_3.length c0_3):=(bc_ BK183.out 3).trans rfl
           have hfz68_0:=bz_ BK183.out 0
           have hfz68_1:=bz_ BK183.out 1
           have hfz68_2:=bz_ BK183.out 2
           have hfz68_3:=bz_ BK183.out 3
           go_wp2_with (first | ((with_reducible refine gate_callee (f:=37) rfl ?_); refine goesL_ (some 43) rfl rfl Tryz.func37 (by kernel_rfl) rfl #[.int .i64 a0_0,.int .i64 a0_1,.int .i64 (rd t188 x34_2)] rfl ob_ ?_; (with_reducible refine (spec_sqFigure.calls k2 a0_0 a0_1 (rd t188 x34_2) t192 t193 t194 t197 _ A32.out).mono ?_); rintro e w69 ⟨v195,v198,rfl,ho0,ho1,hb⟩; refine ⟨_,rfl,?_⟩; have n0_:=am_ (Kd.R_mono (Kd.R_told (Kd.R_told (Kd.R_old (kr_ HO_32.out) hb) (Kd.R_base ho0)) (Kd.R_base ho1)) (fun _ h_ => h_.1)); have n1_:=am_ (Kd.R_mono (Kd.R_told (Kd.R_told (Kd.R_old (kr_ HO_188002.out) hb) (Kd.R_base ho0)) (Kd.R_base ho1)) (fun _ h_ => h_.1)); have n2_:=am_ (Kd.R_mono (Kd.R_told (Kd.R_told (Kd.R_old (kr_ HO_188003.out) hb) (Kd.R_base ho0)) (Kd.R_base ho1)) (fun _ h_ => h_.1)); have n3_:=am_ (Kd.R_lower (Kd.R_new' (Kd.R_new' (Kd.R_new' ho0 (Kd.R_lt (kr_ HO_32.out))) (Kd.R_lt (kr_ HO_188002.out))) (Kd.R_lt (kr_ HO_188003.out))) (below_size (bl3_ HB.out GE183.out GE184.out GE187.out))); have n4_:=am_ (Kd.R_lower (Kd.R_new' (Kd.R_new' (Kd.R_new' ho1 (Kd.R_lt (kr_ HO_32.out))) (Kd.R_lt (kr_ HO_188002.out))) (Kd.R_lt (kr_ HO_188003.out))) (below_size (bl3_ HB.out GE183.out GE184.out GE187.out))); have n5_:=am_ (bb_ BK183.out hb); have n6_:=am_ (bb_ BK184.out hb); have n7_:=am_ (bb_ BK187.out hb); have n8_:=am_ (below_step (bl3_ HB.out GE183.out GE184.out GE187.out) hb); clear HO_32; clear HO_188002; clear HO_188003; clear BK183; clear BK184; clear BK187; clear HB; have HO_32:=n0_; have HO_188002:=n1_; have HO_188003:=n2_; have HO196:=n3_; have HO199:=n4_; have BK183:=n5_; have BK184:=n6_; have BK187:=n7_; have HB:=n8_; clear n0_ n1_ n2_ n3_ n4_ n5_ n6_ n7_ n8_; (try clear hb); (try clear hb2); (try clear hk); (try clear hi); (try clear ho0); (try clear ho1)) | ((with_reducible refine gate_dst (N:=14) rfl ?_); refine boxE_ (N:=14) (cs:=#[.int .i64 0,.int .i64 0,.slice none 0 0,.slice none 0 0]) (t:=26) ?_; intro gb200 hg w70 hbox hb; have n0_:=am_ (Kd.R_below (kr_ HO_32.out) hb); have n1_:=am_ (Kd.R_below (kr_ HO_188002.out) hb); have n2_:=am_ (Kd.R_below (kr_ HO_188003.out) hb); have n3_:=am_ (Kd.R_below (kr_ HO196.out) hb); have n4_:=am_ (Kd.R_below (kr_ HO199.out) hb); have n5_:=am_ (bb_ BK183.out hb); have n6_:=am_ (bb_ BK184.out hb); have n7_:=am_ (bb_ BK187.out hb); have n8_:=am_ (below_step (bl3_ HB.out GE183.out GE184.out GE187.out) hb); have n9_:=am_ (hbox); have n10_:=am_ ((bs3_ hg HB.out GE183.out GE184.out GE187.out:w.heap.size ≤ gb200)); have n11_:=am_ ((bs3_ hg HB.out GE183.out GE184.out GE187.out:w.heap.size ≤ gb200)); have n12_:=am_ ((nl_ hg BK183.out:gb183 ≠ gb200)); have n13_:=am_ ((ng_ hg BK183.out:gb200 ≠ gb183)); have n14_:=am_ ((nl_ hg BK184.out:gb184 ≠ gb200)); have n15_:=am_ ((ng_ hg BK184.out:gb200 ≠ gb184)); have n16_:=am_ ((nl_ hg BK187.out:gb187 ≠ gb200)); have n17_:=am_ ((ng_ hg BK187.out:gb200 ≠ gb187)); clear HO_32; clear HO_188002; clear HO_188003; clear HO196; clear HO199; clear BK183; clear BK184; clear BK187; clear HB; have HO_32:=n0_; have HO_188002:=n1_; have HO_188003:=n2_; have HO196:=n3_; have HO199:=n4_; have BK183:=n5_; have BK184:=n6_; have BK187:=n7_; have HB:=n8_; have BK200:=n9_; have GW200:=n10_; have GE200:=n11_; have NB183_200:=n12_; have NB200_183:=n13_; have NB184_200:=n14_; have NB200_184:=n15_; have NB187_200:=n16_; have NB200_187:=n17_; clear n0_ n1_ n2_ n3_ n4_ n5_ n6_ n7_ n8_ n9_ n10_ n11_ n12_ n13_ n14_ n15_ n16_ n17_; clear hb hbox hg; have hnb71:=NB200_183.out; have hnc71:=NB183_200.out; have hnb72:=NB200_184.out; have hnc72:=NB184_200.out; have hnb73:=NB200_187.out; have hnc73:=NB187_200.out; have hcz74_0:w70.cell? ⟨gb200,0,none⟩ = some (.int .i64 0):=(bc_ BK200.out 0).trans rfl; have hcz74_1:w70.cell? ⟨gb200,1,none⟩ = some (.int .i64 0):=(bc_ BK200.out 1).trans rfl; have hcz74_2:w70.cell? ⟨gb200,2,none⟩ = some (.slice none 0 0):=(bc_ BK200.out 2).trans rfl; have hcz74_3:w70.cell? ⟨gb200,3,none⟩ = some (.slice none 0 0):=(bc_ BK200.out 3).trans rfl; have hfz74_0:=bz_ BK200.out 0; have hfz74_1:=bz_ BK200.out 1; have hfz74_2:=bz_ BK200.out 2; have hfz74_3:=bz_ BK200.out 3; obtain ⟨Ao75,co75,eo75⟩:=Kd.R_slice HO196.out; subst eo75; obtain ⟨Ao76,co76,eo76⟩:=Kd.R_slice HO199.out; subst eo76) | ((with_reducible refine gate_callee (f:=38) rfl ?_); refine goesL_ (some 45) rfl rfl Tryz.func38 (by kernel_rfl) rfl #[.agg #[.int .i64 t192,.int .i64 t193,.slice Ao75 t194.length co75,.slice Ao76 t197.length co76]] rfl ob_ ?_; (with_reducible refine (spec_fiText.calls k2 t192 t193 _ _ t194 _ _ t197 t201 _ ?side1 ?side2 ?side3 ?side4 A33.out).mono ?_); (case side1 => refine (Kd.R_reads' (e:=3) (base:=w.heap.size) (ok:=fun k_ => (((some k_ ≠ (.slice Ao76 t197.length co76:Value).ownBlock ∧ some k_ ≠ (.slice (some ad191) t188.length co28:Value).ownBlock) ∧ some k_ ≠ (u188002:Value).ownBlock) ∧ some k_ ≠ (u188003:Value).ownBlock)) (n:=t194.length) (c:=co75) ?_).2.2; exact (by (with_reducible repeat (first | apply Kd.R_alloc | apply Kd.R_drewN | apply Kd.R_drew)); exact (Kd.R_mono (Kd.R_far (p:=⟨gb200,3,none⟩) (Kd.R_far (p:=⟨gb200,2,none⟩) (Kd.R_far (p:=⟨gb200,1,none⟩) (Kd.R_far (p:=⟨gb200,0,none⟩) (Kd.R_types HO196.out BK200.out (by decide)) (fun _ hk => hk.2) (.int .i64 t192)) (fun _ hk => hk.2) (.int .i64 t193)) (fun _ hk => hk.2) (.slice Ao75 t194.length co75)) (fun _ hk => hk.2) (.slice Ao76 t197.length co76)) (fun _ h_ => h_.1)))); (case side2 => exact (Kd.R_reads' HO196.out).2.1); (case side3 => refine (Kd.R_reads' (e:=3) (base:=w.heap.size) (ok:=fun k_ => (((some k_ ≠ (.slice Ao75 t194.length co75:Value).ownBlock ∧ some k_ ≠ (.slice (some ad191) t188.length co28:Value).ownBlock) ∧ some k_ ≠ (u188002:Value).ownBlock) ∧ some k_ ≠ (u188003:Value).ownBlock)) (n:=t197.length) (c:=co76) ?_).2.2; exact (by (with_reducible repeat (first | apply Kd.R_alloc | apply Kd.R_drewN | apply Kd.R_drew)); exact (Kd.R_mono (Kd.R_far (p:=⟨gb200,3,none⟩) (Kd.R_far (p:=⟨gb200,2,none⟩) (Kd.R_far (p:=⟨gb200,1,none⟩) (Kd.R_far (p:=⟨gb200,0,none⟩) (Kd.R_types HO199.out BK200.out (by decide)) (fun _ hk => hk.2) (.int .i64 t192)) (fun _ hk => hk.2) (.int .i64 t193)) (fun _ hk => hk.2) (.slice Ao75 t194.length co75)) (fun _ hk => hk.2) (.slice Ao76 t197.length co76)) (fun _ h_ => h_.1)))); (case side4 => exact (Kd.R_reads' HO199.out).2.1); rintro e w77 ⟨rfl,hb⟩; refine ⟨_,rfl,?_⟩; have n0_:=am_ (Kd.R_below (by (with_reducible repeat (first | apply Kd.R_alloc | apply Kd.R_drewN | apply Kd.R_drew)); exact (Kd.R_mono (Kd.R_far (p:=⟨gb200,3,none⟩) (Kd.R_far (p:=⟨gb200,2,none⟩) (Kd.R_far (p:=⟨gb200,1,none⟩) (Kd.R_far (p:=⟨gb200,0,none⟩) (Kd.R_types HO_32.out BK200.out (by decide)) (fun _ hk => hk.2) (.int .i64 t192)) (fun _ hk => hk.2) (.int .i64 t193)) (fun _ hk => hk.2) (.slice Ao75 t194.length co75)) (fun _ hk => hk.2) (.slice Ao76 t197.length co76)) (fun _ h_ => h_.1))) hb); have n1_:=am_ (Kd.R_below (by (with_reducible repeat (first | apply Kd.R_alloc | apply Kd.R_drewN | apply Kd.R_drew)); exact (Kd.R_mono (Kd.R_far (p:=⟨gb200,3,none⟩) (Kd.R_far (p:=⟨gb200,2,none⟩) (Kd.R_far (p:=⟨gb200,1,none⟩) (Kd.R_far (p:=⟨gb200,0,none⟩) (Kd.R_types HO_188002.out BK200.out (by decide)) (fun _ hk => hk.2) (.int .i64 t192)) (fun _ hk => hk.2) (.int .i64 t193)) (fun _ hk => hk.2) (.slice Ao75 t194.length co75)) (fun _ hk => hk.2) (.slice Ao76 t197.length co76)) (fun _ h_ => h_.1))) hb); have n2_:=am_ (Kd.R_below (by (with_reducible repeat (first | apply Kd.R_alloc | apply Kd.R_drewN | apply Kd.R_drew)); exact (Kd.R_mono (Kd.R_far (p:=⟨gb200,3,none⟩) (Kd.R_far (p:=⟨gb200,2,none⟩) (Kd.R_far (p:=⟨gb200,1,none⟩) (Kd.R_far (p:=⟨gb200,0,none⟩) (Kd.R_types HO_188003.out BK200.out (by decide)) (fun _ hk => hk.2) (.int .i64 t192)) (fun _ hk => hk.2) (.int .i64 t193)) (fun _ hk => hk.2) (.slice Ao75 t194.length co75)) (fun _ hk => hk.2) (.slice Ao76 t197.length co76)) (fun _ h_ => h_.1))) hb); have n3_:=am_ (Kd.R_below (by (with_reducible repeat (first | apply Kd.R_alloc | apply Kd.R_drewN | apply Kd.R_drew)); exact (Kd.R_mono (Kd.R_far (p:=⟨gb200,3,none⟩) (Kd.R_far (p:=⟨gb200,2,none⟩) (Kd.R_far (p:=⟨gb200,1,none⟩) (Kd.R_far (p:=⟨gb200,0,none⟩) (Kd.R_types HO196.out BK200.out (by decide)) (fun _ hk => hk.2) (.int .i64 t192)) (fun _ hk => hk.2) (.int .i64 t193)) (fun _ hk => hk.2) (.slice Ao75 t194.length co75)) (fun _ hk => hk.2) (.slice Ao76 t197.length co76)) (fun _ h_ => h_.1))) hb); have n4_:=am_ (Kd.R_below (by (with_reducible repeat (first | apply Kd.R_alloc | apply Kd.R_drewN | apply Kd.R_drew)); exact (Kd.R_mono (Kd.R_far (p:=⟨gb200,3,none⟩) (Kd.R_far (p:=⟨gb200,2,none⟩) (Kd.R_far (p:=⟨gb200,1,none⟩) (Kd.R_far (p:=⟨gb200,0,none⟩) (Kd.R_types HO199.out BK200.out (by decide)) (fun _ hk => hk.2) (.int .i64 t192)) (fun _ hk => hk.2) (.int .i64 t193)) (fun _ hk => hk.2) (.slice Ao75 t194.length co75)) (fun _ hk => hk.2) (.slice Ao76 t197.length co76)) (fun _ h_ => h_.1))) hb); have n5_:=am_ (blk_below (g:=gb183) (o:=.cells #[.int .i64 a0_0,.int .i64 a0_1,.slice A0_2 l0_2.length c0_2,.slice A0_3 l0_3.length c0_3] 26 (0,0)) (bf4_ NB183_200.out NB183_200.out NB183_200.out NB183_200.out BK183.out) hb); have n6_:=am_ (blk_below (g:=gb184) (o:=.cells #[.int .i64 0,.int .i64 0,.slice none 0 0,.slice none 0 0] 26 (0,0)) (bf4_ NB184_200.out NB184_200.out NB184_200.out NB184_200.out BK184.out) hb); have n7_:=am_ (blk_below (g:=gb187) (o:=.cells #[.int .i64 x188000_2,.int .i64 x188001_2,u188002,u188003] 26 (0,0)) (bf4_ NB187_200.out NB187_200.out NB187_200.out NB187_200.out BK187.out) hb); have n8_:=am_ (blk_below (g:=gb200) (o:=.cells #[.int .i64 t192,.int .i64 t193,.slice Ao75 t194.length co75,.slice Ao76 t197.length co76] 26 (0,0)) (by (with_reducible repeat (first | refine blk_drewN ?_ _ | refine blk_drew ?_ | refine blk_alloc ?_ _)); refine blk_put (cs:=#[.int .i64 t192,.int .i64 t193,.slice Ao75 t194.length co75,.slice none 0 0]) ?_ 3 _ rfl; (with_reducible repeat (first | refine blk_drewN ?_ _ | refine blk_drew ?_ | refine blk_alloc ?_ _)); refine blk_put (cs:=#[.int .i64 t192,.int .i64 t193,.slice none 0 0,.slice none 0 0]) ?_ 2 _ rfl; (with_reducible repeat (first | refine blk_drewN ?_ _ | refine blk_drew ?_ | refine blk_alloc ?_ _)); refine blk_put (cs:=#[.int .i64 t192,.int .i64 0,.slice none 0 0,.slice none 0 0]) ?_ 1 _ rfl; (with_reducible repeat (first | refine blk_drewN ?_ _ | refine blk_drew ?_ | refine blk_alloc ?_ _)); refine blk_put (cs:=#[.int .i64 0,.int .i64 0,.slice none 0 0,.slice none 0 0]) ?_ 0 _ rfl; (with_reducible repeat (first | refine blk_drewN ?_ _ | refine blk_drew ?_ | refine blk_alloc ?_ _)); exact BK200.out) hb); have n9_:=am_ (below_step (bl4_ HB.out GE183.out GE184.out GE187.out GE200.out) hb); clear HO_32; clear HO_188002; clear HO_188003; clear HO196; clear HO199; clear BK183; clear BK184; clear BK187; clear BK200; clear HB; have HO_32:=n0_; have HO_188002:=n1_; have HO_188003:=n2_; have HO196:=n3_; have HO199:=n4_; have BK183:=n5_; have BK184:=n6_; have BK187:=n7_; have BK200:=n8_; have HB:=n9_; clear n0_ n1_ n2_ n3_ n4_ n5_ n6_ n7_ n8_ n9_; (try clear hb); (try clear hb2); (try clear hk); (try clear hi)))
           go_roundg k2
           case measure => have:=HJ4.out; have:=HK2.out; omega
           case rel => exact ⟨(x11_2),(wrap64 (x34_2 + 1)),(x188000_2),(x188001_2),(x188002_2),(x188003_2),(u188002),(u188003),rs_,rs_,H',⟨by have:=HJ4.out; have:=HK2.out; omega⟩,⟨by (with_reducible repeat (first | apply Kd.R_alloc | apply Kd.R_drewN | apply Kd.R_drew)); exact Kd.R_mono HO_32.out (fun _ hk => ⟨hk.1.1.1,hk.1.1.2⟩)⟩,⟨by (with_reducible repeat (first | apply Kd.R_alloc | apply Kd.R_drewN | apply Kd.R_drew)); exact Kd.R_mono HO_188002.out (fun _ hk => ⟨hk.1.1.1,hk.1.1.2⟩)⟩,⟨by (with_reducible repeat (first | apply Kd.R_alloc | apply Kd.R_drewN | apply Kd.R_drew)); exact Kd.R_mono HO_188003.out (fun _ hk => ⟨hk.1.1.1,hk.1.1.2⟩)⟩,⟨bk_ BK183.out⟩,⟨bk_ BK184.out⟩,⟨bk_ BK187.out⟩,⟨bl4_ HB.out GE183.out GE184.out GE187.out GE200.out⟩⟩
        ·rw [if_neg c31] at H
         exact absurd H (by simp)
       ·rw [if_neg c30] at H
        exact absurd H (by simp)
      ·rw [if_neg c29] at H
       have c29b0:decide (x34_2 < (t188.length:Int)) = false:=decide_eq_false c29
       clear c29
       simp only [Option.some.injEq,Prod.mk.injEq] at H
       obtain ⟨rfl,rfl,rfl,rfl,rfl⟩:=H
       have hnb78:=NB187_183.out
       have hnc78:=NB183_187.out
       have hnb79:=NB187_184.out
       have hnc79:=NB184_187.out
       have hcz80_0:wr.cell? ⟨gb187,0,none⟩ = some (.int .i64 x188000_2):=(bc_ BK187.out 0).trans rfl
       have hcz80_1:wr.cell? ⟨gb187,1,none⟩ = some (.int .i64 x188001_2):=(bc_ BK187.out 1).trans rfl
       have hcz80_2:wr.cell? ⟨gb187,2,none⟩ = some (u188002):=(bc_ BK187.out 2).trans rfl
       have hcz80_3:wr.cell? ⟨gb187,3,none⟩ = some (u188003):=(bc_ BK187.out 3).trans rfl
       have hfz80_0:=bz_ BK187.out 0
       have hfz80_1:=bz_ BK187.out 1
       have hfz80_2:=bz_ BK187.out 2
       have hfz80_3:=bz_ BK187.out 3
       have hnb81:=NB184_183.out
       have hnc81:=NB183_184.out
       have hcz82_0:wr.cell? ⟨gb184,0,none⟩ = some (.int .i64 0):=(bc_ BK184.out 0).trans rfl
       have hcz82_1:wr.cell? ⟨gb184,1,none⟩ = some (.int .i64 0):=(bc_ BK184.out 1).trans rfl
       have hcz82_2:wr.cell? ⟨gb184,2,none⟩ = some (.slice none 0 0):=(bc_ BK184.out 2).trans rfl
       have hcz82_3:wr.cell? ⟨gb184,3,none⟩ = some (.slice none 0 0):=(bc_ BK184.out 3).trans rfl
       have hfz82_0:=bz_ BK184.out 0
       have hfz82_1:=bz_ BK184.out 1
       have hfz82_2:=bz_ BK184.out 2
       have hfz82_3:=bz_ BK184.out 3
       obtain ⟨Ao83,co83,eo83⟩:=Kd.R_slice HO_188002.out
       subst eo83
       obtain ⟨Ao84,co84,eo84⟩:=Kd.R_slice HO_188003.out
       subst eo84
       go_wp2
       refine bodyPost_ret (results_ct rfl _ _ gb184 26 #[.int .i64 x188000_2,.int .i64 x188001_2,.slice Ao83 x188002_2.length co83,.slice Ao84 x188003_2.length co84] (0,0) _ rfl (by (with_reducible repeat (first | refine blk_drewN ?_ _ | refine blk_drew ?_ | refine blk_alloc ?_ _)); refine blk_put (cs:=#[.int .i64 x188000_2,.int .i64 x188001_2,.slice Ao83 x188002_2.length co83,.slice none 0 0]) ?_ 3 _ rfl; (with_reducible repeat (first | refine blk_drewN ?_ _ | refine blk_drew ?_ | refine blk_alloc ?_ _)); refine blk_put (cs:=#[.int .i64 x188000_2,.int .i64 x188001_2,.slice none 0 0,.slice none 0 0]) ?_ 2 _ rfl; (with_reducible repeat (first | refine blk_drewN ?_ _ | refine blk_drew ?_ | refine blk_alloc ?_ _)); refine blk_put (cs:=#[.int .i64 x188000_2,.int .i64 0,.slice none 0 0,.slice none 0 0]) ?_ 1 _ rfl; (with_reducible repeat (first | refine blk_drewN ?_ _ | refine blk_drew ?_ | refine blk_alloc ?_ _)); refine blk_put (cs:=#[.int .i64 0,.int .i64 0,.slice none 0 0,.slice none 0 0]) ?_ 0 _ rfl; (with_reducible repeat (first | refine blk_drewN ?_ _ | refine blk_drew ?_ | refine blk_alloc ?_ _)); exact BK184.out) Tryz.underlying26 rfl (by kernel_rfl)) rfl ?_
       exact ⟨_,_,by first | rfl | (simp [errW_none,errW_some] <;> rfl) | (simp [*,errW_none,errW_some] <;> rfl) | (exact congrArg (fun b_ => Ending.returned (.tuple #[_,.bool b_])) (by cases x11_2.toList <;> rfl)),by (with_reducible repeat (first | apply Kd.R_alloc | apply Kd.R_drewN | apply Kd.R_drew)); exact Kd.R_mono (Kd.R_far (p:=⟨gb184,3,none⟩) (Kd.R_far (p:=⟨gb184,2,none⟩) (Kd.R_far (p:=⟨gb184,1,none⟩) (Kd.R_far (p:=⟨gb184,0,none⟩) (Kd.R_types HO_188002.out BK184.out (by decide)) (fun _ hk => hk.2) (.int .i64 x188000_2)) (fun _ hk => hk.2) (.int .i64 x188001_2)) (fun _ hk => hk.2) (.slice Ao83 x188002_2.length co83)) (fun _ hk => hk.2) (.slice Ao84 x188003_2.length co84)) (fun _ hk => hk.1.2),by (with_reducible repeat (first | apply Kd.R_alloc | apply Kd.R_drewN | apply Kd.R_drew)); exact Kd.R_mono (Kd.R_far (p:=⟨gb184,3,none⟩) (Kd.R_far (p:=⟨gb184,2,none⟩) (Kd.R_far (p:=⟨gb184,1,none⟩) (Kd.R_far (p:=⟨gb184,0,none⟩) (Kd.R_types HO_188003.out BK184.out (by decide)) (fun _ hk => hk.2) (.int .i64 x188000_2)) (fun _ hk => hk.2) (.int .i64 x188001_2)) (fun _ hk => hk.2) (.slice Ao83 x188002_2.length co83)) (fun _ hk => hk.2) (.slice Ao84 x188003_2.length co84)) (fun _ hk => hk.1.2),bl3_ HB.out GE183.out GE184.out GE187.out⟩


def spec_FirstTidyMove.f (k:Nat) (a0_0:Int) (a0_1:Int) (l0_2:List Int) (l0_3:List Int) (a1:Int) (a2:Int):Option (Int × Int × List Int × List Int × Bool):=(spec_moFirst.f k a0_0 a0_1 l0_2 l0_3 a1 a2 true).bind fun bt331 => (some (bt331.1,bt331.2.1,bt331.2.2.1,bt331.2.2.2.1,bt331.2.2.2.2))
theorem spec_FirstTidyMove.mono:∀ a0 a1 a2 a3 a4 a5 k,LeO (spec_FirstTidyMove.f k a0 a1 a2 a3 a4 a5) (spec_FirstTidyMove.f (k + 1) a0 a1 a2 a3 a4 a5):=by
 intro a0 a1 a2 a3 a4 a5 k
 unfold spec_FirstTidyMove.f
 repeat' first | (with_reducible first | exact spec_moFirst.mono _ _ _ _ _ _ _ _ | exact LeO.refl _ | exact LeO.none _ | refine LeO.ite ?_ ?_ | refine LeO.bind ?_ (fun _ => ?_)) | exact spec_moFirst.mono _ _ _ _ _ _ _ _
set_option maxHeartbeats 8000000 in
set_option maxRecDepth 100000 in
theorem spec_FirstTidyMove.calls (k:Nat) (a0_0:Int) (a0_1:Int) (A0_2:Option Addr) (c0_2:Nat) (l0_2:List Int) (A0_3:Option Addr) (c0_3:Nat) (l0_3:List Int) (a1:Int) (a2:Int) (r1:Int) (r2:Int) (r3:List Int) (r4:List Int) (r5:Bool) (w:World) (hr0_2:Kd.C (Kd.int .i64) w A0_2 l0_2.length l0_2) (hc0_2:l0_2.length ≤ c0_2) (hr0_3:Kd.C (Kd.int .i64) w A0_3 l0_3.length l0_3) (hc0_3:l0_3.length ≤ c0_3) (h:spec_FirstTidyMove.f k a0_0 a0_1 l0_2 l0_3 a1 a2 = some (r1,r2,r3,r4,r5)) :
  Calls Tryz.prog 15 #[.agg #[.int .i64 a0_0,.int .i64 a0_1,.slice A0_2 l0_2.length c0_2,.slice A0_3 l0_3.length c0_3],.int .i64 a1,.int .i64 a2] w fun e w' => ∃ v2_ v3_:Value,e = .returned (.tuple #[.agg #[.int .i64 r1,.int .i64 r2,v2_,v3_],.bool r5]) ∧ Kd.R (Kd.int .i64) 3 w' w.heap.size (fun k_ => some k_ ≠ (v3_:Value).ownBlock) v2_ r3 ∧ Kd.R (Kd.int .i64) 3 w' w.heap.size (fun k_ => some k_ ≠ (v2_:Value).ownBlock) v3_ r4 ∧ Below w.heap.size w w':=by
 have hu26:=Tryz.underlying26
 have HR0_2:=am_ hr0_2
 have HC0_2:=am_ hc0_2
 clear hr0_2 hc0_2
 have HR0_3:=am_ hr0_3
 have HC0_3:=am_ hc0_3
 clear hr0_3 hc0_3
 have HB:=am_ (Below.refl w.heap.size w)
 have H:((spec_moFirst.f k a0_0 a0_1 l0_2 l0_3 a1 a2 true).bind fun bt331 => (some (bt331.1,bt331.2.1,bt331.2.2.1,bt331.2.2.2.1,bt331.2.2.2.2))) = some (r1,r2,r3,r4,r5):=h
 clear h
 replace H:=bi_ H
 obtain ⟨⟨t331,t332,t333,t336,t339⟩,A40,H⟩:=H
 replace H:(some (t331,t332,t333,t336,t339)) = some (r1,r2,r3,r4,r5):=H
 have A4:=am_ A40
 clear A40
 simp only [Option.some.injEq,Prod.mk.injEq] at H
 obtain ⟨rfl,rfl,rfl,rfl,rfl⟩:=H
 go_enter Tryz.func15,Tryz.ntmps15
 go_wp2_with (first | ((with_reducible refine gate_dst (N:=3) rfl ?_); refine boxE_ (N:=3) (cs:=#[.int .i64 a0_0,.int .i64 a0_1,.slice A0_2 l0_2.length c0_2,.slice A0_3 l0_3.length c0_3]) (t:=26) ?_; intro gb329 hg w5 hbox hb; have n0_:=am_ (below_step (bl0_ HB.out) hb); have n1_:=am_ (hbox); have n2_:=am_ ((bs0_ hg HB.out:w.heap.size ≤ gb329)); have n3_:=am_ ((bs0_ hg HB.out:w.heap.size ≤ gb329)); clear HB; have HB:=n0_; have BK329:=n1_; have GW329:=n2_; have GE329:=n3_; clear n0_ n1_ n2_ n3_; clear hb hbox hg) | ((with_reducible refine gate_dst (N:=6) rfl ?_); refine boxE_ (N:=6) (cs:=#[.int .i64 0,.int .i64 0,.slice none 0 0,.slice none 0 0]) (t:=26) ?_; intro gb330 hg w6 hbox hb; have n0_:=am_ (bb_ BK329.out hb); have n1_:=am_ (below_step (bl1_ HB.out GE329.out) hb); have n2_:=am_ (hbox); have n3_:=am_ ((bs1_ hg HB.out GE329.out:w.heap.size ≤ gb330)); have n4_:=am_ ((bs1_ hg HB.out GE329.out:w.heap.size ≤ gb330)); have n5_:=am_ ((nl_ hg BK329.out:gb329 ≠ gb330)); have n6_:=am_ ((ng_ hg BK329.out:gb330 ≠ gb329)); clear BK329; clear HB; have BK329:=n0_; have HB:=n1_; have BK330:=n2_; have GW330:=n3_; have GE330:=n4_; have NB329_330:=n5_; have NB330_329:=n6_; clear n0_ n1_ n2_ n3_ n4_ n5_ n6_; clear hb hbox hg; have hnb7:=NB329_330.out; have hnc7:=NB330_329.out; have hcz8_0:w6.cell? ⟨gb329,0,none⟩ = some (.int .i64 a0_0):=(bc_ BK329.out 0).trans rfl; have hcz8_1:w6.cell? ⟨gb329,1,none⟩ = some (.int .i64 a0_1):=(bc_ BK329.out 1).trans rfl; have hcz8_2:w6.cell? ⟨gb329,2,none⟩ = some (.slice A0_2 l0_2.length c0_2):=(bc_ BK329.out 2).trans rfl; have hcz8_3:w6.cell? ⟨gb329,3,none⟩ = some (.slice A0_3 l0_3.length c0_3):=(bc_ BK329.out 3).trans rfl; have hfz8_0:=bz_ BK329.out 0; have hfz8_1:=bz_ BK329.out 1; have hfz8_2:=bz_ BK329.out 2; have hfz8_3:=bz_ BK329.out 3) | ((with_reducible refine gate_callee (f:=25) rfl ?_); refine goesL_ (some 11) rfl rfl Tryz.func25 (by kernel_rfl) rfl #[.agg #[.int .i64 a0_0,.int .i64 a0_1,.slice A0_2 l0_2.length c0_2,.slice A0_3 l0_3.length c0_3],.int .i64 a1,.int .i64 a2,.bool true] rfl ob_ ?_; (with_reducible refine (spec_moFirst.calls k a0_0 a0_1 _ _ l0_2 _ _ l0_3 a1 a2 true t331 t332 t333 t336 t339 _ ?side1 ?side2 ?side3 ?side4 A4.out).mono ?_); (case side1 => exact kc_ (Kd.C_below HR0_2.out HB.out)); (case side2 => exact HC0_2.out); (case side3 => exact kc_ (Kd.C_below HR0_3.out HB.out)); (case side4 => exact HC0_3.out); rintro e w9 ⟨v334,v337,rfl,ho0,ho1,hb⟩; refine ⟨_,rfl,?_⟩; have n0_:=am_ (Kd.R_lower ho0 (below_size (bl2_ HB.out GE329.out GE330.out))); have n1_:=am_ (Kd.R_lower ho1 (below_size (bl2_ HB.out GE329.out GE330.out))); have n2_:=am_ (bb_ BK329.out hb); have n3_:=am_ (bb_ BK330.out hb); have n4_:=am_ (below_step (bl2_ HB.out GE329.out GE330.out) hb); clear BK329; clear BK330; clear HB; have HO335:=n0_; have HO338:=n1_; have BK329:=n2_; have BK330:=n3_; have HB:=n4_; clear n0_ n1_ n2_ n3_ n4_; (try clear hb); (try clear hb2); (try clear hk); (try clear hi); (try clear ho0); (try clear ho1); have hcz10_0:w9.cell? ⟨gb330,0,none⟩ = some (.int .i64 0):=(bc_ BK330.out 0).trans rfl; have hcz10_1:w9.cell? ⟨gb330,1,none⟩ = some (.int .i64 0):=(bc_ BK330.out 1).trans rfl; have hcz10_2:w9.cell? ⟨gb330,2,none⟩ = some (.slice none 0 0):=(bc_ BK330.out 2).trans rfl; have hcz10_3:w9.cell? ⟨gb330,3,none⟩ = some (.slice none 0 0):=(bc_ BK330.out 3).trans rfl; have hfz10_0:=bz_ BK330.out 0; have hfz10_1:=bz_ BK330.out 1; have hfz10_2:=bz_ BK330.out 2; have hfz10_3:=bz_ BK330.out 3; obtain ⟨Ao11,co11,eo11⟩:=Kd.R_slice HO335.out; subst eo11; obtain ⟨Ao12,co12,eo12⟩:=Kd.R_slice HO338.out; subst eo12))
 refine bodyPost_ret (results_ct rfl _ _ gb330 26 #[.int .i64 t331,.int .i64 t332,.slice Ao11 t333.length co11,.slice Ao12 t336.length co12] (0,0) _ rfl (by (with_reducible repeat (first | refine blk_drewN ?_ _ | refine blk_drew ?_ | refine blk_alloc ?_ _)); refine blk_put (cs:=#[.int .i64 t331,.int .i64 t332,.slice Ao11 t333.length co11,.slice none 0 0]) ?_ 3 _ rfl; (with_reducible repeat (first | refine blk_drewN ?_ _ | refine blk_drew ?_ | refine blk_alloc ?_ _)); refine blk_put (cs:=#[.int .i64 t331,.int .i64 t332,.slice none 0 0,.slice none 0 0]) ?_ 2 _ rfl; (with_reducible repeat (first | refine blk_drewN ?_ _ | refine blk_drew ?_ | refine blk_alloc ?_ _)); refine blk_put (cs:=#[.int .i64 t331,.int .i64 0,.slice none 0 0,.slice none 0 0]) ?_ 1 _ rfl; (with_reducible repeat (first | refine blk_drewN ?_ _ | refine blk_drew ?_ | refine blk_alloc ?_ _)); refine blk_put (cs:=#[.int .i64 0,.int .i64 0,.slice none 0 0,.slice none 0 0]) ?_ 0 _ rfl; (with_reducible repeat (first | refine blk_drewN ?_ _ | refine blk_drew ?_ | refine blk_alloc ?_ _)); exact BK330.out) Tryz.underlying26 rfl (by kernel_rfl)) rfl ?_
 exact ⟨_,_,er_,by (with_reducible repeat (first | apply Kd.R_alloc | apply Kd.R_drewN | apply Kd.R_drew)); exact Kd.R_mono (Kd.R_far (p:=⟨gb330,3,none⟩) (Kd.R_far (p:=⟨gb330,2,none⟩) (Kd.R_far (p:=⟨gb330,1,none⟩) (Kd.R_far (p:=⟨gb330,0,none⟩) (Kd.R_types HO335.out BK330.out (by decide)) (fun _ hk => hk.2) (.int .i64 t331)) (fun _ hk => hk.2) (.int .i64 t332)) (fun _ hk => hk.2) (.slice Ao11 t333.length co11)) (fun _ hk => hk.2) (.slice Ao12 t336.length co12)) (fun _ hk => hk.1),by (with_reducible repeat (first | apply Kd.R_alloc | apply Kd.R_drewN | apply Kd.R_drew)); exact Kd.R_mono (Kd.R_far (p:=⟨gb330,3,none⟩) (Kd.R_far (p:=⟨gb330,2,none⟩) (Kd.R_far (p:=⟨gb330,1,none⟩) (Kd.R_far (p:=⟨gb330,0,none⟩) (Kd.R_types HO338.out BK330.out (by decide)) (fun _ hk => hk.2) (.int .i64 t331)) (fun _ hk => hk.2) (.int .i64 t332)) (fun _ hk => hk.2) (.slice Ao11 t333.length co11)) (fun _ hk => hk.2) (.slice Ao12 t336.length co12)) (fun _ hk => hk.1),bl2_ HB.out GE329.out GE330.out⟩


theorem rising_ext:∀ {l m:List Int},l.Pairwise (· < ·) → m.Pairwise (· < ·) → (∀ x,x ∈ l ↔ x ∈ m) → l = m
  | [],[],_,_,_ => rfl
  | [],b :: m,_,_,h => by have:=(h b).2 List.mem_cons_self; cases this
  | a :: l,[],_,_,h => by have:=(h a).1 List.mem_cons_self; cases this
  | a :: l,b :: m,h1,h2,h => by
    rw [List.pairwise_cons] at h1 h2
    have e:a = b:=by
      rcases List.mem_cons.1 ((h a).1 List.mem_cons_self) with e | e
      · exact e
      · rcases List.mem_cons.1 ((h b).2 List.mem_cons_self) with e2 | e2
        · exact e2.symm
        · have:=h2.1 a e; have:=h1.1 b e2; omega
    subst e
    rw [rising_ext h1.2 h2.2 (fun x => ?_)]
    constructor
    · intro hx
      rcases List.mem_cons.1 ((h x).1 (List.mem_cons_of_mem _ hx)) with e | e
      · have:=h1.1 x hx; omega
      · exact e
    · intro hx
      rcases List.mem_cons.1 ((h x).2 (List.mem_cons_of_mem _ hx)) with e | e
      · have:=h2.1 x hx; omega
      · exact e
theorem pw_rising:∀ {l:List Int},l.Pairwise (· < ·) → risingB l = true
  | [],_ => rfl
  | [a],_ => rfl
  | a :: b :: t,h => by
    rw [List.pairwise_cons] at h
    simp only [risingB,Bool.and_eq_true,decide_eq_true_iff]
    exact ⟨h.1 b List.mem_cons_self,pw_rising h.2⟩
def setL (n:Nat) (p:Nat → Bool):List Int:=((List.range n).filter p).map fun n:Nat => (n:Int)
theorem setL_pw (n:Nat) (p:Nat → Bool):(setL n p).Pairwise (· < ·):=by
  unfold setL
  rw [List.pairwise_map]
  exact (List.Pairwise.filter p List.pairwise_lt_range).imp (fun h => by omega)
theorem setL_mem (n:Nat) (p:Nat → Bool) (x:Int):x ∈ setL n p ↔ ∃ i:Nat,(i:Int) = x ∧ i < n ∧ p i = true:=by
  unfold setL
  rw [List.mem_map]
  constructor
  · rintro ⟨i,hi,rfl⟩
    rw [List.mem_filter,List.mem_range] at hi
    exact ⟨i,rfl,hi⟩
  · rintro ⟨i,rfl,hi⟩
    exact ⟨i,by rw [List.mem_filter,List.mem_range]; exact hi,rfl⟩
theorem setL_len (n:Nat) (p:Nat → Bool):(setL n p).length ≤ n:=by
  unfold setL
  rw [List.length_map]
  have:=List.length_filter_le p (List.range n)
  rw [List.length_range] at this
  exact this
theorem setL_eq {n m:Nat} {p q:Nat → Bool} (h:∀ i,(i < n ∧ p i = true) ↔ (i < m ∧ q i = true)):setL n p = setL m q:=by
  refine rising_ext (setL_pw n p) (setL_pw m q) (fun x => ?_)
  rw [setL_mem,setL_mem]
  constructor
  · rintro ⟨i,hi,h2⟩; exact ⟨i,hi,(h i).1 h2⟩
  · rintro ⟨i,hi,h2⟩; exact ⟨i,hi,(h i).2 h2⟩
theorem setL_in (n:Nat) (p:Nat → Bool) (i:Nat):(i:Int) ∈ setL n p ↔ i < n ∧ p i = true:=by
  rw [setL_mem]
  constructor
  · rintro ⟨j,hj,h⟩
    have:j = i:=by omega
    subst this
    exact h
  · intro h; exact ⟨i,rfl,h⟩
theorem setL_succ (n:Nat) (p:Nat → Bool):setL (n + 1) p = setL n p ++ if p n = true then [(n:Int)] else []:=by
  unfold setL
  rw [List.range_succ,List.filter_append,List.map_append]
  congr 1
  cases h:p n with
  | true => rw [List.filter_cons_of_pos h]; rfl
  | false => rw [List.filter_cons_of_neg (by rw [h]; simp)]; rfl


def rowA (w h:Int) (M:Nat):List Int:=setL (w * (h + 1)).toNat fun i => M.testBit i
def rowU (w h:Int) (M:Nat):List Int:=setL (h * (w + 1)).toNat fun i => M.testBit ((w * (h + 1)).toNat + i)
def figN (w h:Int):Nat:=(w * (h + 1)).toNat + (h * (w + 1)).toNat
theorem figN_le {w h:Int} (g:GridOK w h):figN w h ≤ 40 ∧ (w * (h + 1)).toNat ≤ 20 ∧ (h * (w + 1)).toNat ≤ 20:=by
  obtain ⟨c1,c2,c3,c4⟩:=area_bounds g.w1 g.w4 g.h1 g.h4
  unfold figN
  omega
theorem rowA_len {w h:Int} (g:GridOK w h) (M:Nat):(rowA w h M).length ≤ 20:=Nat.le_trans (setL_len _ _) (figN_le g).2.1
theorem rowU_len {w h:Int} (g:GridOK w h) (M:Nat):(rowU w h M).length ≤ 20:=Nat.le_trans (setL_len _ _) (figN_le g).2.2
theorem pow_figN {w h:Int} (g:GridOK w h) {M:Nat} (hM:M < 2 ^ figN w h):M < 2 ^ 60:=Nat.lt_of_lt_of_le hM (Nat.pow_le_pow_right (by omega) (by have:=(figN_le g).1; omega))
theorem figMask_figN {w h:Int} {a u:List Int} (hf:figB w h a u = true):figMask w h a u < 2 ^ figN w h:=by
  have g:=gridOK_of hf
  obtain ⟨c1,c2,c3,c4⟩:=area_bounds g.w1 g.w4 g.h1 g.h4
  unfold figB at hf
  simp only [Bool.and_eq_true] at hf
  obtain ⟨hg,-,-,hi1,hi2⟩:=hf
  apply Nat.lt_pow_two_of_testBit
  intro i hi
  unfold figN at hi
  unfold figMask
  rw [bitsFrom_test,bitsFrom_test,Nat.zero_testBit,Bool.false_or,Bool.or_eq_false_iff]
  constructor
  · rw [List.any_eq_false]
    intro x hx
    have hb:=inB_mem hi1 x hx
    simp
    omega
  · rw [List.any_eq_false]
    intro x hx
    have hb:=inB_mem hi2 x hx
    simp
    omega
theorem rowA_in {w h:Int} {M i:Nat} (hi:i < (w * (h + 1)).toNat):(i:Int) ∈ rowA w h M ↔ M.testBit i = true:=by
  unfold rowA; rw [setL_in]; exact ⟨fun h => h.2,fun h => ⟨hi,h⟩⟩
theorem rowU_in {w h:Int} {M i:Nat} (hi:i < (h * (w + 1)).toNat):(i:Int) ∈ rowU w h M ↔ M.testBit ((w * (h + 1)).toNat + i) = true:=by
  unfold rowU; rw [setL_in]; exact ⟨fun h => h.2,fun h => ⟨hi,h⟩⟩
theorem rowA_b {w h:Int} {M:Nat}:∀ x ∈ rowA w h M,0 ≤ x ∧ x < ((w * (h + 1)).toNat:Int):=fun x hx => by
  unfold rowA at hx
  rw [setL_mem] at hx
  obtain ⟨i,rfl,hi,-⟩:=hx
  omega
theorem rowU_b {w h:Int} {M:Nat}:∀ x ∈ rowU w h M,0 ≤ x ∧ x < ((h * (w + 1)).toNat:Int):=fun x hx => by
  unfold rowU at hx
  rw [setL_mem] at hx
  obtain ⟨i,rfl,hi,-⟩:=hx
  omega


theorem levels_f {w h:Int} (g:GridOK w h):impl_grid_levels.f w h = some (((w * (h + 1)).toNat:Nat):Int):=by
  obtain ⟨c1,c2,c3,c4⟩:=area_bounds g.w1 g.w4 g.h1 g.h4
  have w1:=g.w1
  have w4:=g.w4
  have h1:=g.h1
  have h4:=g.h4
  have e1:wrap64 (h + 1) = h + 1:=by unfold wrap64; omega
  have e2:wrap64 (w * (h + 1)) = (((w * (h + 1)).toNat:Nat):Int):=by unfold wrap64; omega
  unfold impl_grid_levels.f
  rw [e1,e2]
theorem listed_setL {s:Nat} (hs:s < 2 ^ 60):impl_set_listed.f (s:Int) = some (setL 64 fun i => s.testBit i):=by
  unfold impl_set_listed.f
  have h2:(2:Nat) ^ 60 = 1152921504606846976:=by decide
  rw [if_pos ⟨Int.natCast_nonneg _,by omega⟩,Int.toNat_natCast]
  rfl
theorem figure_f {w h:Int} (g:GridOK w h) {M:Nat} (hM:M < 2 ^ figN w h):impl_grid_figure.f w h (M:Int) = some (w,h,rowA w h M,rowU w h M):=by
  have hM60:=pow_figN g hM
  obtain ⟨b1,b2,b3⟩:=figN_le g
  unfold impl_grid_figure.f
  rw [levels_f g,Option.bind_some,if_pos (Int.natCast_nonneg _),shl_u64 _ (by omega)]
  unfold rowA rowU
  unfold figN at hM
  generalize (w * (h + 1)).toNat = A at *
  generalize (h * (w + 1)).toNat = U at *
  have hp:=Nat.two_pow_pos A
  have hA:2 ^ A < 2 ^ 60:=pow_lt60 (by omega)
  have hA2:2 ^ A - 1 < 2 ^ 60:=by omega
  have e1:IntKind.u64.wrap (((2 ^ A:Nat):Int) - 1) = ((2 ^ A - 1:Nat):Int):=by
    have:((2 ^ A:Nat):Int) - 1 = ((2 ^ A - 1:Nat):Int):=by omega
    rw [this]
    exact u64_small _ (Int.natCast_nonneg _) (by
      have h2:(2:Nat) ^ 60 = 1152921504606846976:=by decide
      have h3:(2:Int) ^ 60 = 1152921504606846976:=by decide
      rw [h3]; omega)
  have e2:shr .u64 (M:Int) (A:Int) = ((M >>> A:Nat):Int):=by
    unfold shr
    rw [Int.toNat_natCast,Nat.min_eq_left (show A ≤ IntKind.u64.bits by have:IntKind.u64.bits = 64:=rfl; omega),Nat.shiftRight_eq_div_pow]
    exact_mod_cast rfl
  have hs:M >>> A < 2 ^ 60:=Nat.lt_of_le_of_lt (by rw [Nat.shiftRight_eq_div_pow]; exact Nat.div_le_self _ _) hM60
  rw [e1,and_u64 _ _ hM60 hA2,listed_setL (Nat.lt_of_le_of_lt Nat.and_le_left hM60),Option.bind_some,Option.bind_some,if_pos (Int.natCast_nonneg _),e2,listed_setL hs,Option.bind_some]
  have r1:setL 64 (fun i => (M &&& (2 ^ A - 1)).testBit i) = setL A fun i => M.testBit i:=setL_eq fun i => by
    rw [Nat.testBit_and,Nat.testBit_two_pow_sub_one]
    by_cases hi:i < A
    · simp [hi]; omega
    · simp [hi]
  have r2:setL 64 (fun i => (M >>> A).testBit i) = setL U fun i => M.testBit (A + i):=setL_eq fun i => by
    rw [Nat.testBit_shiftRight]
    constructor
    · rintro ⟨h1,h2⟩
      refine ⟨?_,h2⟩
      rcases Nat.lt_or_ge i U with h3 | h3
      · exact h3
      · rw [Nat.testBit_lt_two_pow (Nat.lt_of_lt_of_le hM (Nat.pow_le_pow_right (by omega) (by omega)))] at h2
        cases h2
    · rintro ⟨h1,h2⟩; exact ⟨by omega,h2⟩
  rw [r1,r2]


theorem row_str (c:Int) (d:UInt8) (hc:UInt8.ofNat c.toNat = d) (p q:Nat → Bool) (n:Nat) (h:∀ x,x < n → p x = q x):(strOfNums (rowF c p n)).data.toList = rowL d q n:=by
  rw [strOfNums_data]
  unfold rowF rowL
  rw [List.map_map]
  refine List.map_congr_left (fun x hx => ?_)
  rw [Function.comp_apply,h x (List.mem_range.1 hx)]
  cases q x with
  | true => rw [if_pos rfl,if_pos rfl,hc]
  | false => rw [if_neg (by decide),if_neg (by decide)]; rfl
theorem figRows_text {w h m:Nat} (g:GridOK (w:Int) (h:Int)) (hm:m < 2 ^ 60):∀ y,y ≤ h + 1 → (figRows w h (m:Int) y).map (fun x:ByteArray => x.data.toList) = textRows w h m y:=by
  have w4:w ≤ 4:=by have:=g.w4; omega
  have h4:h ≤ 4:=by have:=g.h4; omega
  have hl:∀ x y:Nat,x < w → y ≤ h → levB w h (m:Int) y x = levP w m y x:=fun x y hx hy => by
    unfold levB levP
    rw [level_f g (Int.natCast_nonneg x) (by omega) (Int.natCast_nonneg y) (by omega),Option.getD_some,← Int.natCast_mul,← Int.natCast_add,Int.toNat_natCast]
    exact and_edgeB hm (small_edge w4 h4 (by omega) hy).1
  have hu:∀ x y:Nat,x < w + 1 → y < h → uprB w h (m:Int) y x = uprP w h m y x:=fun x y hx hy => by
    unfold uprB uprP
    rw [upright_f g (Int.natCast_nonneg x) (by omega) (Int.natCast_nonneg y) (by omega),Option.getD_some]
    rw [show (w:Int) * ((h:Int) + 1) = ((w * (h + 1):Nat):Int) by push_cast; rfl,show (y:Int) * ((w:Int) + 1) + (x:Int) = ((y * (w + 1) + x:Nat):Int) by push_cast; rfl,Int.toNat_natCast,Int.toNat_natCast]
    exact and_edgeB hm (small_edge w4 h4 (by omega) (by omega)).2
  intro y
  induction y with
  | zero => intro _; rfl
  | succ y ih =>
    intro hy
    have ih:=ih (by omega)
    have e1:(levR w h (m:Int) y).data.toList = rowL 45 (levP w m y) w:=row_str 45 45 rfl _ _ w (fun x hx => hl x y hx (by omega))
    unfold figRows textRows
    by_cases hyh:y < h
    · have e2:(uprR w h (m:Int) y).data.toList = rowL 124 (uprP w h m y) (w + 1):=row_str 124 124 rfl _ _ (w + 1) (fun x hx => hu x y hx hyh)
      rw [if_pos hyh,if_pos hyh,List.map_append,List.map_append,ih,List.map_cons,List.map_cons,List.map_nil,e1,e2]
    · rw [if_neg hyh,if_neg hyh,List.map_append,ih,List.map_cons,List.map_nil,e1]
theorem figureText_f {w h:Nat} {a u:List Int} (hf:figB (w:Int) (h:Int) a u = true) (ha:a.length ≤ 1000000) (hu:u.length ≤ 1000000) (k:Nat) (hk:2000010 < k):impl_figureText.f k (w:Int) (h:Int) a u = some (figText w h (figMask (w:Int) (h:Int) a u)):=by
  have g:=gridOK_of hf
  unfold impl_figureText.f
  rw [set_f hf ha hu k hk,Option.bind_some,if_pos ⟨⟨g.w1,g.w4⟩,g.h1,g.h4⟩,Int.toNat_natCast,Int.toNat_natCast]
  unfold joinB figText BA
  rw [figRows_text g (figMask_lt hf) (h + 1) (Nat.le_refl _)]


theorem figB_rows {w h:Int} (g:GridOK w h) (M:Nat):figB w h (rowA w h M) (rowU w h M) = true:=by
  obtain ⟨c1,c2,c3,c4⟩:=area_bounds g.w1 g.w4 g.h1 g.h4
  have w1:=g.w1
  have w4:=g.w4
  have h1:=g.h1
  have h4:=g.h4
  unfold figB
  simp only [Bool.and_eq_true,decide_eq_true_eq]
  refine ⟨⟨⟨⟨w1,w4⟩,h1⟩,h4⟩,pw_rising (setL_pw _ _),pw_rising (setL_pw _ _),?_,?_⟩
  · unfold inB
    rw [List.all_eq_true]
    intro x hx
    have:=rowA_b x hx
    simp only [Bool.and_eq_true,decide_eq_true_eq]
    omega
  · unfold inB
    rw [List.all_eq_true]
    intro x hx
    have:=rowU_b x hx
    simp only [Bool.and_eq_true,decide_eq_true_eq]
    omega
theorem figMask_rows {w h:Int} (g:GridOK w h) {M:Nat} (hM:M < 2 ^ figN w h):figMask w h (rowA w h M) (rowU w h M) = M:=by
  have hf:=figB_rows g M
  obtain ⟨c1,c2,c3,c4⟩:=area_bounds g.w1 g.w4 g.h1 g.h4
  have hm:=figMask_figN hf
  apply Nat.eq_of_testBit_eq
  intro i
  rcases Nat.lt_or_ge i (w * (h + 1)).toNat with hi | hi
  · rw [figMask_level hf i (by omega)]
    rw [Bool.eq_iff_iff,decide_eq_true_iff]
    exact rowA_in hi
  · rcases Nat.lt_or_ge i (figN w h) with hi2 | hi2
    · obtain ⟨j,rfl⟩:∃ j,i = (w * (h + 1)).toNat + j:=⟨i - (w * (h + 1)).toNat,by omega⟩
      rw [figMask_upright hf j]
      rw [Bool.eq_iff_iff,decide_eq_true_iff]
      exact rowU_in (by unfold figN at hi2; omega)
    · rw [Nat.testBit_lt_two_pow (Nat.lt_of_lt_of_le hm (Nat.pow_le_pow_right (by omega) hi2)),Nat.testBit_lt_two_pow (Nat.lt_of_lt_of_le hM (Nat.pow_le_pow_right (by omega) hi2))]

end Go.Proofs.YtehjfaddhmdicaaGreatDoor.P
namespace Go.Proofs.YtehjfaddhmdicaaGreatDoor.P
open Go.RowKit Go.Proofs.YtehjfaddhmdicaaGreatDoorW.PrintWords Go.Proofs.YtehjfaddhmdicaaGreatDoorW.PrintLast Go.Proofs.YtehjfaddhmdicaaGreatDoorW.PrintMore
attribute [local go_sem] max2_int min2_int max_two min_two max_three min_three max_four min_four   -- for this text's walks alone
set_option linter.unusedVariables false
set_option linter.unusedSimpArgs false

section
variable {w h:Nat} {a u:List Int}
theorem ft_l1 (g:GridOK (w:Int) (h:Int)) (hf:figB (w:Int) (h:Int) a u = true) (ha:a.length ≤ 1000000) (hu:u.length ≤ 1000000) (T:List UInt8) (hT:T.length ≤ 1000) (y:Nat) (hy:y ≤ h):∀ (d k x:Nat),w - x = d → x ≤ w → d + 1000001 < k →
  ∃ k',k ≤ k' + (d + 1) ∧ spec_fiText.l1 k (BA (T ++ rowL 45 (levP w (figMask (w:Int) (h:Int) a u) y) x)) (y:Int) (x:Int) (w:Int) (h:Int) a u = if y = h then some (BA (T ++ rowL 45 (levP w (figMask (w:Int) (h:Int) a u) y) w)) else spec_fiText.l2 k' (BA (T ++ rowL 45 (levP w (figMask (w:Int) (h:Int) a u) y) w ++ [47])) (y:Int) 0 (w:Int) (h:Int) a u:=by
 have w4:w ≤ 4:=by have:=g.w4; omega
 intro d
 induction d with
 | zero =>
  intro k x h1 h2 h3
  obtain ⟨k,rfl⟩:∃ q,k = q + 1:=⟨k - 1,by omega⟩
  have:x = w:=by omega
  subst this
  refine ⟨k,by omega,?_⟩
  have hs:(BA (T ++ rowL 45 (levP x (figMask (x:Int) (h:Int) a u) y) x)).size + 1 ≤ 9223372036854775807:=by rw [BA_size,List.length_append,rowL_len]; omega
  rw [spec_fiText.l1,if_neg (Int.lt_irrefl _)]
  by_cases hyh:y = h
  ·rw [if_pos (by omega),if_pos hyh]
  ·rw [if_neg (by omega),if_neg hyh,if_pos hs,BA_add]
 | succ d ih =>
  intro k x h1 h2 h3
  obtain ⟨k,rfl⟩:∃ q,k = q + 1:=⟨k - 1,by omega⟩
  obtain ⟨k',p1,p2⟩:=ih k (x + 1) (by omega) (by omega) (by omega)
  have hk0:1000000 < k:=by omega
  have hkk:k + 1 ≤ k' + (d + 1 + 1):=by omega
  have hx9:x < 10:=by omega
  have hT9:(T.length + x) + 1 ≤ 9223372036854775807:=by omega
  have hxw:(x:Int) < (w:Int):=Int.ofNat_lt.2 (by omega)
  have hyh:(y:Int) ≤ (h:Int):=Int.ofNat_le.2 hy
  clear h1 h2 h3 p1 ih
  have hfi:=fiHas_level g hf ha k hk0 (x:Int) (y:Int) (Int.natCast_nonneg _) hxw (Int.natCast_nonneg _) hyh
  rw [← Int.natCast_mul,← Int.natCast_add,Int.toNat_natCast] at hfi
  have e1:wrap64 ((x:Int) + 1) = ((x + 1:Nat):Int):=by clear hfi p2; unfold wrap64; omega
  refine ⟨k',hkk,?_⟩
  have hs:(BA (T ++ rowL 45 (levP w (figMask (w:Int) (h:Int) a u) y) x)).size + 1 ≤ 9223372036854775807:=by rw [BA_size,List.length_append,rowL_len]; exact hT9
  rw [spec_fiText.l1,if_pos hxw,hfi,Option.bind_some,e1,← p2,rowL_succ]
  by_cases hb:(figMask (w:Int) (h:Int) a u).testBit (y * w + x) = true
  ·have hb2:levP w (figMask (w:Int) (h:Int) a u) y x = true:=hb
   rw [if_pos hb,if_pos hs,if_pos hb2,BA_add,List.append_assoc]
  ·have hb2:¬ levP w (figMask (w:Int) (h:Int) a u) y x = true:=hb
   rw [if_neg hb,if_pos hs,if_neg hb2,BA_add,List.append_assoc]
theorem ft_l2 (g:GridOK (w:Int) (h:Int)) (hf:figB (w:Int) (h:Int) a u = true) (ha:a.length ≤ 1000000) (hu:u.length ≤ 1000000) (T:List UInt8) (hT:T.length ≤ 1000) (y:Nat) (hy:y < h):∀ (d k x:Nat),w + 1 - x = d → x ≤ w + 1 → d + 1000001 < k →
  ∃ k',k ≤ k' + (d + 1) ∧ spec_fiText.l2 k (BA (T ++ rowL 124 (uprP w h (figMask (w:Int) (h:Int) a u) y) x)) (y:Int) (x:Int) (w:Int) (h:Int) a u = spec_fiText.l0 k' (BA (T ++ rowL 124 (uprP w h (figMask (w:Int) (h:Int) a u) y) (w + 1))) ((y + 1:Nat):Int) (w:Int) (h:Int) a u:=by
 have w4:w ≤ 4:=by have:=g.w4; omega
 have h4:h ≤ 4:=by have:=g.h4; omega
 intro d
 induction d with
 | zero =>
  intro k x h1 h2 h3
  obtain ⟨k,rfl⟩:∃ q,k = q + 1:=⟨k - 1,by omega⟩
  have:x = w + 1:=by omega
  subst this
  have e1:wrap64 ((y:Int) + 1) = ((y + 1:Nat):Int):=by unfold wrap64; omega
  refine ⟨k,by omega,?_⟩
  rw [spec_fiText.l2,if_neg (by omega),e1]
 | succ d ih =>
  intro k x h1 h2 h3
  obtain ⟨k,rfl⟩:∃ q,k = q + 1:=⟨k - 1,by omega⟩
  obtain ⟨k',p1,p2⟩:=ih k (x + 1) (by omega) (by omega) (by omega)
  have hk0:1000000 < k:=by omega
  have hkk:k + 1 ≤ k' + (d + 1 + 1):=by omega
  have hx9:x < 10:=by omega
  have hT9:(T.length + x) + 1 ≤ 9223372036854775807:=by omega
  have hxw:(x:Int) ≤ (w:Int):=Int.ofNat_le.2 (by omega)
  have hyh:(y:Int) < (h:Int):=Int.ofNat_lt.2 hy
  clear h1 h2 h3 p1 ih
  have hfi:=fiHas_upright g hf hu k hk0 (x:Int) (y:Int) (Int.natCast_nonneg _) hxw (Int.natCast_nonneg _) hyh
  rw [show (w:Int) * ((h:Int) + 1) = ((w * (h + 1):Nat):Int) by push_cast; rfl,show (y:Int) * ((w:Int) + 1) + (x:Int) = ((y * (w + 1) + x:Nat):Int) by push_cast; rfl,Int.toNat_natCast,Int.toNat_natCast] at hfi
  have e1:wrap64 ((x:Int) + 1) = ((x + 1:Nat):Int):=by clear hfi p2; unfold wrap64; omega
  refine ⟨k',hkk,?_⟩
  have hs:(BA (T ++ rowL 124 (uprP w h (figMask (w:Int) (h:Int) a u) y) x)).size + 1 ≤ 9223372036854775807:=by rw [BA_size,List.length_append,rowL_len]; exact hT9
  rw [spec_fiText.l2,if_pos hxw,hfi,Option.bind_some,e1,← p2,rowL_succ]
  by_cases hb:(figMask (w:Int) (h:Int) a u).testBit (w * (h + 1) + (y * (w + 1) + x)) = true
  ·have hb2:uprP w h (figMask (w:Int) (h:Int) a u) y x = true:=hb
   rw [if_pos hb,if_pos hs,if_pos hb2,BA_add,List.append_assoc]
  ·have hb2:¬ uprP w h (figMask (w:Int) (h:Int) a u) y x = true:=hb
   rw [if_neg hb,if_pos hs,if_neg hb2,BA_add,List.append_assoc]
theorem ft_step (g:GridOK (w:Int) (h:Int)) (hf:figB (w:Int) (h:Int) a u = true) (ha:a.length ≤ 1000000) (hu:u.length ≤ 1000000) (k y:Nat) (hy:y ≤ h) (hk:40 * (h - y) + 1000040 < k) (R:ByteArray)
  (hR:R = BA (Lib.join (textRows w h (figMask (w:Int) (h:Int) a u) (h + 1)) [47]))
  (next:y < h → ∀ k',40 * (h - (y + 1)) + 1000040 < k' → spec_fiText.l0 k' (BA (Lib.join (textRows w h (figMask (w:Int) (h:Int) a u) (y + 1)) [47])) ((y + 1:Nat):Int) (w:Int) (h:Int) a u = some R) :
  spec_fiText.l0 k (BA (Lib.join (textRows w h (figMask (w:Int) (h:Int) a u) y) [47])) (y:Int) (w:Int) (h:Int) a u = some R:=by
 have w4:w ≤ 4:=by have:=g.w4; omega
 have h4:h ≤ 4:=by have:=g.h4; omega
 have h1:1 ≤ h:=by have:=g.h1; omega
 obtain ⟨k,rfl⟩:∃ q,k = q + 2:=⟨k - 2,by omega⟩
 have hrl:=textRows_len w h (figMask (w:Int) (h:Int) a u) y hy
 have hjl:=join_len [47] 5 (textRows w h (figMask (w:Int) (h:Int) a u) y) (fun x hx => Nat.le_trans (textRows_size w h (figMask (w:Int) (h:Int) a u) y x hx) (by omega))
 rw [hrl] at hjl
 have hne:0 < y → textRows w h (figMask (w:Int) (h:Int) a u) y ≠ []:=fun hy0 e => by rw [e] at hrl; simp at hrl; omega
 -- the text ahead of the row
 obtain ⟨T,hT1,hT2,hT3⟩:∃ T:List UInt8,T.length ≤ 1000 ∧ (∀ x:List UInt8,Lib.join (textRows w h (figMask (w:Int) (h:Int) a u) y ++ [x]) [47] = T ++ x) ∧ spec_fiText.l0 (k + 2) (BA (Lib.join (textRows w h (figMask (w:Int) (h:Int) a u) y) [47])) (y:Int) (w:Int) (h:Int) a u = spec_fiText.l1 k (BA T) (y:Int) 0 (w:Int) (h:Int) a u:=by
  have hyh:(y:Int) ≤ (h:Int):=Int.ofNat_le.2 hy
  by_cases hy0:0 < y
  ·refine ⟨Lib.join (textRows w h (figMask (w:Int) (h:Int) a u) y) [47] ++ [47],?_,fun x => join_snoc _ x [47] (hne hy0),?_⟩
   ·rw [List.length_append,List.length_singleton]
    simp only [List.length_singleton] at hjl
    omega
   ·have hy2:(y:Int) > 0:=by omega
    have hs:(BA (Lib.join (textRows w h (figMask (w:Int) (h:Int) a u) y) [47])).size + 1 ≤ 9223372036854775807:=by
     rw [BA_size]
     simp only [List.length_singleton] at hjl
     omega
    rw [spec_fiText.l0,if_pos hyh,if_pos hy2,if_pos hs,spec_fiText.j1,BA_add]
  ·obtain rfl:y = 0:=by omega
   refine ⟨[],Nat.zero_le _,fun x => ?_,?_⟩
   ·show Lib.join [x] [47] = x
    exact Lib.join_one x [47]
   ·rw [spec_fiText.l0,if_pos hyh,if_neg (by decide),spec_fiText.j1]
    rfl
 rw [hT3]
 obtain ⟨k1,p1,p2⟩:=ft_l1 g hf ha hu T hT1 y hy w k 0 (Nat.sub_zero _) (Nat.zero_le _) (by omega)
 rw [show rowL 45 (levP w (figMask (w:Int) (h:Int) a u) y) 0 = [] from rfl,List.append_nil] at p2
 refine p2.trans ?_
 by_cases hyh:y = h
 ·rw [if_pos hyh,hR]
  subst hyh
  rw [show textRows w y (figMask (w:Int) (y:Int) a u) (y + 1) = textRows w y (figMask (w:Int) (y:Int) a u) y ++ [rowL 45 (levP w (figMask (w:Int) (y:Int) a u) y) w] by rw [textRows,if_neg (Nat.lt_irrefl _)],hT2]
 ·rw [if_neg hyh]
  have hlt:y < h:=by omega
  have hL:(rowL 45 (levP w (figMask (w:Int) (h:Int) a u) y) w).length = w:=rowL_len _ _ _
  simp only [List.length_singleton] at hjl
  have hT1':T.length ≤ 900:=by
   have e:=hT2 []
   rw [List.append_nil] at e
   have hq:=join_len [47] 5 (textRows w h (figMask (w:Int) (h:Int) a u) y ++ [[]]) (fun x hx => by
    rcases List.mem_append.1 hx with hx | hx
    ·exact Nat.le_trans (textRows_size w h (figMask (w:Int) (h:Int) a u) y x hx) (by omega)
    ·rw [List.mem_singleton.1 hx]; exact Nat.zero_le _)
   rw [e,List.length_append,hrl,List.length_singleton,List.length_singleton] at hq
   omega
  obtain ⟨k2,q1,q2⟩:=ft_l2 g hf ha hu (T ++ rowL 45 (levP w (figMask (w:Int) (h:Int) a u) y) w ++ [47]) (by rw [List.length_append,List.length_append,hL,List.length_singleton]; omega) y hlt (w + 1) k1 0 (Nat.sub_zero _) (Nat.zero_le _) (by omega)
  rw [show rowL 124 (uprP w h (figMask (w:Int) (h:Int) a u) y) 0 = [] from rfl,List.append_nil] at q2
  refine q2.trans ?_
  have n:=next hlt k2 (by omega)
  rw [show textRows w h (figMask (w:Int) (h:Int) a u) (y + 1) = (textRows w h (figMask (w:Int) (h:Int) a u) y ++ [rowL 45 (levP w (figMask (w:Int) (h:Int) a u) y) w]) ++ [rowL 124 (uprP w h (figMask (w:Int) (h:Int) a u) y) (w + 1)] by rw [textRows,if_pos hlt],join_snoc _ _ _ (by simp),hT2] at n
  exact n
theorem ft_l0 (g:GridOK (w:Int) (h:Int)) (hf:figB (w:Int) (h:Int) a u = true) (ha:a.length ≤ 1000000) (hu:u.length ≤ 1000000):∀ (d k y:Nat),h - y = d → y ≤ h → 40 * d + 1000040 < k →
  spec_fiText.l0 k (BA (Lib.join (textRows w h (figMask (w:Int) (h:Int) a u) y) [47])) (y:Int) (w:Int) (h:Int) a u = some (BA (Lib.join (textRows w h (figMask (w:Int) (h:Int) a u) (h + 1)) [47])):=by
 intro d
 induction d with
 | zero =>
  intro k y h1 h2 h3
  exact ft_step g hf ha hu k y h2 (by omega) _ rfl (fun hy => absurd hy (by omega))
 | succ d ih =>
  intro k y h1 h2 h3
  exact ft_step g hf ha hu k y h2 (by omega) _ rfl (fun hy k' hk' => ih k' (y + 1) (by omega) (by omega) (by omega))
end
theorem fiText_f {w h:Nat} {a u:List Int} (hf:figB (w:Int) (h:Int) a u = true) (ha:a.length ≤ 1000000) (hu:u.length ≤ 1000000) (k:Nat) (hk:1001000 < k):spec_fiText.f k (w:Int) (h:Int) a u = some (figText w h (figMask (w:Int) (h:Int) a u)):=by
 have g:=gridOK_of hf
 have h4:h ≤ 4:=by have:=g.h4; omega
 exact ft_l0 g hf ha hu h k 0 (Nat.sub_zero _) (Nat.zero_le _) (by omega)

end Go.Proofs.YtehjfaddhmdicaaGreatDoor.P
namespace Go.Proofs.YtehjfaddhmdicaaGreatDoor.P
open Go.RowKit Go.Proofs.YtehjfaddhmdicaaGreatDoorW.PrintWords Go.Proofs.YtehjfaddhmdicaaGreatDoorW.PrintLast Go.Proofs.YtehjfaddhmdicaaGreatDoorW.PrintMore
attribute [local go_sem] max2_int min2_int max_two min_two max_three min_three max_four min_four   -- for this text's walks alone
set_option linter.unusedVariables false
set_option linter.unusedSimpArgs false

theorem bit_and_i64 {M e:Nat} (hM:M < 2 ^ 60) (he:e < 60):(Go.bits .and .i64 (M:Int) ((2 ^ e:Nat):Int) = 0) ↔ M.testBit e = false:=by
  have h:=and_two e M
  rw [Nat.and_comm] at h
  rw [and_i64 _ _ hM (pow_lt60 he),h]
  have hp:=Nat.two_pow_pos e
  cases M.testBit e with
  | false => exact ⟨fun _ => rfl,fun _ => rfl⟩
  | true =>
    rw [if_pos rfl]
    constructor
    · intro h; omega
    · intro h; cases h
theorem step60 {A U i:Nat} (hA:A ≤ 20) (hU:U ≤ 20) (hi:i ≤ U):A + i < 60:=by omega
theorem step60' {A i:Nat} (hA:A ≤ 20) (hi:i ≤ A):i < 60:=by omega
theorem sqFigure_l1 {w h:Int} (g:GridOK w h) {M:Nat} (hM:M < 2 ^ 60) (z0 z1:Int) (z2:List Int):∀ (d k i:Nat),(h * (w + 1)).toNat - i = d → i ≤ (h * (w + 1)).toNat → d < k →
    spec_sqFigure.l1 k w h (M:Int) (i:Int) z0 z1 z2 (setL i fun i => M.testBit ((w * (h + 1)).toNat + i)) = some (z0,z1,z2,rowU w h M):=by
  obtain ⟨c1,c2,c3,c4⟩:=area_bounds g.w1 g.w4 g.h1 g.h4
  have HM:=am_ hM
  clear hM
  have w1:=g.w1
  have w4:=g.w4
  have h1:=g.h1
  have h4:=g.h4
  have E3:Aside0 (wrap64 (w * wrap64 (h + 1)) = w * (h + 1)):=⟨by
    have e1:wrap64 (h + 1) = h + 1:=by unfold wrap64; omega
    rw [e1]; unfold wrap64; omega⟩
  have E4:Aside0 (wrap64 (wrap64 (w + 1) * h) = (((h * (w + 1)).toNat:Nat):Int)):=⟨by
    have e2:wrap64 (w + 1) = w + 1:=by unfold wrap64; omega
    rw [e2,Int.mul_comm]; unfold wrap64; omega⟩
  intro d
  induction d with
  | zero =>
    intro k i q1 q2 q3
    obtain ⟨k,rfl⟩:∃ m,k = m + 1:=⟨k - 1,by omega⟩
    obtain rfl:i = (h * (w + 1)).toNat:=by omega
    simp only [spec_sqFigure.l1]
    rw [E4.out,if_neg (by omega)]
    rfl
  | succ d ih =>
    intro k i q1 q2 q3
    obtain ⟨k,rfl⟩:∃ m,k = m + 1:=⟨k - 1,by omega⟩
    have e5:wrap64 ((i:Int) + 1) = ((i + 1:Nat):Int):=by unfold wrap64; omega
    have hl:=setL_len i fun i => M.testBit ((w * (h + 1)).toNat + i)
    have hs:=setL_succ i fun i => M.testBit ((w * (h + 1)).toNat + i)
    have hb:=am_ (bit_and_i64 HM.out (e:=(w * (h + 1)).toNat + i) (step60 (figN_le g).2.1 (figN_le g).2.2 q2))
    simp only [spec_sqFigure.l1]
    rw [E4.out,if_pos (by omega),sqBit_f w h true i E3.out (by omega) (by omega) (by omega),Option.bind_some,if_pos rfl,e5]
    cases ht:M.testBit ((w * (h + 1)).toNat + i) with
    | false =>
      rw [if_pos (hb.out.2 ht)]
      rw [ht,if_neg (by simp),List.append_nil] at hs
      rw [← hs]
      exact ih k (i + 1) (by omega) (by omega) (by omega)
    | true =>
      rw [if_neg (fun h => by rw [hb.out.1 h] at ht; cases ht),if_pos (by omega)]
      rw [ht,if_pos rfl] at hs
      rw [← hs]
      exact ih k (i + 1) (by omega) (by omega) (by omega)
theorem sqFigure_l0 {w h:Int} (g:GridOK w h) {M:Nat} (hM:M < 2 ^ 60) (z0 z1:Int):∀ (d k i:Nat),(w * (h + 1)).toNat - i = d → i ≤ (w * (h + 1)).toNat → d + 30 < k →
    spec_sqFigure.l0 k w h (M:Int) (i:Int) z0 z1 (setL i fun i => M.testBit i) = some (z0,z1,rowA w h M,rowU w h M):=by
  obtain ⟨c1,c2,c3,c4⟩:=area_bounds g.w1 g.w4 g.h1 g.h4
  have HM:=am_ hM
  clear hM
  have w1:=g.w1
  have w4:=g.w4
  have h1:=g.h1
  have h4:=g.h4
  have E3:Aside0 (wrap64 (w * wrap64 (h + 1)) = w * (h + 1)):=⟨by
    have e1:wrap64 (h + 1) = h + 1:=by unfold wrap64; omega
    rw [e1]; unfold wrap64; omega⟩
  have E4:Aside0 (wrap64 (w * wrap64 (h + 1)) = (((w * (h + 1)).toNat:Nat):Int)):=⟨by rw [E3.out]; omega⟩
  intro d
  induction d with
  | zero =>
    intro k i q1 q2 q3
    obtain ⟨k,rfl⟩:∃ m,k = m + 1:=⟨k - 1,by omega⟩
    obtain rfl:i = (w * (h + 1)).toNat:=by omega
    simp only [spec_sqFigure.l0]
    rw [E4.out,if_neg (by omega)]
    exact sqFigure_l1 g HM.out z0 z1 _ _ k 0 rfl (by omega) (by omega)
  | succ d ih =>
    intro k i q1 q2 q3
    obtain ⟨k,rfl⟩:∃ m,k = m + 1:=⟨k - 1,by omega⟩
    have e5:wrap64 ((i:Int) + 1) = ((i + 1:Nat):Int):=by unfold wrap64; omega
    have hl:=setL_len i fun i => M.testBit i
    have hs:=setL_succ i fun i => M.testBit i
    have hb:=am_ (bit_and_i64 HM.out (e:=i) (step60' (figN_le g).2.1 q2))
    simp only [spec_sqFigure.l0]
    rw [E4.out,if_pos (by omega),sqBit_f w h false i E3.out (by omega) (by omega) (by omega),Option.bind_some,if_neg (show ¬ (false = true) by decide),Nat.zero_add,e5]
    cases ht:M.testBit i with
    | false =>
      rw [if_pos (hb.out.2 ht)]
      rw [ht,if_neg (by simp),List.append_nil] at hs
      rw [← hs]
      exact ih k (i + 1) (by omega) (by omega) (by omega)
    | true =>
      rw [if_neg (fun h => by rw [hb.out.1 h] at ht; cases ht),if_pos (by omega)]
      rw [ht,if_pos rfl] at hs
      rw [← hs]
      exact ih k (i + 1) (by omega) (by omega) (by omega)
theorem sqFigure_f {w h:Int} (g:GridOK w h) {M:Nat} (hM:M < 2 ^ 60) (k:Nat) (hk:60 < k):spec_sqFigure.f k w h (M:Int) = some (w,h,rowA w h M,rowU w h M):=by
  obtain ⟨b1,b2,b3⟩:=figN_le g
  unfold spec_sqFigure.f
  exact sqFigure_l0 g hM w h _ k 0 rfl (by omega) (by omega)

end Go.Proofs.YtehjfaddhmdicaaGreatDoor.P
namespace Go.Proofs.YtehjfaddhmdicaaGreatDoor.P
open Go.RowKit Go.Proofs.YtehjfaddhmdicaaGreatDoorW.PrintWords Go.Proofs.YtehjfaddhmdicaaGreatDoorW.PrintLast Go.Proofs.YtehjfaddhmdicaaGreatDoorW.PrintMore
attribute [local go_sem] max2_int min2_int max_two min_two max_three min_three max_four min_four   -- for this text's walks alone
set_option linter.unusedVariables false
set_option linter.unusedSimpArgs false

theorem subsW_ltN {N:Nat}:∀ (m:Nat) (l:List Int) (own:Nat),own < 2 ^ N → (∀ x ∈ l,0 ≤ x ∧ x < (N:Int)) → ∀ z ∈ subsW m l own,z < 2 ^ N
 | 0,_,_,ho,_,z,hz => by
  simp only [subsW,List.mem_singleton] at hz
  rw [hz]; exact ho
 | m + 1,[],_,_,_,z,hz => by cases hz
 | m + 1,x :: l,own,ho,hl,z,hz => by
  have hz':z ∈ subsW m l (own ||| 2 ^ x.toNat) ++ subsW (m + 1) l own:=hz
  rcases List.mem_append.1 hz' with h | h
  ·have hx:=hl x List.mem_cons_self
   exact subsW_ltN m l _ (Nat.or_lt_two_pow ho (Nat.pow_lt_pow_right (by omega) (by omega))) (fun y hy => hl y (List.mem_cons_of_mem _ hy)) z h
  ·exact subsW_ltN (m + 1) l own ho (fun y hy => hl y (List.mem_cons_of_mem _ hy)) z h
theorem bitsI_in {s N:Nat} (hs:s < 2 ^ N):∀ x ∈ bitsI s,0 ≤ x ∧ x < (N:Int):=by
 intro x hx
 obtain ⟨n,hn,rfl⟩:=List.mem_map.1 hx
 have h1:s.testBit n = true:=(List.mem_filter.1 hn).2
 have h2:n < N:=by
  rcases Nat.lt_or_ge n N with h | h
  ·exact h
  ·rw [Nat.testBit_lt_two_pow (Nat.lt_of_lt_of_le hs (Nat.pow_le_pow_right (by omega) h))] at h1; cases h1
 omega
theorem waysW_ltN {mv:Bool} {mt al s N:Nat} (hs:s < 2 ^ N) (hal:al < 2 ^ N):∀ z ∈ waysW mv mt al s,z < 2 ^ N:=by
 intro z hz
 obtain ⟨g,-,hz⟩:=List.mem_flatMap.1 hz
 unfold piecesW at hz
 cases mv with
 | false => simp at hz; rw [hz]; exact diffN_lt g hs
 | true =>
  simp only [if_true,putsW,List.mem_map] at hz
  obtain ⟨p,hp,rfl⟩:=hz
  exact Nat.or_lt_two_pow (diffN_lt g hs) (subsW_ltN mt _ 0 (Nat.two_pow_pos _) (bitsI_in (diffN_lt s hal)) p hp)
def figM (w h:Int) (m:Nat):S26:=⟨w,h,rowA w h m,rowU w h m⟩
theorem figText_ne {w h m:Nat} (hw:1 ≤ w):figText w h m ≠ ⟨#[]⟩:=by
 intro he
 have h1:(figText w h m).size = 0:=by rw [he]; rfl
 unfold figText at h1
 rw [BA_size] at h1
 have h2:=textRows_len w h m h (Nat.le_refl _)
 have h3:(Lib.join (textRows w h m (h + 1)) [47]).length = 0:=h1
 have h4:textRows w h m (h + 1) = textRows w h m h ++ [rowL 45 (levP w m h) w]:=by
  show (if h < h then _ else _) = _
  rw [if_neg (Nat.lt_irrefl h)]
 rw [h4] at h3
 cases hq:textRows w h m h with
 | nil =>
  rw [hq,List.nil_append] at h3
  have h5:Lib.join [rowL 45 (levP w m h) w] [47] = rowL 45 (levP w m h) w:=by simp [Lib.join]
  rw [h5,rowL_len] at h3
  omega
 | cons a t =>
  rw [join_snoc _ _ _ (by rw [hq]; simp)] at h3
  simp at h3
theorem bytes_toList (b:ByteArray):b.toList = b.data.toList:=Lib.toList_data b
theorem ba_ext {a b:ByteArray} (h:a.data.toList = b.data.toList):a = b:=by
 obtain ⟨⟨l⟩⟩:=a
 obtain ⟨⟨m⟩⟩:=b
 have h':l = m:=h
 rw [h']
theorem figT_f {w h m:Nat} (g:GridOK (w:Int) (h:Int)) (hm:m < 2 ^ figN w h) (k:Nat) (hk:2000010 < k) :
  spec_fiText.f k (w:Int) (h:Int) (rowA w h m) (rowU w h m) = some (figText w h m) ∧ impl_figureText.f k (w:Int) (h:Int) (rowA w h m) (rowU w h m) = some (figText w h m):=by
 have hb:=figB_rows g m
 have hl1:=rowA_len g m
 have hl2:=rowU_len g m
 have e:=figMask_rows g hm
 have h1:=fiText_f hb (by omega) (by omega) k (by omega)
 have h2:=figureText_f hb (by omega) (by omega) k hk
 rw [e] at h1 h2
 exact ⟨h1,h2⟩
open Lib in
theorem cb_self (a:List UInt8):¬ compareBytes a a < 0:=by
 have:=cb_neg a a
 omega
open Lib in
theorem cb_lt_trans {a b c:List UInt8} (h1:compareBytes a b < 0) (h2:compareBytes b c < 0):compareBytes a c < 0:=by
 rcases Int.lt_or_eq_of_le (cb_trans _ _ _ (Int.le_of_lt h1) (Int.le_of_lt h2)) with h | h
 ·exact h
 ·rw [cb_zero _ _ h,cb_neg] at h1
  omega
theorem fuel_le {d k c e:Nat} (h:d + c < k) (he:e ≤ c):e < k:=by omega
theorem fuel_step {d k c:Nat} (h:d + 1 + c < k + 1):d + c < k:=by omega
theorem sub_step {l i d:Nat} (h:l - i = d + 1):l - (i + 1) = d:=by omega
set_option maxHeartbeats 2000000 in
theorem moFirst_l0 {w h:Nat} (g:GridOK (w:Int) (h:Int)) (hw:1 ≤ w) (W:List Nat) (hW:∀ m ∈ W,m < 2 ^ figN w h) (hl:W.length ≤ 16777216) (a u:List Int) (z0 z1:Int):∀ (d k i:Nat) (p:Nat),W.length - i = d → i ≤ W.length → d + 2000020 < k → p ∈ W.take i → (∀ q ∈ W.take i,¬ Lib.compareBytes (figText w h q).data.toList (figText w h p).data.toList < 0) →
  ∃ p',p' ∈ W ∧ (∀ q ∈ W,¬ Lib.compareBytes (figText w h q).data.toList (figText w h p').data.toList < 0) ∧ spec_moFirst.l0 k (figText w h p) (W.map fun n:Nat => (n:Int)) (((W.map fun n:Nat => (n:Int)).length:Nat):Int) (i:Int) (w:Int) (h:Int) a u (w:Int) (h:Int) (rowA w h p) (rowU w h p) = some ((w:Int),(h:Int),rowA w h p',rowU w h p',true):=by
 intro d
 induction d with
 | zero =>
  intro k i p h1 h2 h3 hp hq
  obtain rfl:i = W.length:=by omega
  obtain ⟨k,rfl⟩:∃ q,k = q + 1:=⟨k - 1,by omega⟩
  rw [List.take_length] at hp hq
  refine ⟨p,hp,hq,?_⟩
  rw [spec_moFirst.l0,List.length_map,if_neg (by omega)]
  have hne:((figText w h p).toList != ([]:List UInt8)) = true:=by
   rw [bne_iff_ne,bytes_toList]
   intro h9
   exact figText_ne hw (ba_ext (b:=⟨#[]⟩) h9)
  rw [hne]
 | succ d ih =>
  intro k i p h1 h2 h3 hp hq
  obtain ⟨k,rfl⟩:∃ q,k = q + 1:=⟨k - 1,by omega⟩
  have hi:i < W.length:=by omega
  have o1:W.length - (i + 1) = d:=sub_step h1
  have o2:d + 2000020 < k:=fuel_step h3
  have o3:(0:Int) ≤ (i:Int):=Int.natCast_nonneg i
  have hmi:=hW _ (List.getElem_mem hi)
  have hrd:rd (W.map fun n:Nat => (n:Int)) (i:Int) = ((W[i]:Nat):Int):=by
   unfold rd
   rw [Int.toNat_natCast,List.getD_eq_getElem?_getD,List.getElem?_map,List.getElem?_eq_getElem hi]; rfl
  have htk:W.take (i + 1) = W.take i ++ [W[i]]:=List.take_succ_eq_append_getElem hi
  have hne:¬ (figText w h p).toList = ([]:List UInt8):=by
   rw [bytes_toList]
   intro h9
   exact figText_ne hw (ba_ext (b:=⟨#[]⟩) h9)
  have hlt:(i:Int) < (((W.map fun n:Nat => (n:Int)).length:Nat):Int):=by rw [List.length_map]; omega
  have hw1:wrap64 ((i:Int) + 1) = ((i + 1:Nat):Int):=by
   clear ih hmi hrd htk hne hlt hW hq
   unfold wrap64; omega
  have hsq:=sqFigure_f g (pow_figN g hmi) k (fuel_le o2 (by decide))
  have htx:=(figT_f g hmi k (fuel_le o2 (by decide))).1
  by_cases hless:Lib.compareBytes (figText w h W[i]).data.toList (figText w h p).data.toList < 0
  ·obtain ⟨p',e1,e2,e3⟩:=ih k (i + 1) W[i] o1 hi o2 (by rw [htk]; exact List.mem_append_right _ (List.mem_singleton.2 rfl)) (fun q hqm => by
    rw [htk,List.mem_append,List.mem_singleton] at hqm
    rcases hqm with hqm | rfl
    ·intro h9
     have h10:=hq q hqm
     exact h10 (cb_lt_trans h9 hless)
    ·exact cb_self _)
   refine ⟨p',e1,e2,?_⟩
   rw [spec_moFirst.l0,if_pos hlt,if_pos o3,if_pos hlt,hrd,hsq,Option.bind_some]
   dsimp only
   rw [htx,Option.bind_some,if_neg hne,bytes_toList,bytes_toList,bytesLess_cb,decide_eq_true hless,if_pos rfl,hw1]
   exact e3
  ·obtain ⟨p',e1,e2,e3⟩:=ih k (i + 1) p o1 hi o2 (by rw [htk]; exact List.mem_append_left _ hp) (fun q hqm => by
    rw [htk,List.mem_append,List.mem_singleton] at hqm
    rcases hqm with hqm | rfl
    ·exact hq q hqm
    ·exact hless)
   refine ⟨p',e1,e2,?_⟩
   rw [spec_moFirst.l0,if_pos hlt,if_pos o3,if_pos hlt,hrd,hsq,Option.bind_some]
   dsimp only
   rw [htx,Option.bind_some,if_neg hne,bytes_toList,bytes_toList,bytesLess_cb,decide_eq_false hless,if_neg (by simp),hw1]
   exact e3

end Go.Proofs.YtehjfaddhmdicaaGreatDoor.P
namespace Go.Proofs.YtehjfaddhmdicaaGreatDoor.P
open Go.RowKit Go.Proofs.YtehjfaddhmdicaaGreatDoorW.PrintWords Go.Proofs.YtehjfaddhmdicaaGreatDoorW.PrintLast Go.Proofs.YtehjfaddhmdicaaGreatDoorW.PrintMore
attribute [local go_sem] max2_int min2_int max_two min_two max_three min_three max_four min_four   -- for this text's walks alone
set_option linter.unusedVariables false
set_option linter.unusedSimpArgs false

theorem join_inj {sep:List UInt8}:∀ {A B:List (List UInt8)},A.map List.length = B.map List.length → Lib.join A sep = Lib.join B sep → A = B:=by
  have tail:∀ {A B:List (List UInt8)},A.map List.length = B.map List.length → Lib.joinTail sep A = Lib.joinTail sep B → A = B:=by
    intro A
    induction A with
    | nil =>
      intro B h _
      cases B with
      | nil => rfl
      | cons b t => simp at h
    | cons a r ih =>
      intro B h hj
      cases B with
      | nil => simp at h
      | cons b t =>
        rw [List.map_cons,List.map_cons] at h
        injection h with h1 h2
        unfold Lib.joinTail at hj
        rw [List.map_cons,List.map_cons,List.flatten_cons,List.flatten_cons] at hj
        obtain ⟨e1,e2⟩:=List.append_inj hj (by rw [List.length_append,List.length_append,h1])
        rw [List.append_cancel_left e1,ih h2 e2]
  intro A B h hj
  cases A with
  | nil =>
    cases B with
    | nil => rfl
    | cons b t => simp at h
  | cons a r =>
    cases B with
    | nil => simp at h
    | cons b t =>
      rw [List.map_cons,List.map_cons] at h
      injection h with h1 h2
      rw [Lib.join_cons,Lib.join_cons] at hj
      obtain ⟨e1,e2⟩:=List.append_inj hj h1
      rw [e1,tail h2 e2]


theorem textRows_lens (w h m n:Nat):∀ y,(textRows w h m y).map List.length = (textRows w h n y).map List.length
  | 0 => rfl
  | y + 1 => by
    have ih:=textRows_lens w h m n y
    unfold textRows
    split <;> simp [ih,rowL_len]
theorem rowL_at {c:UInt8} (hc:c ≠ 46) {p q:Nat → Bool} {n:Nat} (h:rowL c p n = rowL c q n):∀ x,x < n → p x = q x:=by
  intro x hx
  unfold rowL at h
  have h2:=(List.map_inj_left.1 h) x (List.mem_range.2 hx)
  cases hp:p x <;> cases hq:q x
  · rfl
  · rw [hp,hq] at h2; exact absurd h2.symm hc
  · rw [hp,hq] at h2; exact absurd h2 hc
  · rfl
theorem textRows_bits {w h m n:Nat}:∀ Y,Y ≤ h + 1 → textRows w h m Y = textRows w h n Y → ∀ y,y < Y → (∀ x,x < w → levP w m y x = levP w n y x) ∧ (y < h → ∀ x,x < w + 1 → uprP w h m y x = uprP w h n y x)
  | 0,_,_,y,hy => absurd hy (by omega)
  | Y + 1,hY,he,y,hy => by
    rw [textRows,textRows] at he
    by_cases hh:Y < h
    · rw [if_pos hh,if_pos hh] at he
      obtain ⟨e1,e3⟩:=List.append_inj' he rfl
      obtain ⟨e1,e2⟩:=List.append_inj' e1 rfl
      by_cases hyY:y < Y
      · exact textRows_bits Y (by omega) e1 y hyY
      · obtain rfl:y = Y:=by omega
        injection e2 with e2 _
        injection e3 with e3 _
        exact ⟨rowL_at (by decide) e2,fun _ => rowL_at (by decide) e3⟩
    · rw [if_neg hh,if_neg hh] at he
      obtain ⟨e1,e2⟩:=List.append_inj' he rfl
      by_cases hyY:y < Y
      · exact textRows_bits Y (by omega) e1 y hyY
      · obtain rfl:y = Y:=by omega
        injection e2 with e2 _
        exact ⟨rowL_at (by decide) e2,fun z => absurd z hh⟩
theorem figText_inj {w h m n:Nat} (hw:1 ≤ w) (hm:m < 2 ^ (w * (h + 1) + h * (w + 1))) (hn:n < 2 ^ (w * (h + 1) + h * (w + 1))) (he:figText w h m = figText w h n):m = n:=by
  have h1:Lib.join (textRows w h m (h + 1)) [47] = Lib.join (textRows w h n (h + 1)) [47]:=by
    have:=congrArg (fun b:ByteArray => b.data.toList) he
    simpa [figText,BA] using this
  have h2:=join_inj (textRows_lens w h m n (h + 1)) h1
  have h3:=textRows_bits (h + 1) (Nat.le_refl _) h2
  apply Nat.eq_of_testBit_eq
  intro e
  by_cases hl:e < w * (h + 1)
  · have hy:e / w < h + 1:=Nat.div_lt_of_lt_mul hl
    have hx:e % w < w:=Nat.mod_lt _ hw
    have:=(h3 (e / w) hy).1 (e % w) hx
    unfold levP at this
    rw [show e / w * w + e % w = e by rw [Nat.mul_comm]; exact Nat.div_add_mod e w] at this
    exact this
  · by_cases hu:e < w * (h + 1) + h * (w + 1)
    · obtain ⟨z,rfl⟩:∃ z,e = w * (h + 1) + z:=⟨e - w * (h + 1),by omega⟩
      have hz:z < (w + 1) * h:=by rw [Nat.mul_comm]; omega
      have hy:z / (w + 1) < h:=Nat.div_lt_of_lt_mul hz
      have hx:z % (w + 1) < w + 1:=Nat.mod_lt _ (Nat.succ_pos _)
      have:=(h3 (z / (w + 1)) (by omega)).2 hy (z % (w + 1)) hx
      unfold uprP at this
      rw [show z / (w + 1) * (w + 1) + z % (w + 1) = z by rw [Nat.mul_comm]; exact Nat.div_add_mod z (w + 1)] at this
      exact this
    · rw [Nat.testBit_lt_two_pow (Nat.lt_of_lt_of_le hm (Nat.pow_le_pow_right (by omega) (by omega))),Nat.testBit_lt_two_pow (Nat.lt_of_lt_of_le hn (Nat.pow_le_pow_right (by omega) (by omega)))]


structure TidyOK (K:Nat) (w h:Int) (a u:List Int) (mt sq:Int) (mv td:Bool) (mn s al:Nat) (L:List S100) (cnt nd:Nat → Int) (F:Nat → S26) (T:Nat → ByteArray) (ws:List Nat):Prop where
 hmt:mt = (mn:Int)
 few:impl_isFew.f K w h a u = some true
 ok:FigOK K w h a u s al L cnt nd
 hm:rightM true (mn:Int) mv = true
 hq:numQ sq = true
 hws:((waysW mv mn al s).filter (withP cnt nd sq td)) = ws
 hwl:ws.length ≤ 1000000000
 hF:∀ m ∈ ws,impl_grid_figure.f w h (m:Int) = some ((F m).f0,(F m).f1,(F m).f2,(F m).f3)
 hT:∀ m ∈ ws,impl_figureText.f K (F m).f0 (F m).f1 (F m).f2 (F m).f3 = some (T m)
theorem moFirst_start {w h:Nat} (g:GridOK (w:Int) (h:Int)) (hw:1 ≤ w) (m:Nat) (W:List Nat) (hW:∀ x ∈ m :: W,x < 2 ^ figN w h) (hl:(m :: W).length ≤ 16777216) (a u:List Int) (k:Nat) (hk:19000000 < k) :
  ∃ p',p' ∈ m :: W ∧ (∀ q ∈ m :: W,¬ Lib.compareBytes (figText w h q).data.toList (figText w h p').data.toList < 0) ∧ spec_moFirst.l0 k (⟨#[]⟩:ByteArray) ((m :: W).map fun n:Nat => (n:Int)) ((((m :: W).map fun n:Nat => (n:Int)).length:Nat):Int) 0 (w:Int) (h:Int) a u 0 0 ([]:List Int) ([]:List Int) = some ((w:Int),(h:Int),rowA w h p',rowU w h p',true):=by
 obtain ⟨k,rfl⟩:∃ q,k = q + 1:=⟨k - 1,by omega⟩
 have hk2:18999999 < k:=by omega
 have hml:(m :: W).length - 1 + 2000020 < k:=by omega
 obtain ⟨p',e1,e2,e3⟩:=moFirst_l0 g hw (m :: W) hW hl a u 0 0 ((m :: W).length - 1) k 1 m rfl (by simp) hml (by simp) (fun q hq => by
  rw [show (m :: W).take 1 = [m] from rfl,List.mem_singleton] at hq
  rw [hq]; exact cb_self _)
 refine ⟨p',e1,e2,?_⟩
 have hlt:(0:Int) < ((((m :: W).map fun n:Nat => (n:Int)).length:Nat):Int):=by first | (simp; done) | (simp; omega)
 have hrd:rd ((m :: W).map fun n:Nat => (n:Int)) 0 = ((m:Nat):Int):=rfl
 have hmm:=hW m List.mem_cons_self
 have hsq:=sqFigure_f g (pow_figN g hmm) k (by omega)
 have htx:=(figT_f g hmm k (by omega)).1
 rw [spec_moFirst.l0,if_pos hlt,if_pos (Int.le_refl 0),if_pos hlt,hrd,hsq,Option.bind_some]
 dsimp only
 rw [htx,Option.bind_some,if_pos (show (⟨#[]⟩:ByteArray).toList = ([]:List UInt8) by rw [bytes_toList]),show wrap64 (0 + 1) = ((1:Nat):Int) by unfold wrap64; omega]
 exact e3
theorem figN_edges (w h:Nat):figN (w:Int) (h:Int) = edgesN w h:=by
 unfold figN edgesN
 have e1:((w:Int) * ((h:Int) + 1)).toNat = w * (h + 1):=by
  rw [show (w:Int) * ((h:Int) + 1) = ((w * (h + 1):Nat):Int) by rw [Int.natCast_mul]; rfl,Int.toNat_natCast]
 have e2:((h:Int) * ((w:Int) + 1)).toNat = h * (w + 1):=by
  rw [show (h:Int) * ((w:Int) + 1) = ((h * (w + 1):Nat):Int) by rw [Int.natCast_mul]; rfl,Int.toNat_natCast]
 rw [e1,e2]
theorem made_all {w h:Int} {a u:List Int} (hf:fewB w h a u = true) (ha:a.length ≤ 1000000) (hu:u.length ≤ 1000000) (mt sq:Int) (mv td:Bool) (hr:rightM true mt mv = true) (hq:numQ sq = true) :
  ∃ (W H:Nat) (mn s al:Nat) (L:List S100) (cnt nd:Nat → Int) (ws:List Nat),w = (W:Int) ∧ h = (H:Int) ∧ 1 ≤ W ∧ GridOK (W:Int) (H:Int) ∧ TidyOK 20000001 w h a u mt sq mv td mn s al L cnt nd (figM w h) (figText W H) ws ∧ ws.length ≤ 16777216 ∧ (∀ m ∈ ws,m < 2 ^ figN W H) ∧ spec_moThose.f 20000001 w h a u mt sq mv td = some (ws.map fun n:Nat => (n:Int)):=by
 obtain ⟨s,al,N,L,cnt,nd,hok,⟨hs,hal,hN⟩,hth⟩:=few_all2 hf ha hu 20000001 (by decide)
 have hfew:=isFew_f w h a u ha hu 20000001 (by decide)
 rw [hf] at hfew
 have hf1:=hf
 unfold fewB at hf1
 rw [Bool.and_eq_true] at hf1
 obtain ⟨hf1,-⟩:=hf1
 have g0:=gridOK_of hf1
 have b1:=g0.w1
 have b3:=g0.h1
 obtain ⟨W,rfl⟩:=Int.eq_ofNat_of_zero_le (show 0 ≤ w by omega)
 obtain ⟨H,rfl⟩:=Int.eq_ofNat_of_zero_le (show 0 ≤ h by omega)
 have g:GridOK (W:Int) (H:Int):=g0
 have hr2:=hr
 unfold rightM mostM at hr2
 simp only [Bool.true_and,Bool.and_eq_true,decide_eq_true_eq] at hr2
 obtain ⟨mn,rfl⟩:=Int.eq_ofNat_of_zero_le hr2.1
 obtain ⟨hlen,hms⟩:=hth (mn:Int) mv sq td hr
 rw [Int.toNat_natCast] at hlen hms
 rw [Int.toNat_natCast,Int.toNat_natCast] at hN
 have hb:∀ m ∈ (waysW mv mn al s).filter (withP cnt nd sq td),m < 2 ^ figN W H:=fun m hm => by
  rw [figN_edges,← hN]
  exact waysW_ltN hs hal m (List.mem_filter.1 hm).1
 have hl:((waysW mv mn al s).filter (withP cnt nd sq td)).length ≤ 16777216:=Nat.le_trans (List.length_filter_le _ _) hlen
 exact ⟨W,H,mn,s,al,L,cnt,nd,_,rfl,rfl,by omega,g,⟨rfl,hfew,hok,hr,hq,rfl,by omega,fun m hm => figure_f g (hb m hm),fun m hm => (figT_f g (hb m hm) 20000001 (by decide)).2⟩,hl,hb,hms⟩
theorem firstTidy_pure (mv:Bool) {w h:Int} {a u:List Int} (ha:a.length ≤ 1000000) (hu:u.length ≤ 1000000) (mt sq:Int) :
  (∃ (few:Bool) (s al:Nat) (L:List S100) (cnt nd:Nat → Int),spec_moFirst.f 20000002 w h a u mt sq mv = some (0,0,[],[],false) ∧ impl_isFew.f 20000001 w h a u = some few ∧ (few = true → FigOK 20000001 w h a u s al L cnt nd) ∧ (countR few s al cnt nd mt mv sq true).1 = 0) ∨
  (∃ (mn s al:Nat) (L:List S100) (cnt nd:Nat → Int) (F:Nat → S26) (T:Nat → ByteArray) (R:S26) (ws:List Nat),spec_moFirst.f 20000002 w h a u mt sq mv = some (R.f0,R.f1,R.f2,R.f3,true) ∧ TidyOK 20000001 w h a u mt sq mv true mn s al L cnt nd F T ws ∧ ws ≠ [] ∧
   (∀ p ∈ ws,(∀ q ∈ ws,¬ Lib.compareBytes (T q).data.toList (T p).data.toList < 0) → F p = R) ∧ R.f2.length + R.f3.length ≤ 1000000):=by
 have hask:=moAsked_f w h a u ha hu mt mv 20000002 (by decide)
 by_cases hf:fewB w h a u = true
 ·by_cases hr:rightM true mt mv = true
  ·by_cases hq:numQ sq = true
   ·obtain ⟨W,H,mn,s,al,L,cnt,nd,ws,rfl,rfl,hW,g,hok,hl,hb,hms⟩:=made_all hf ha hu mt sq mv true hr hq
    have hspec:spec_moFirst.f 20000002 (W:Int) (H:Int) a u mt sq mv = spec_moFirst.l0 20000001 (⟨#[]⟩:ByteArray) (ws.map fun n:Nat => (n:Int)) (((ws.map fun n:Nat => (n:Int)).length:Nat):Int) 0 (W:Int) (H:Int) a u 0 0 ([]:List Int) ([]:List Int):=by
     unfold spec_moFirst.f
     rw [hask,hf,hr,Option.bind_some,if_pos rfl,moSquares_f,hq,Option.bind_some]
     show spec_moFirst.j0 (20000001 + 1) mt sq mv false (W:Int) (H:Int) a u = _
     rw [spec_moFirst.j0,if_neg (by simp),hms,Option.bind_some]
    cases ws with
    | nil =>
     refine .inl ⟨true,s,al,L,cnt,nd,?_,hok.few,fun _ => hok.ok,?_⟩
     ·rw [hspec]
      show spec_moFirst.l0 (20000000 + 1) _ _ _ _ _ _ _ _ _ _ _ _ = _
      rw [spec_moFirst.l0,if_neg (by simp)]
      have e:((⟨#[]⟩:ByteArray).toList != ([]:List UInt8)) = false:=by rw [bytes_toList]; rfl
      rw [e]
     ·unfold countR
      rw [if_pos ⟨hr,hq⟩,hok.hmt,Int.toNat_natCast,hok.hws]
      rfl
    | cons m t =>
     obtain ⟨p',e1,e2,e3⟩:=moFirst_start g hW m t hb hl a u 20000001 (by decide)
     refine .inr ⟨mn,s,al,L,cnt,nd,_,_,figM W H p',m :: t,by rw [hspec,e3]; rfl,hok,by simp,fun p hp hle => ?_,?_⟩
     ·have h1:=hle p' e1
      have h2:=e2 p hp
      have h3:=cb_neg (figText W H p').data.toList (figText W H p).data.toList
      have h4:=cb_zero _ _ (show Lib.compareBytes (figText W H p').data.toList (figText W H p).data.toList = 0 by omega)
      have hbp:=hb p hp
      have hbp':=hb p' e1
      rw [figN_edges] at hbp hbp'
      rw [figText_inj hW hbp' hbp (ba_ext h4)]
     ·have h1:=rowA_len g p'
      have h2:=rowU_len g p'
      show (rowA (W:Int) (H:Int) p').length + (rowU (W:Int) (H:Int) p').length ≤ 1000000
      omega
   ·obtain ⟨s,al,L,cnt,nd,hok,-⟩:=few_all hf ha hu 20000001 (by decide)
    have hq':=Bool.eq_false_iff.2 hq
    refine .inl ⟨true,s,al,L,cnt,nd,?_,by rw [isFew_f w h a u ha hu _ (by decide),hf],fun _ => hok,?_⟩
    ·unfold spec_moFirst.f
     rw [hask,hf,hr,Option.bind_some,if_pos rfl,moSquares_f,hq',Option.bind_some]
     show spec_moFirst.j0 (20000001 + 1) mt sq mv true w h a u = _
     rw [spec_moFirst.j0,if_pos rfl]
    ·unfold countR
     rw [if_neg (fun hh => hq hh.2)]
  ·obtain ⟨s,al,L,cnt,nd,hok,-⟩:=few_all hf ha hu 20000001 (by decide)
   have hr':=Bool.eq_false_iff.2 hr
   refine .inl ⟨true,s,al,L,cnt,nd,?_,by rw [isFew_f w h a u ha hu _ (by decide),hf],fun _ => hok,?_⟩
   ·unfold spec_moFirst.f
    rw [hask,hf,hr',Option.bind_some,if_neg (by simp)]
    show spec_moFirst.j0 (20000001 + 1) mt sq mv true w h a u = _
    rw [spec_moFirst.j0,if_pos rfl]
   ·unfold countR
    rw [if_neg (fun hh => hr hh.1)]
 ·have hf':=Bool.eq_false_iff.2 hf
  have hr':rightM (fewB w h a u) mt mv = false:=by unfold rightM; rw [hf']; rfl
  refine .inl ⟨false,0,0,[],fun _ => 0,fun _ => 0,?_,by rw [isFew_f w h a u ha hu _ (by decide),hf'],(fun h9 => absurd h9 (by simp)),?_⟩
  ·unfold spec_moFirst.f
   rw [hask,hr',Option.bind_some,if_neg (by simp)]
   show spec_moFirst.j0 (20000001 + 1) mt sq mv true w h a u = _
   rw [spec_moFirst.j0,if_pos rfl]
  ·unfold countR
   have hr2:¬ (rightM false mt mv = true ∧ numQ sq = true):=fun hh => by
    have:=hh.1
    unfold rightM at this
    simp at this
   rw [if_neg hr2]
theorem answers_noF {f:Nat} {args:Array Value} {W:World} (h:Calls Tryz.prog f args W fun e w' => e = .returned (.tuple #[.agg #[.int .i64 0,.int .i64 0,.slice none 0 0,.slice none 0 0],.bool false]) ∧ Below W.heap.size W w') :
  Calls Tryz.prog f args W fun e w' => ∃ v2_ v3_:Value,e = .returned (.tuple #[.agg #[.int .i64 0,.int .i64 0,v2_,v3_],.bool false]) ∧ Kd.R (Kd.int .i64) 3 w' W.heap.size (fun k_ => some k_ ≠ (v3_:Value).ownBlock) v2_ [] ∧ Kd.R (Kd.int .i64) 3 w' W.heap.size (fun k_ => some k_ ≠ (v2_:Value).ownBlock) v3_ [] ∧ Below W.heap.size W w' :=
 h.mono fun _ _ ⟨he,hb⟩ => ⟨_,_,he,Kd.R_nil _ _ _ _ _,Kd.R_nil _ _ _ _ _,hb⟩

end Go.Proofs.YtehjfaddhmdicaaGreatDoor.P
/- What the row's listed variable,math/bits' table,gives a walk; a world in which it is laid. -/
namespace Go.Proofs.YtehjfaddhmdicaaGreatDoor.Laid
open Go.RowKit
theorem mapM_at {α β:Type} {f:α → Option β}:∀ {l:List α} {xs:List β},l.mapM f = some xs → ∀ (j:Nat) (x:α),l[j]? = some x → ∃ y,xs[j]? = some y ∧ f x = some y
  | [],xs,_,j,x,hj => by simp at hj
  | a :: l,xs,h,j,x,hj => by
    rw [List.mapM_cons] at h
    obtain ⟨y,hy,h⟩:=Option.bind_eq_some_iff.1 h
    obtain ⟨ys,hys,h⟩:=Option.bind_eq_some_iff.1 h
    obtain rfl:=Option.some.inj h
    cases j with
    | zero => simp at hj; subst hj; exact ⟨y,rfl,hy⟩
    | succ j => exact mapM_at hys j x (by simpa using hj)
theorem int_of_trod {H:Type} {enc:TypeId × Value → H} {P:Program} {w:World} {base:Nat} {sp:Nat → Bool} {held:Bool} {fuel:Nat} {t:TypeId} {k:IntKind} {c:Value} {y:DataW H × List MemPlace}
    (ht:P.underlying t = some (.int k)) (h:DataW.trod enc P w base sp held fuel t [c] = some y):∃ n,c = .int k n ∧ y = (.lit (.int k n),[]):=by
  cases fuel with
  | zero => simp [DataW.trod] at h
  | succ fuel =>
    cases c <;> simp [DataW.trod,ht] at h
    rename_i k' n
    obtain ⟨⟨rfl,_⟩,rfl⟩:=h
    exact ⟨n,rfl,rfl⟩
theorem bytes_of_trod {H:Type} {enc:TypeId × Value → H} {P:Program} {w:World} {base:Nat} {sp:Nat → Bool} {held:Bool} {fuel n:Nat} {t e:TypeId} {l:List Value} {tab:List Nat} {ps:List MemPlace} (ht:P.underlying t = some (.array n e)) (he:P.underlying e = some (.int .u8)) (h1:P.cellsOf t = n) (h2:P.cellsOf e = 1)
    (h:DataW.trod enc P w base sp held fuel t l = some (.agg (tab.map fun k:Nat => .lit (.int .u8 (k:Int))),ps)) (j:Nat) (hj:j < n):l[j]? = some (.int .u8 ((tab.getD j 0:Nat):Int)):=by
  cases fuel with
  | zero => simp [DataW.trod] at h
  | succ fuel =>
    simp only [DataW.trod,ht,h1,h2] at h
    split at h
    · rename_i hl
      obtain ⟨xs,hxs,hy⟩:=Option.map_eq_some_iff.1 h
      obtain ⟨y,hyj,hf⟩:=mapM_at hxs j j (by rw [List.getElem?_range hj])
      obtain ⟨c,hc⟩:∃ c,l[j]? = some c:=⟨l[j]'(by omega),List.getElem?_eq_getElem _⟩
      rw [Nat.mul_one,show (l.drop j).take 1 = [c] from by rw [List.drop_eq_getElem_cons (by omega)]; rw [List.getElem?_eq_getElem (by omega)] at hc; injection hc with hc; rw [hc]; rfl] at hf
      obtain ⟨m,rfl,rfl⟩:=int_of_trod he hf
      have h3:=(Prod.mk.inj hy).1
      injection h3 with h3
      have h4:=congrArg (fun q => q[j]?) h3
      simp only [List.getElem?_map,hyj,Option.map_some] at h4
      rw [hc,List.getD_eq_getElem?_getD]
      cases ht2:tab[j]? with
      | none => rw [ht2] at h4; cases h4
      | some q =>
        rw [ht2] at h4
        simp at h4
        rw [h4]; rfl
    · cases h
theorem gnum : Tryz.prog.globalNamed "math/bits.deBruijn64tab" = some 0 := by kernel_rfl
theorem gtype:(Tryz.prog.globals[0]?).map (·.type) = some 127:=by kernel_rfl
theorem cellsT:Tryz.prog.cellsOf 127 = 64:=by kernel_rfl
theorem cellsE:Tryz.prog.cellsOf 5 = 1:=by kernel_rfl
theorem tabIs:(Rows.laid_math_bits_deBruijn64tab:DataW Unit) = .agg (Lib.deBruijn64tab.map fun k => .lit (.int .u8 ((k:Nat):Int))):=by rfl
theorem plain (w : World) : laidMetH Tryz.prog [("math/bits.deBruijn64tab", Rows.laid_math_bits_deBruijn64tab)] w → laidMet Tryz.prog [("math/bits.deBruijn64tab", Rows.laid_math_bits_deBruijn64tab)] w := fun h => h
theorem tb {W : World} (h : laidMetH Tryz.prog [("math/bits.deBruijn64tab", Rows.laid_math_bits_deBruijn64tab)] W) : P.TB W := by
  obtain ⟨ps,⟨g,t,cs,fuel,p,q,hg,ht,hvar,hd,_,_⟩,_⟩:=plain W h
  obtain rfl:=Option.some.inj (gnum.symm.trans hg)
  obtain rfl:=Option.some.inj (gtype.symm.trans ht)
  refine ⟨fun j hj => ?_,trivial⟩
  rw [World.var?_cell hg hvar j]
  rw [tabIs] at hd
  have:=bytes_of_trod Tryz.underlying127 Tryz.underlying5 cellsT cellsE hd j hj
  rw [← Array.getElem?_toList]
  exact this
def cells64:Array Value:=(Lib.deBruijn64tab.map fun k => Value.int .u8 ((k:Nat):Int)).toArray
noncomputable def laidWorld (os:Os):World :=
  { World.holding Tryz.prog os ⟨#[],#[],[]⟩ with heap:=(World.holding Tryz.prog os ⟨#[],#[],[]⟩).heap.modify 0 fun
      | .cells _ t frozen => .cells cells64 t frozen
      | o => o }
set_option maxRecDepth 100000 in
theorem laidWorld_met (os : Os) (args : Array Value) : laidMetH Tryz.prog [("math/bits.deBruijn64tab", Rows.laid_math_bits_deBruijn64tab)] ((laidWorld os).forCall (fun _ _ => 0) ⟨#[], args, []⟩).memory :=
  laidMetH_of_parts (laidMet_of_run' 8 (by kernel_rfl) (by kernel_rfl)) (by kernel_rfl)
end Go.Proofs.YtehjfaddhmdicaaGreatDoor.Laid
namespace Go.Proofs.YtehjfaddhmdicaaGreatDoor.fnExactFirstTidyMove
open Go.ChangeShapes Go.WideShapes Go.ChangeAt Go.RowKit Go.Proofs.YtehjfaddhmdicaaGreatDoorW.PrintWords Go.Joins
set_option linter.unusedVariables false
theorem own:ownKnob Tryz.prog.godebug = none:=Closed.own
theorem laidOut:laidOutB Tryz.prog = true:=Closed.laidOut
def IsRow (k:IntKind) (w:World) (a:Option Addr) (len cap:Nat) (zs:List Int):Prop :=
 (a = none ∧ len = 0 ∧ cap = 0 ∧ zs = []) ∨
 ∃ x,a = some x ∧ len ≤ cap ∧ cap ≤ maxLen ∧ zs.length = cap ∧ (∀ i,i < zs.length → w.cell? (x.add i) = some (.int k (zs.getD i 0))) ∧ ∀ n ∈ zs,(Lit.int k n).wf = true
theorem opened {H:Type} {enc:TypeId × Value → H} {W:World} {m:Nat} {c:Value} {y:DataW H × List MemPlace} (hy:DataW.trod enc Tryz.prog W 0 (fun _ => true) true m 22 [c] = some y) :
  ∃ a len cap zs,c = .slice a len cap ∧ IsRow .i64 W a len cap zs:=by
 rcases open_ints Tryz.underlying22 Tryz.underlying3 (by kernel_rfl) hy with ⟨hcs,_⟩ | ⟨x,l,c,zs,hcs,_,hl,hm,hz,_,hcell,hwz⟩
 ·simp at hcs
  exact ⟨none,0,0,[],hcs,.inl ⟨rfl,rfl,rfl,rfl⟩⟩
 ·simp at hcs
  exact ⟨some x,l,c,zs,hcs,.inr ⟨_,rfl,hl,hm,by simpa using hz,hcell,hwz⟩⟩
theorem walk (a b:Int) (A2:Option Addr) (n2 c2:Nat) (z2:List Int) (A3:Option Addr) (n3 c3:Nat) (z3:List Int) (x1:Int) (x2:Int) (w:World) (w2:IsRow .i64 w A2 n2 c2 z2) (w3:IsRow .i64 w A3 n3 c3 z3) (y2:n2 * 8 ≤ 140737488351232) (y3:n3 * 8 ≤ 140737488351232) (hT:P.TB w) :
  Calls Tryz.prog 4 #[.agg #[.int .i64 a,.int .i64 b,.slice A2 n2 c2,.slice A3 n3 c3],.int .i64 x1,.int .i64 x2] w fun e w' => e = .returned (.bool true) ∧ Below w.heap.size w w':=by
 obtain ⟨l2,rfl,hr2,hm2,hw2,hc2⟩:=ReadsInt.ofRowC w2
 obtain ⟨l3,rfl,hr3,hm3,hw3,hc3⟩:=ReadsInt.ofRowC w3
 have k2:=Kd.C_of_reads (d:=(0:Int)) (h1:=fun _ => rfl) hr2
 have k3:=Kd.C_of_reads (d:=(0:Int)) (h1:=fun _ => rfl) hr3
 by_cases hbig:l2.length + l3.length ≤ 1000000
 ·have b2:l2.length ≤ 1000000:=Nat.le_trans (Nat.le_add_right _ _) hbig
  have b3:l3.length ≤ 1000000:=Nat.le_trans (Nat.le_add_left _ _) hbig
  rcases P.firstTidy_pure true (w:=a) (h:=b) (a:=l2) (u:=l3) b2 b3 x1 x2 with ⟨few,s,al,L,cnt,nd,hp1,hp2,hp3,hp4⟩ | ⟨mn,s,al,L,cnt,nd,F,T,R,ws,hp1,ok,hne,hR,hlen⟩
  ·exact P.law_FirstTidyMove_yes a b A2 c2 l2 A3 c3 l3 x1 x2 4000001 0 0 [] [] false P.TB (fun _ _ h hb => h.below hb) w k2 hc2 k3 hc3 hT hbig (by simp) (Nat.lt_succ_self _)
    (fun B2 d2 B3 d3 W hu2 hd2 hu3 hd3 hG => P.spec_FirstTidyMove.calls 20000002 a b B2 d2 l2 B3 d3 l3 x1 x2 0 0 [] [] false W hu2 hd2 hu3 hd3 (by unfold P.spec_FirstTidyMove.f; rw [hp1]; rfl))
    (fun B2 d2 B3 d3 W hu2 hd2 hu3 hd3 hG => P.answers_noF (P.impl_FirstTidyMove_no 20000001 a b B2 B3 d2 d3 l2 l3 x1 x2 few s al L cnt nd W hu2 hd2 hu3 hd3 hG hp2 hp3 hp4))
  ·obtain rfl:=ok.hmt
   exact P.law_FirstTidyMove_yes a b A2 c2 l2 A3 c3 l3 (mn:Int) x2 4000001 R.f0 R.f1 R.f2 R.f3 true P.TB (fun _ _ h hb => h.below hb) w k2 hc2 k3 hc3 hT hbig hlen (Nat.lt_succ_self _)
    (fun B2 d2 B3 d3 W hu2 hd2 hu3 hd3 hG => P.spec_FirstTidyMove.calls 20000002 a b B2 d2 l2 B3 d3 l3 (mn:Int) x2 R.f0 R.f1 R.f2 R.f3 true W hu2 hd2 hu3 hd3 (by unfold P.spec_FirstTidyMove.f; rw [hp1]; rfl))
    (fun B2 d2 B3 d3 W hu2 hd2 hu3 hd3 hG => P.impl_FirstTidyMove_yes 20000001 a b B2 B3 d2 d3 l2 l3 mn x2 s al L cnt nd F T R ws W hu2 hd2 hu3 hd3 hG ok.few ok.ok ok.hm ok.hq ok.hws hne ok.hwl ok.hF ok.hT hR)
 ·exact P.law_FirstTidyMove_no a b A2 c2 l2 A3 c3 l3 x1 x2 w k2 hc2 k3 hc3 (by clear hbig; omega) (by clear hbig; omega) hbig
theorem joined_mk (P:Program) (f:FuncId) (fn:Func) (s:ChangeSpec) (c:OpenClaim) (k0:(c.wf (OpenSpec.ofChange s)) = true) (k1:(laidOutB P) = true) (k2:(mapsRowed P) = true) (k3:(fn.params.all (P.readableRec ·)) = true) (k4:(namedTie P c.named s.vars) = true) (k5:((c.stops == [])) = true) (k6:((P.stops == [])) = true) (k7:((c.knobs == [])) = true) (k8:((P.stopKnobs == [])) = true) (k9:((c.inPlace == P.inPlace f)) = true) (k10:((c.unfollowed == P.unfollowed f)) = true) (k11:((c.recurses == P.recurses f)) = true) (k12:((c.named == P.varsNamed f)) = true) (k13:((c.maps == (fn.params.toList ++ s.plain.varTypes P).any (P.mapsRec ·))) = true) (k14:((c.ifaces == (fn.params.toList ++ s.plain.varTypes P).any (P.ifacesRec ·))) = true) (k15:((c.mapsOut == P.mapsAmong fn.resultTypes.toList)) = true) (k16:((c.loops == (fn.params.toList ++ s.plain.varTypes P).any (P.loopsFrom ·))) = true) (k17:((c.wideKeys == (fn.params.toList ++ s.plain.varTypes P ++ fn.resultTypes.toList).any (P.wideKeysFrom ·))) = true) (k18:(s.vars.all (P.varReadable ·)) = true) (k19:(fn.resultTypes.all (fun t => P.readableRec t && decide (t < P.types.size))) = true) (k20:((c.ifacesOut == fn.resultTypes.toList.any (P.ifacesRec ·))) = true) (k21:((c.loopsOut == fn.resultTypes.toList.any (P.loopsFrom ·))) = true) (k22:((c.plainKeys == P.plainKeys)) = true) (k23:(c.shortTexts.isNone) = true) (k24:(P.stopsHeard) = true) (k25:(P.mayEnter) = true) (k26:((c.lifted == P.liftsFinal)) = true) (k27:((P.make == some c.make)) = true) (hd:c.domain.isEmpty = true) (k28:(c.kinds == []) = true) (k29:((c.pinned == c.pinnedBy)) = true) (k30:((c.veiled == (fn.params.toList ++ s.plain.varTypes P ++ fn.resultTypes.toList).any (P.veiledRec ·))) = true) (k31:(c.veiledFits P fn.params.toList (fn.params.toList ++ s.plain.varTypes P ++ fn.resultTypes.toList)) = true):joinedFacts P f fn s c = true:=by
 unfold joinedFacts
 simp only [hd,if_true,k0,k1,k2,k3,k4,k5,k6,k7,k8,k9,k10,k11,k12,k13,k14,k15,k16,k17,k18,k19,k20,k21,k22,k23,k24,k25,k26,k27,k28,k29,k30,k31,Bool.and_self]
abbrev LAID : List (String × DataW Unit) := [("math/bits.deBruijn64tab", Rows.laid_math_bits_deBruijn64tab)]
set_option maxRecDepth 100000 in
theorem lifted (os:Os) (started:os.Started) (H:Type) (enc:TypeId × Value → H) :
  ReturnsInHanded {} Tryz.checked os 4 .any (fun w args => (Rows.fnExactFirstTidyMoveSpec.pre enc Tryz.prog Tryz.f4 [] false w args ∧ laidMetH Tryz.prog LAID w) ∧ sizedMet enc Tryz.prog Tryz.f4 (OpenSpec.ofChange Rows.fnExactFirstTidyMoveSpec) false w args) (Rows.fnExactFirstTidyMoveSpec.post enc Tryz.prog Tryz.f4 false true false false):=by
 refine returnsInHanded_of_change_and (C:=Tryz.checked) (X:=fun w _ => laidMetH Tryz.prog LAID w) (fun _ _ _ hh h => h.of_heap hh) own started (by kernel_rfl) Tryz.func4 (ChangeSpec.witness_at (enc:=enc) (C:=Tryz.checked) (os:=os) (X:=fun w _ => laidMetH Tryz.prog LAID w) false (Laid.laidWorld os) #[.agg #[.int .i64 0,.int .i64 0,.slice none 0 0,.slice none 0 0],.int .i64 0,.int .i64 0] 8 rfl (by kernel_rfl) (by kernel_rfl) (by kernel_rfl) (by kernel_rfl) (by kernel_rfl) (Laid.laidWorld_met os _)) ?_
 intro W base args ds gs before hval0 hW hcnd hsz0 hL _
 have hT:P.TB W:=Laid.tb hL
 have hsz:(DataW.weightsEach Tryz.prog (Tryz.f4.params.toList ++ Rows.fnExactFirstTidyMoveSpec.plain.varTypes Tryz.prog) (ds ++ gs)).all (· ≤ reachBytes) = true:=hsz0
 have hval:∀ (j:Nat) t v,Tryz.f4.params[j]? = some t → args[j]? = some v → Value.okWide Tryz.prog W .any base t v:=hval0
 have hW':=hW
 obtain ⟨p,q,hA0,hV,rfl,hfz,hnd⟩:=hW
 have hA:DataW.TrodAll enc Tryz.prog W 0 (fun _ => true) true Tryz.f4.params.toList args.toList ds p:=hA0
 rw [Tryz.params4] at hA hval hsz
 obtain ⟨v0,vs0,d0,ds0,p0,q0,hargs,rfl,rfl,h0,r0⟩:=trodAll_cons hA
 obtain ⟨v1,vs1,d1,ds1,p1,q1,rfl,rfl,rfl,h1,r1⟩:=trodAll_cons r0
 obtain ⟨v2,vs2,d2,ds2,p2,q2,rfl,rfl,rfl,h2,r2⟩:=trodAll_cons r1
 obtain ⟨rfl,rfl,rfl⟩:=trodAll_nil r2
 obtain rfl:args = #[v0,v1,v2]:=by cases args; simp_all
 obtain ⟨rfl,rfl⟩:=trodVars_none hV
 have k0:=h0
 have lt0:∀ x ∈ p0,x.block < W.heap.size:=by obtain ⟨m,hm⟩:=k0; exact DataW.trod_lt m _ _ _ hm
 obtain ⟨x1,rfl,rfl,rfl,wf1⟩:=open_int Tryz.underlying3 (hval 1 3 v1 rfl rfl) h1
 obtain ⟨x2,rfl,rfl,rfl,wf2⟩:=open_int Tryz.underlying3 (hval 2 3 v2 rfl rfl) h2
 obtain ⟨c0,c1,c2,c3,y0,y1,y2,y3,m,rfl,rfl,rfl,hy0,hy1,hy2,hy3⟩:=open_agg4 Tryz.underlying24 (by kernel_rfl) (by kernel_rfl) (hval 0 24 v0 rfl rfl) h0
 have hsz2:(DataW.weightsEach Tryz.prog [3,3,22,22] [y0.1,y1.1,y2.1,y3.1]).all (· ≤ reachBytes) = true:=by
  rw [List.all_eq_true]
  intro n hn
  exact List.all_eq_true.1 hsz n (DataW.weights_mem_each (j:=0) (t:=24) (d:=.agg [y0.1,y1.1,y2.1,y3.1]) rfl rfl n (by simp only [DataW.weights,Tryz.underlying24]; exact hn))
 obtain ⟨a,e0,-,wa⟩:=DataW.trod_int Tryz.underlying3 hy0
 obtain ⟨b,e1,-,wb⟩:=DataW.trod_int Tryz.underlying3 hy1
 obtain ⟨a2,len2,cap2,z2,rfl,w2⟩:=opened hy2
 obtain ⟨a3,len3,cap3,z3,rfl,w3⟩:=opened hy3
 have z2_:len2 * 8 ≤ 140737488351232:=sized_ints hsz2 (j:=2) (t:=22) rfl rfl Tryz.underlying22 Tryz.underlying3 (by kernel_rfl) (by kernel_rfl) (⟨m,by simpa [Value.cells] using hy2⟩:DataW.Trod enc Tryz.prog W 0 (fun _ => true) true 22 (.slice a2 len2 cap2) y2.1 y2.2)
 have z3_:len3 * 8 ≤ 140737488351232:=sized_ints hsz2 (j:=3) (t:=22) rfl rfl Tryz.underlying22 Tryz.underlying3 (by kernel_rfl) (by kernel_rfl) (⟨m,by simpa [Value.cells] using hy3⟩:DataW.Trod enc Tryz.prog W 0 (fun _ => true) true 22 (.slice a3 len3 cap3) y3.1 y3.2)
 obtain rfl:c0 = .int .i64 a:=by simpa using e0
 obtain rfl:c1 = .int .i64 b:=by simpa using e1
 clear hA0 hval0 hsz0 hsz hsz2
 refine (walk a b a2 len2 cap2 z2 a3 len3 cap3 z3 x1 x2 W w2 w3 z2_ z3_ hT).mono fun e W' ⟨he,bel⟩ => ?_
 subst he
 exact ⟨_,rfl,_,_,_,[],_,[],hW',trodAll_mk1 (shut_bool Tryz.underlying4 _),(trodAll_cons_mk (Below.trod laidOut (by kernel_rfl) (of_decide_eq_true (by kernel_rfl)) k0 bel lt0) (trodAll_cons_mk (shut_int Tryz.underlying3 wf1) (trodAll_cons_mk (shut_int Tryz.underlying3 wf2) trodAll_mk0))),rfl,bel.frame _,fun h => by cases h⟩
theorem k0_:(Rows.fnExactFirstTidyMoveRow.wf (OpenSpec.ofChange Rows.fnExactFirstTidyMoveSpec)) = true:=by kernel_rfl
theorem k1_:(laidOutB Tryz.prog) = true:=Closed.laidOut
theorem k2_:(mapsRowed Tryz.prog) = true:=Closed.mapsRowedP
theorem k3_:(Tryz.f4.params.all (Tryz.prog.readableRec ·)) = true:=by kernel_rfl
theorem k4_:(namedTie Tryz.prog Rows.fnExactFirstTidyMoveRow.named Rows.fnExactFirstTidyMoveSpec.vars) = true:=by kernel_rfl
theorem k5_:((Rows.fnExactFirstTidyMoveRow.stops == [])) = true:=by kernel_rfl
theorem k6_:((Tryz.prog.stops == [])) = true:=Closed.noStops
theorem k7_:((Rows.fnExactFirstTidyMoveRow.knobs == [])) = true:=by kernel_rfl
theorem k8_:((Tryz.prog.stopKnobs == [])) = true:=Closed.noKnobs
theorem k9_:((Rows.fnExactFirstTidyMoveRow.inPlace == Tryz.prog.inPlace 4)) = true:=by kernel_rfl
theorem k10_:((Rows.fnExactFirstTidyMoveRow.unfollowed == Tryz.prog.unfollowed 4)) = true:=by kernel_rfl
theorem k11_:((Rows.fnExactFirstTidyMoveRow.recurses == Tryz.prog.recurses 4)) = true:=by kernel_rfl
theorem k12_:((Rows.fnExactFirstTidyMoveRow.named == Tryz.prog.varsNamed 4)) = true:=by kernel_rfl
theorem k13_:((Rows.fnExactFirstTidyMoveRow.maps == (Tryz.f4.params.toList ++ Rows.fnExactFirstTidyMoveSpec.plain.varTypes Tryz.prog).any (Tryz.prog.mapsRec ·))) = true:=by kernel_rfl
theorem k14_:((Rows.fnExactFirstTidyMoveRow.ifaces == (Tryz.f4.params.toList ++ Rows.fnExactFirstTidyMoveSpec.plain.varTypes Tryz.prog).any (Tryz.prog.ifacesRec ·))) = true:=by kernel_rfl
theorem k15_:((Rows.fnExactFirstTidyMoveRow.mapsOut == Tryz.prog.mapsAmong Tryz.f4.resultTypes.toList)) = true:=by kernel_rfl
theorem k16_:((Rows.fnExactFirstTidyMoveRow.loops == (Tryz.f4.params.toList ++ Rows.fnExactFirstTidyMoveSpec.plain.varTypes Tryz.prog).any (Tryz.prog.loopsFrom ·))) = true:=by kernel_rfl
theorem k17_:((Rows.fnExactFirstTidyMoveRow.wideKeys == (Tryz.f4.params.toList ++ Rows.fnExactFirstTidyMoveSpec.plain.varTypes Tryz.prog ++ Tryz.f4.resultTypes.toList).any (Tryz.prog.wideKeysFrom ·))) = true:=by kernel_rfl
theorem k18_:(Rows.fnExactFirstTidyMoveSpec.vars.all (Tryz.prog.varReadable ·)) = true:=by kernel_rfl
theorem k19_:(Tryz.f4.resultTypes.all (fun t => Tryz.prog.readableRec t && decide (t < Tryz.prog.types.size))) = true:=by kernel_rfl
theorem k20_:((Rows.fnExactFirstTidyMoveRow.ifacesOut == Tryz.f4.resultTypes.toList.any (Tryz.prog.ifacesRec ·))) = true:=by kernel_rfl
theorem k21_:((Rows.fnExactFirstTidyMoveRow.loopsOut == Tryz.f4.resultTypes.toList.any (Tryz.prog.loopsFrom ·))) = true:=by kernel_rfl
theorem k22_:((Rows.fnExactFirstTidyMoveRow.plainKeys == Tryz.prog.plainKeys)) = true:=by kernel_rfl
theorem k23_:(Rows.fnExactFirstTidyMoveRow.shortTexts.isNone) = true:=by kernel_rfl
theorem k24_:(Tryz.prog.stopsHeard) = true:=Closed.stopsHeard
theorem k25_:(Tryz.prog.mayEnter) = true:=Closed.mayEnter
theorem k26_:((Rows.fnExactFirstTidyMoveRow.lifted == Tryz.prog.liftsFinal)) = true:=by rw [Closed.liftsFinal]; kernel_rfl
theorem k27_:((Tryz.prog.make == some Rows.fnExactFirstTidyMoveRow.make)) = true:=by rw [Closed.make]; kernel_rfl
theorem k28_:((Rows.fnExactFirstTidyMoveRow.kinds == [])) = true:=by kernel_rfl
theorem k29_:((Rows.fnExactFirstTidyMoveRow.pinned == Rows.fnExactFirstTidyMoveRow.pinnedBy)) = true:=by kernel_rfl
theorem k30_:((Rows.fnExactFirstTidyMoveRow.veiled == (Tryz.f4.params.toList ++ Rows.fnExactFirstTidyMoveSpec.plain.varTypes Tryz.prog ++ Tryz.f4.resultTypes.toList).any (Tryz.prog.veiledRec ·))) = true:=by kernel_rfl
theorem k31_:(Rows.fnExactFirstTidyMoveRow.veiledFits Tryz.prog Tryz.f4.params.toList (Tryz.f4.params.toList ++ Rows.fnExactFirstTidyMoveSpec.plain.varTypes Tryz.prog ++ Tryz.f4.resultTypes.toList)) = true:=by kernel_rfl
theorem k99_:(Rows.fnExactFirstTidyMoveRow.domain.isEmpty) = true:=by kernel_rfl
theorem closed:joinedFacts Tryz.prog 4 Tryz.f4 Rows.fnExactFirstTidyMoveSpec Rows.fnExactFirstTidyMoveRow = true :=
 joined_mk _ _ _ _ _ k0_ k1_ k2_ k3_ k4_ k5_ k6_ k7_ k8_ k9_ k10_ k11_ k12_ k13_ k14_ k15_ k16_ k17_ k18_ k19_ k20_ k21_ k22_ k23_ k24_ k25_ k26_ k27_ k99_ k28_ k29_ k30_ k31_
theorem over:Rows.fnExactFirstTidyMoveRow.holds Tryz.pinned (OpenSpec.ofChange Rows.fnExactFirstTidyMoveSpec) :=
 OpenClaim.holds_of_wide 4 Tryz.f4 rfl rfl rfl rfl rfl rfl rfl ⟨rfl,rfl,rfl,rfl,rfl⟩ rfl rfl rfl rfl rfl (by kernel_rfl) Tryz.func4 closed
  (of_decide_eq_true (by kernel_rfl)) (by unfold Func.isWrapper; first | (rw [if_pos (by decide +kernel)]; kernel_rfl) | (rw [if_neg (by decide +kernel)]; exact ⟨rfl,rfl⟩))
  (fun os started H enc _ => lifted os started H enc)
theorem card:Rows.FnExactFirstTidyMoveCardSaid :=
 Claim7.holds_tied_plain_at .later [] [.data] true (true, "09797953e7075cab7d6d9996ecb93b1fb5fd9987416a131e5383d57410b0ea4f") false
  over (fun _ h => by cases h) (by kernel_rfl) (fun _ h => by cases h) fnExactFirstTidyMove_row_tie rfl ⟨rfl,rfl⟩ (by kernel_rfl) rfl
  (fun f fn hf hfn => by
   obtain rfl : f = 4 := Option.some.inj ((show Tryz.prog.funcNamed "loop.example/g01233/laws.FnExactFirstTidyMove" = some 4 by kernel_rfl).symm.trans hf) |>.symm
   obtain rfl:fn = Tryz.f4:=(Option.some.inj (Tryz.func4.symm.trans hfn)).symm
   exact ⟨by kernel_rfl,fun j t ht => by
    rw [Tryz.params4] at ht
    have h3:t = 24 ∨ t = 3 ∨ t = 4:=by
     rcases j with _ | _ | _ | _ | _ | j
     all_goals first | (left; simpa using ht.symm) | (right; left; simpa using ht.symm) | (right; right; simpa using ht.symm) | simp at ht
    rcases h3 with rfl | rfl | rfl
    ·exact (show Tryz.prog.wantsStandIn 24 = false by kernel_rfl)
    ·exact (show Tryz.prog.wantsStandIn 3 = false by kernel_rfl)
    ·exact (show Tryz.prog.wantsStandIn 4 = false by kernel_rfl)⟩)
  (by kernel_rfl)
end Go.Proofs.YtehjfaddhmdicaaGreatDoor.fnExactFirstTidyMove
namespace Go.Proofs.YtehjfaddhmdicaaGreatDoor
theorem fnExactFirstTidyMove_holds : Rows.FnExactFirstTidyMoveCardSaid := fnExactFirstTidyMove.card
end Go.Proofs.YtehjfaddhmdicaaGreatDoor
