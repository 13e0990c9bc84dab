/- For every input the law FnExactAllTakes answers true: the program's AllTakes tells what the reference's AllTakes tells; no condition. (part 5 of the proof; the words of the kit's print tool and the texts of this seat, merged by a program) -/
import Derived.Below
import Derived.ChangeOld
import Derived.FnData
import Derived.Handed
import Derived.JoinedOf
import Derived.LaidHandle
import Derived.LaidLaws
import Derived.Laws.CopyOwn
import Derived.Lib.Join
import Derived.Lib.SmallJoins
import Derived.OpenShut
import Derived.ProofKit
import Derived.SevenTiedAt
import Derived.SizedLaws
import Derived.Test.YtehjfaddhmdicaaGreatDoorCards
import Derived.Test.YtehjfaddhmdicaaGreatDoorClosed
import Derived.Test.YtehjfaddhmdicaaGreatDoorRows
import Derived.Test.YtehjfaddhmdicaaGreatDoorTie
import Derived.WalkKit
import Derived.Test.YtehjfaddhmdicaaGreatDoorMFC4
namespace Go.Proofs.YtehjfaddhmdicaaGreatDoor.P
open Go.RowKit Go.Proofs.YtehjfaddhmdicaaGreatDoorW.PrintWords Go.Proofs.YtehjfaddhmdicaaGreatDoorW.PrintLast Go.Proofs.YtehjfaddhmdicaaGreatDoorW.PrintMore
attribute [local go_sem] max2_int min2_int max_two min_two max_three min_three max_four min_four   -- for this text's walks alone
set_option linter.unusedVariables false
set_option linter.unusedSimpArgs false

mutual
def spec_fiText.l0:Nat → ByteArray → Int → Int → Int → List Int → List Int → Option (ByteArray)
 | 0,_,_,_,_,_,_ => none
 | k + 1,x3,x4,x181000,x181001,x181002,x181003 => if x4 ≤ x181001 then (if x4 > 0 then (if x3.size + 1 ≤ 9223372036854775807 then (spec_fiText.j1 k (x3 ++ (⟨#[47]⟩:ByteArray)) x4 x181000 x181001 x181002 x181003) else (none)) else (spec_fiText.j1 k x3 x4 x181000 x181001 x181002 x181003)) else (some x3)
def spec_fiText.j1:Nat → ByteArray → Int → Int → Int → List Int → List Int → Option (ByteArray)
 | 0,_,_,_,_,_,_ => none
 | k + 1,x3,x4,x181000,x181001,x181002,x181003 => spec_fiText.l1 k x3 x4 0 x181000 x181001 x181002 x181003
def spec_fiText.l1:Nat → ByteArray → Int → Int → Int → Int → List Int → List Int → Option (ByteArray)
 | 0,_,_,_,_,_,_,_ => none
 | k + 1,x3,x4,x5,x181000,x181001,x181002,x181003 => if x5 < x181000 then ((spec_fiHas.f k x181000 x181001 x181002 x181003 false x5 x4).bind fun t181 => (if t181 = true then (if x3.size + 1 ≤ 9223372036854775807 then (spec_fiText.l1 k (x3 ++ (⟨#[45]⟩:ByteArray)) x4 (wrap64 (x5 + 1)) x181000 x181001 x181002 x181003) else (none)) else (if x3.size + 1 ≤ 9223372036854775807 then (spec_fiText.l1 k (x3 ++ (⟨#[46]⟩:ByteArray)) x4 (wrap64 (x5 + 1)) x181000 x181001 x181002 x181003) else (none)))) else (if x4 = x181001 then (some x3) else (if x3.size + 1 ≤ 9223372036854775807 then (spec_fiText.l2 k (x3 ++ (⟨#[47]⟩:ByteArray)) x4 0 x181000 x181001 x181002 x181003) else (none)))
def spec_fiText.l2:Nat → ByteArray → Int → Int → Int → Int → List Int → List Int → Option (ByteArray)
 | 0,_,_,_,_,_,_,_ => none
 | k + 1,x3,x4,x6,x181000,x181001,x181002,x181003 => if x6 ≤ x181000 then ((spec_fiHas.f k x181000 x181001 x181002 x181003 true x6 x4).bind fun t182 => (if t182 = true then (if x3.size + 1 ≤ 9223372036854775807 then (spec_fiText.l2 k (x3 ++ (⟨#[124]⟩:ByteArray)) x4 (wrap64 (x6 + 1)) x181000 x181001 x181002 x181003) else (none)) else (if x3.size + 1 ≤ 9223372036854775807 then (spec_fiText.l2 k (x3 ++ (⟨#[46]⟩:ByteArray)) x4 (wrap64 (x6 + 1)) x181000 x181001 x181002 x181003) else (none)))) else (spec_fiText.l0 k x3 (wrap64 (x4 + 1)) x181000 x181001 x181002 x181003)
end
def spec_fiText.f (k:Nat) (a0_0:Int) (a0_1:Int) (l0_2:List Int) (l0_3:List Int):Option (ByteArray):=spec_fiText.l0 k (⟨#[]⟩:ByteArray) 0 a0_0 a0_1 l0_2 l0_3
theorem spec_fiText.mono_l:∀ k,(∀ y0 y1 y2 y3 y4 y5,LeO (spec_fiText.l0 k y0 y1 y2 y3 y4 y5) (spec_fiText.l0 (k + 1) y0 y1 y2 y3 y4 y5)) ∧ (∀ y0 y1 y2 y3 y4 y5,LeO (spec_fiText.j1 k y0 y1 y2 y3 y4 y5) (spec_fiText.j1 (k + 1) y0 y1 y2 y3 y4 y5)) ∧ (∀ y0 y1 y2 y3 y4 y5 y6,LeO (spec_fiText.l1 k y0 y1 y2 y3 y4 y5 y6) (spec_fiText.l1 (k + 1) y0 y1 y2 y3 y4 y5 y6)) ∧ (∀ y0 y1 y2 y3 y4 y5 y6,LeO (spec_fiText.l2 k y0 y1 y2 y3 y4 y5 y6) (spec_fiText.l2 (k + 1) y0 y1 y2 y3 y4 y5 y6))
 | 0 => ⟨fun _ _ _ _ _ _ r h => by simp [spec_fiText.l0] at h,fun _ _ _ _ _ _ r h => by simp [spec_fiText.j1] at h,fun _ _ _ _ _ _ _ r h => by simp [spec_fiText.l1] at h,fun _ _ _ _ _ _ _ r h => by simp [spec_fiText.l2] at h⟩
 | k + 1 => by
  obtain ⟨ih0,ih1,ih2,ih3⟩:=spec_fiText.mono_l k
  refine ⟨?_,?_,?_,?_⟩
  ·intro y0 y1 y2 y3 y4 y5
   unfold spec_fiText.l0
   repeat' first | (with_reducible first | exact ih0 _ _ _ _ _ _ | exact ih1 _ _ _ _ _ _ | exact ih2 _ _ _ _ _ _ _ | exact ih3 _ _ _ _ _ _ _ | exact spec_fiHas.mono _ _ _ _ _ _ _ _ | exact LeO.refl _ | exact LeO.none _ | refine LeO.ite ?_ ?_ | refine LeO.bind ?_ (fun _ => ?_)) | exact ih0 _ _ _ _ _ _ | exact ih1 _ _ _ _ _ _ | exact ih2 _ _ _ _ _ _ _ | exact ih3 _ _ _ _ _ _ _ | exact spec_fiHas.mono _ _ _ _ _ _ _ _
  ·intro y0 y1 y2 y3 y4 y5
   unfold spec_fiText.j1
   repeat' first | (with_reducible first | exact ih0 _ _ _ _ _ _ | exact ih1 _ _ _ _ _ _ | exact ih2 _ _ _ _ _ _ _ | exact ih3 _ _ _ _ _ _ _ | exact spec_fiHas.mono _ _ _ _ _ _ _ _ | exact LeO.refl _ | exact LeO.none _ | refine LeO.ite ?_ ?_ | refine LeO.bind ?_ (fun _ => ?_)) | exact ih0 _ _ _ _ _ _ | exact ih1 _ _ _ _ _ _ | exact ih2 _ _ _ _ _ _ _ | exact ih3 _ _ _ _ _ _ _ | exact spec_fiHas.mono _ _ _ _ _ _ _ _
  ·intro y0 y1 y2 y3 y4 y5 y6
   unfold spec_fiText.l1
   repeat' first | (with_reducible first | exact ih0 _ _ _ _ _ _ | exact ih1 _ _ _ _ _ _ | exact ih2 _ _ _ _ _ _ _ | exact ih3 _ _ _ _ _ _ _ | exact spec_fiHas.mono _ _ _ _ _ _ _ _ | exact LeO.refl _ | exact LeO.none _ | refine LeO.ite ?_ ?_ | refine LeO.bind ?_ (fun _ => ?_)) | exact ih0 _ _ _ _ _ _ | exact ih1 _ _ _ _ _ _ | exact ih2 _ _ _ _ _ _ _ | exact ih3 _ _ _ _ _ _ _ | exact spec_fiHas.mono _ _ _ _ _ _ _ _
  ·intro y0 y1 y2 y3 y4 y5 y6
   unfold spec_fiText.l2
   repeat' first | (with_reducible first | exact ih0 _ _ _ _ _ _ | exact ih1 _ _ _ _ _ _ | exact ih2 _ _ _ _ _ _ _ | exact ih3 _ _ _ _ _ _ _ | exact spec_fiHas.mono _ _ _ _ _ _ _ _ | exact LeO.refl _ | exact LeO.none _ | refine LeO.ite ?_ ?_ | refine LeO.bind ?_ (fun _ => ?_)) | exact ih0 _ _ _ _ _ _ | exact ih1 _ _ _ _ _ _ | exact ih2 _ _ _ _ _ _ _ | exact ih3 _ _ _ _ _ _ _ | exact spec_fiHas.mono _ _ _ _ _ _ _ _
theorem spec_fiText.mono:∀ a0 a1 a2 a3 k,LeO (spec_fiText.f k a0 a1 a2 a3) (spec_fiText.f (k + 1) a0 a1 a2 a3):=by
 intro a0 a1 a2 a3 k
 obtain ⟨ih0,ih1,ih2,ih3⟩:=spec_fiText.mono_l k
 unfold spec_fiText.f
 repeat' first | (with_reducible first | exact ih0 _ _ _ _ _ _ | exact ih1 _ _ _ _ _ _ | exact ih2 _ _ _ _ _ _ _ | exact ih3 _ _ _ _ _ _ _ | exact spec_fiHas.mono _ _ _ _ _ _ _ _ | exact LeO.refl _ | exact LeO.none _ | refine LeO.ite ?_ ?_ | refine LeO.bind ?_ (fun _ => ?_)) | exact ih0 _ _ _ _ _ _ | exact ih1 _ _ _ _ _ _ | exact ih2 _ _ _ _ _ _ _ | exact ih3 _ _ _ _ _ _ _ | exact spec_fiHas.mono _ _ _ _ _ _ _ _
set_option maxHeartbeats 8000000 in
set_option maxRecDepth 100000 in
theorem spec_fiText.calls (k:Nat) (a0_0:Int) (a0_1:Int) (A0_2:Option Addr) (c0_2:Nat) (l0_2:List Int) (A0_3:Option Addr) (c0_3:Nat) (l0_3:List Int) (r:ByteArray) (w:World) (hr0_2:Kd.C (Kd.int .i64) w A0_2 l0_2.length l0_2) (hc0_2:l0_2.length ≤ c0_2) (hr0_3:Kd.C (Kd.int .i64) w A0_3 l0_3.length l0_3) (hc0_3:l0_3.length ≤ c0_3) (h:spec_fiText.f k a0_0 a0_1 l0_2 l0_3 = some r) :
  Calls Tryz.prog 38 #[.agg #[.int .i64 a0_0,.int .i64 a0_1,.slice A0_2 l0_2.length c0_2,.slice A0_3 l0_3.length c0_3]] w fun e w' => e = .returned (.string r) ∧ Below w.heap.size w w':=by
 have hu26:=Tryz.underlying26
 have HR0_2:=am_ hr0_2
 have HC0_2:=am_ hc0_2
 clear hr0_2 hc0_2
 have HR0_3:=am_ hr0_3
 have HC0_3:=am_ hc0_3
 clear hr0_3 hc0_3
 have HB:=am_ (Below.refl w.heap.size w)
 have H:(spec_fiText.l0 k (⟨#[]⟩:ByteArray) 0 a0_0 a0_1 l0_2 l0_3) = some r:=h
 clear h
 have H':=am_ H
 clear H
 go_enter Tryz.func38,Tryz.ntmps38
 go_wp2_with (first | ((with_reducible refine gate_dst (N:=1) rfl ?_); refine boxE_ (N:=1) (cs:=#[.int .i64 a0_0,.int .i64 a0_1,.slice A0_2 l0_2.length c0_2,.slice A0_3 l0_3.length c0_3]) (t:=26) ?_; intro gb180 hg w2 hbox hb; have n0_:=am_ (below_step (bl0_ HB.out) hb); have n1_:=am_ (hbox); have n2_:=am_ ((bs0_ hg HB.out:w.heap.size ≤ gb180)); have n3_:=am_ ((bs0_ hg HB.out:w.heap.size ≤ gb180)); clear HB; have HB:=n0_; have BK180:=n1_; have GW180:=n2_; have GE180:=n3_; clear n0_ n1_ n2_ n3_; clear hb hbox hg))
 go_loopg [3,4] k (fun kq v3 v4 w' => ∃ (x3_1:ByteArray) (x4_1:Int),v3 = .string x3_1 ∧ v4 = .int .i64 x4_1 ∧ Aside0 (spec_fiText.l0 kq x3_1 x4_1 a0_0 a0_1 l0_2 l0_3 = some r) ∧ Aside0 (kq ≤ k) ∧ Aside0 (w'.heap[gb180]? = some (.cells #[.int .i64 a0_0,.int .i64 a0_1,(.slice A0_2 l0_2.length c0_2),(.slice A0_3 l0_3.length c0_3)] 26 (0,0))) ∧ Aside0 (Below w.heap.size w w'))
 case atStart => exact ⟨((⟨#[]⟩:ByteArray)),(0),rs_,rs_,H',⟨Nat.le_refl _⟩,⟨bk_ BK180.out⟩,⟨bl1_ HB.out GE180.out⟩⟩
 case round =>
  clear H'
  try clear p2
  obtain ⟨x3_1,x4_1,rfl,rfl,HA,HK1,BK180,HB⟩:=hrel
  cases gk with
  | zero => exact absurd HA.out (by simp [spec_fiText.l0])
  | succ k1 =>
   have H:=HA.out
   clear HA
   simp only [spec_fiText.l0] at H
   by_cases c3:x4_1 ≤ a0_1
   ·rw [if_pos c3] at H
    have c3b0:decide (x4_1 ≤ a0_1) = true:=decide_eq_true c3
    clear c3
    have HC4:=am_ H
    clear H
    have hcz5_0:wr.cell? ⟨gb180,0,none⟩ = some (.int .i64 a0_0):=(bc_ BK180.out 0).trans rfl
    have hcz5_1:wr.cell? ⟨gb180,1,none⟩ = some (.int .i64 a0_1):=(bc_ BK180.out 1).trans rfl
    have hcz5_2:wr.cell? ⟨gb180,2,none⟩ = some (.slice A0_2 l0_2.length c0_2):=(bc_ BK180.out 2).trans rfl
    have hcz5_3:wr.cell? ⟨gb180,3,none⟩ = some (.slice A0_3 l0_3.length c0_3):=(bc_ BK180.out 3).trans rfl
    have hfz5_0:=bz_ BK180.out 0
    have hfz5_1:=bz_ BK180.out 1
    have hfz5_2:=bz_ BK180.out 2
    have hfz5_3:=bz_ BK180.out 3
    go_upto_if 14 with (fail)
    go_cut [3] (fun v3 wc => ∃ (kq:Nat) (x3_3:ByteArray),v3 = .string x3_3 ∧ Aside0 (spec_fiText.j1 kq x3_3 x4_1 a0_0 a0_1 l0_2 l0_3 = some r) ∧ Aside0 (kq ≤ k1) ∧ Aside0 (wc.heap[gb180]? = some (.cells #[.int .i64 a0_0,.int .i64 a0_1,(.slice A0_2 l0_2.length c0_2),(.slice A0_3 l0_3.length c0_3)] 26 (0,0))) ∧ Aside0 (Below w.heap.size w wc))
    case first =>
     have H:=HC4.out
     clear HC4
     by_cases c6:x4_1 > 0
     ·rw [if_pos c6] at H
      have c6b0:decide (0 < x4_1) = true:=decide_eq_true c6
      clear c6
      (first | rw [c6b0] | (simp only [i64_w,i32_w]; rw [c6b0]) | skip)
      by_cases c7:x3_1.size + 1 ≤ 9223372036854775807
      ·rw [if_pos c7] at H
       have c7b0:=eq_true c7
       have c7b1:decide (x3_1.size + 1 ≤ 9223372036854775807) = true:=decide_eq_true c7
       try have c7b2:(9223372036854775807 < x3_1.size + 1) = False:=eq_false (Nat.not_lt.2 c7)
       have H':=am_ H
       clear H
       go_wp2
       go_meet
       case rel => exact ⟨_,(x3_1 ++ (⟨#[47]⟩:ByteArray)),rs_,H',⟨by have:=HK1.out; first | omega | exact Nat.le_refl _⟩,⟨bk_ BK180.out⟩,⟨bl1_ HB.out GE180.out⟩⟩
      ·rw [if_neg c7] at H
       exact absurd H (by simp)
     ·rw [if_neg c6] at H
      have c6b0:decide (0 < x4_1) = false:=decide_eq_false c6
      clear c6
      (first | rw [c6b0] | (simp only [i64_w,i32_w]; rw [c6b0]) | skip)
      have H':=am_ H
      clear H
      go_wp2
      go_meet
      case rel => exact ⟨_,(x3_1),rs_,H',⟨by have:=HK1.out; first | omega | exact Nat.le_refl _⟩,⟨bk_ BK180.out⟩,⟨bl1_ HB.out GE180.out⟩⟩
    case rest =>
     clear HC4
     try clear p2
     try clear c3
     try clear c3b0
     try clear c6
     try clear c6b0
     try clear c7
     try clear c7b0
     try clear c7b1
     try clear c7b2
     try clear hcz5_0
     try clear hcz5_1
     try clear hcz5_2
     try clear hcz5_3
     try clear hfz5_0
     try clear hfz5_1
     try clear hfz5_2
     try clear hfz5_3
     try clear p2
     obtain ⟨kq,x3_3,rfl,HA,HJ3,BK180,HB⟩:=hcut
     cases kq with
     | zero => exact absurd HA.out (by simp [spec_fiText.j1])
     | succ kj3 =>
      have H:=HA.out
      clear HA
      simp only [spec_fiText.j1] at H
      have H':=am_ H
      clear H
      go_wp2
      go_loopg [3,5] kj3 (fun kq v3 v5 w' => ∃ (x3_3:ByteArray) (x5_3:Int),v3 = .string x3_3 ∧ v5 = .int .i64 x5_3 ∧ Aside0 (spec_fiText.l1 kq x3_3 x4_1 x5_3 a0_0 a0_1 l0_2 l0_3 = some r) ∧ Aside0 (kq ≤ kj3) ∧ Aside0 (w'.heap[gb180]? = some (.cells #[.int .i64 a0_0,.int .i64 a0_1,(.slice A0_2 l0_2.length c0_2),(.slice A0_3 l0_3.length c0_3)] 26 (0,0))) ∧ Aside0 (Below w.heap.size w w'))
      case atStart => exact ⟨(x3_3),(0),rs_,rs_,H',⟨Nat.le_refl _⟩,⟨bk_ BK180.out⟩,⟨bl1_ HB.out GE180.out⟩⟩
      case round =>
       clear H'
       try clear p2
       try clear c3
       try clear c3b0
       try clear c6
       try clear c6b0
       try clear c7
       try clear c7b0
       try clear c7b1
       try clear c7b2
       try clear hcz5_0
       try clear hcz5_1
       try clear hcz5_2
       try clear hcz5_3
       try clear hfz5_0
       try clear hfz5_1
       try clear hfz5_2
       try clear hfz5_3
       try clear p2
       obtain ⟨x3_3,x5_3,rfl,rfl,HA,HK3,BK180,HB⟩:=hrel
       cases gk with
       | zero => exact absurd HA.out (by simp [spec_fiText.l1])
       | succ k3 =>
        have H:=HA.out
        clear HA
        simp only [spec_fiText.l1] at H
        by_cases c8:x5_3 < a0_0
        ·rw [if_pos c8] at H
         have c8b0:decide (x5_3 < a0_0) = true:=decide_eq_true c8
         clear c8
         replace H:=bi_ H
         obtain ⟨t181,A90,H⟩:=H
         replace H:(if t181 = true then (if x3_3.size + 1 ≤ 9223372036854775807 then (spec_fiText.l1 k3 (x3_3 ++ (⟨#[45]⟩:ByteArray)) x4_1 (wrap64 (x5_3 + 1)) a0_0 a0_1 l0_2 l0_3) else (none)) else (if x3_3.size + 1 ≤ 9223372036854775807 then (spec_fiText.l1 k3 (x3_3 ++ (⟨#[46]⟩:ByteArray)) x4_1 (wrap64 (x5_3 + 1)) a0_0 a0_1 l0_2 l0_3) else (none))) = some r:=H
         have A9:=am_ A90
         clear A90
         by_cases c10:t181 = true
         ·subst c10
          have H1:(if x3_3.size + 1 ≤ 9223372036854775807 then (spec_fiText.l1 k3 (x3_3 ++ (⟨#[45]⟩:ByteArray)) x4_1 (wrap64 (x5_3 + 1)) a0_0 a0_1 l0_2 l0_3) else (none)) = some r:=by rw [if_pos rfl] at H; exact H
          clear H
          have H:=H1
          clear H1
          by_cases c11:x3_3.size + 1 ≤ 9223372036854775807
          ·rw [if_pos c11] at H
           have c11b0:=eq_true c11
           have c11b1:decide (x3_3.size + 1 ≤ 9223372036854775807) = true:=decide_eq_true c11
           try have c11b2:(9223372036854775807 < x3_3.size + 1) = False:=eq_false (Nat.not_lt.2 c11)
           have H':=am_ H
           clear H
           have hcz12_0:wr.cell? ⟨gb180,0,none⟩ = some (.int .i64 a0_0):=(bc_ BK180.out 0).trans rfl
           have hcz12_1:wr.cell? ⟨gb180,1,none⟩ = some (.int .i64 a0_1):=(bc_ BK180.out 1).trans rfl
           have hcz12_2:wr.cell? ⟨gb180,2,none⟩ = some (.slice A0_2 l0_2.length c0_2):=(bc_ BK180.out 2).trans rfl
           have hcz12_3:wr.cell? ⟨gb180,3,none⟩ = some (.slice A0_3 l0_3.length c0_3):=(bc_ BK180.out 3).trans rfl
           have hfz12_0:=bz_ BK180.out 0
           have hfz12_1:=bz_ BK180.out 1
           have hfz12_2:=bz_ BK180.out 2
           have hfz12_3:=bz_ BK180.out 3
           go_wp2_with (first | ((with_reducible refine gate_callee (f:=52) rfl ?_); refine goesL_ (some 26) rfl rfl Tryz.func52 (by kernel_rfl) rfl #[.agg #[.int .i64 a0_0,.int .i64 a0_1,.slice A0_2 l0_2.length c0_2,.slice A0_3 l0_3.length c0_3],.bool false,.int .i64 x5_3,.int .i64 x4_1] rfl ob_ ?_; (with_reducible refine (spec_fiHas.calls k3 a0_0 a0_1 _ _ l0_2 _ _ l0_3 false x5_3 x4_1 true _ ?side1 ?side2 ?side3 ?side4 A9.out).mono ?_); (case side1 => exact kc_ (Kd.C_below HR0_2.out HB.out)); (case side2 => exact HC0_2.out); (case side3 => exact kc_ (Kd.C_below HR0_3.out HB.out)); (case side4 => exact HC0_3.out); rintro e w13 ⟨rfl,hb⟩; refine ⟨_,rfl,?_⟩; have n0_:=am_ (bb_ BK180.out hb); have n1_:=am_ (below_step (bl1_ HB.out GE180.out) hb); clear BK180; clear HB; have BK180:=n0_; have HB:=n1_; clear n0_ n1_; (try clear hb); (try clear hb2); (try clear hk); (try clear hi)))
           go_roundg k3
           case measure => have:=HK1.out; have:=HJ3.out; have:=HK3.out; omega
           case rel => exact ⟨(x3_3 ++ (⟨#[45]⟩:ByteArray)),(wrap64 (x5_3 + 1)),rs_,rs_,H',⟨by have:=HK1.out; have:=HJ3.out; have:=HK3.out; omega⟩,⟨bk_ BK180.out⟩,⟨bl1_ HB.out GE180.out⟩⟩
          ·rw [if_neg c11] at H
           exact absurd H (by simp)
         ·replace c10:=Bool.eq_false_iff.mpr c10
          subst c10
          have H1:(if x3_3.size + 1 ≤ 9223372036854775807 then (spec_fiText.l1 k3 (x3_3 ++ (⟨#[46]⟩:ByteArray)) x4_1 (wrap64 (x5_3 + 1)) a0_0 a0_1 l0_2 l0_3) else (none)) = some r:=by rw [if_neg (show ¬ (false = true) by decide)] at H; exact H
          clear H
          have H:=H1
          clear H1
          by_cases c14:x3_3.size + 1 ≤ 9223372036854775807
          ·rw [if_pos c14] at H
           have c14b0:=eq_true c14
           have c14b1:decide (x3_3.size + 1 ≤ 9223372036854775807) = true:=decide_eq_true c14
           try have c14b2:(9223372036854775807 < x3_3.size + 1) = False:=eq_false (Nat.not_lt.2 c14)
           have H':=am_ H
           clear H
           have hcz15_0:wr.cell? ⟨gb180,0,none⟩ = some (.int .i64 a0_0):=(bc_ BK180.out 0).trans rfl
           have hcz15_1:wr.cell? ⟨gb180,1,none⟩ = some (.int .i64 a0_1):=(bc_ BK180.out 1).trans rfl
           have hcz15_2:wr.cell? ⟨gb180,2,none⟩ = some (.slice A0_2 l0_2.length c0_2):=(bc_ BK180.out 2).trans rfl
           have hcz15_3:wr.cell? ⟨gb180,3,none⟩ = some (.slice A0_3 l0_3.length c0_3):=(bc_ BK180.out 3).trans rfl
           have hfz15_0:=bz_ BK180.out 0
           have hfz15_1:=bz_ BK180.out 1
           have hfz15_2:=bz_ BK180.out 2
           have hfz15_3:=bz_ BK180.out 3
           go_wp2_with (first | ((with_reducible refine gate_callee (f:=52) rfl ?_); refine goesL_ (some 26) rfl rfl Tryz.func52 (by kernel_rfl) rfl #[.agg #[.int .i64 a0_0,.int .i64 a0_1,.slice A0_2 l0_2.length c0_2,.slice A0_3 l0_3.length c0_3],.bool false,.int .i64 x5_3,.int .i64 x4_1] rfl ob_ ?_; (with_reducible refine (spec_fiHas.calls k3 a0_0 a0_1 _ _ l0_2 _ _ l0_3 false x5_3 x4_1 false _ ?side1 ?side2 ?side3 ?side4 A9.out).mono ?_); (case side1 => exact kc_ (Kd.C_below HR0_2.out HB.out)); (case side2 => exact HC0_2.out); (case side3 => exact kc_ (Kd.C_below HR0_3.out HB.out)); (case side4 => exact HC0_3.out); rintro e w16 ⟨rfl,hb⟩; refine ⟨_,rfl,?_⟩; have n0_:=am_ (bb_ BK180.out hb); have n1_:=am_ (below_step (bl1_ HB.out GE180.out) hb); clear BK180; clear HB; have BK180:=n0_; have HB:=n1_; clear n0_ n1_; (try clear hb); (try clear hb2); (try clear hk); (try clear hi)))
           go_roundg k3
           case measure => have:=HK1.out; have:=HJ3.out; have:=HK3.out; omega
           case rel => exact ⟨(x3_3 ++ (⟨#[46]⟩:ByteArray)),(wrap64 (x5_3 + 1)),rs_,rs_,H',⟨by have:=HK1.out; have:=HJ3.out; have:=HK3.out; omega⟩,⟨bk_ BK180.out⟩,⟨bl1_ HB.out GE180.out⟩⟩
          ·rw [if_neg c14] at H
           exact absurd H (by simp)
        ·rw [if_neg c8] at H
         have c8b0:decide (x5_3 < a0_0) = false:=decide_eq_false c8
         clear c8
         by_cases c17:x4_1 = a0_1
         ·rw [if_pos c17] at H
          have c17b0:(x4_1 == a0_1) = true:=beq_iff_eq.mpr c17
          have c17b1:(x4_1 != a0_1) = false:=bne_eq_false_iff_eq.mpr c17
          clear c17
          obtain rfl:=Option.some.inj H
          have hcz18_0:wr.cell? ⟨gb180,0,none⟩ = some (.int .i64 a0_0):=(bc_ BK180.out 0).trans rfl
          have hcz18_1:wr.cell? ⟨gb180,1,none⟩ = some (.int .i64 a0_1):=(bc_ BK180.out 1).trans rfl
          have hcz18_2:wr.cell? ⟨gb180,2,none⟩ = some (.slice A0_2 l0_2.length c0_2):=(bc_ BK180.out 2).trans rfl
          have hcz18_3:wr.cell? ⟨gb180,3,none⟩ = some (.slice A0_3 l0_3.length c0_3):=(bc_ BK180.out 3).trans rfl
          have hfz18_0:=bz_ BK180.out 0
          have hfz18_1:=bz_ BK180.out 1
          have hfz18_2:=bz_ BK180.out 2
          have hfz18_3:=bz_ BK180.out 3
          go_wp2
          go_ret
          exact ⟨er_,bl1_ HB.out GE180.out⟩
         ·rw [if_neg c17] at H
          have c17b0:(x4_1 == a0_1) = false:=beq_eq_false_iff_ne.mpr c17
          have c17b1:(x4_1 != a0_1) = true:=bne_iff_ne.mpr c17
          by_cases c19:x3_3.size + 1 ≤ 9223372036854775807
          ·rw [if_pos c19] at H
           have c19b0:=eq_true c19
           have c19b1:decide (x3_3.size + 1 ≤ 9223372036854775807) = true:=decide_eq_true c19
           try have c19b2:(9223372036854775807 < x3_3.size + 1) = False:=eq_false (Nat.not_lt.2 c19)
           have H':=am_ H
           clear H
           have hcz20_0:wr.cell? ⟨gb180,0,none⟩ = some (.int .i64 a0_0):=(bc_ BK180.out 0).trans rfl
           have hcz20_1:wr.cell? ⟨gb180,1,none⟩ = some (.int .i64 a0_1):=(bc_ BK180.out 1).trans rfl
           have hcz20_2:wr.cell? ⟨gb180,2,none⟩ = some (.slice A0_2 l0_2.length c0_2):=(bc_ BK180.out 2).trans rfl
           have hcz20_3:wr.cell? ⟨gb180,3,none⟩ = some (.slice A0_3 l0_3.length c0_3):=(bc_ BK180.out 3).trans rfl
           have hfz20_0:=bz_ BK180.out 0
           have hfz20_1:=bz_ BK180.out 1
           have hfz20_2:=bz_ BK180.out 2
           have hfz20_3:=bz_ BK180.out 3
           go_wp2
           go_loopg [3,6] k3 (fun kq v3 v6 w' => ∃ (x3_4:ByteArray) (x6_4:Int),v3 = .string x3_4 ∧ v6 = .int .i64 x6_4 ∧ Aside0 (spec_fiText.l2 kq x3_4 x4_1 x6_4 a0_0 a0_1 l0_2 l0_3 = some r) ∧ Aside0 (kq ≤ k3) ∧ Aside0 (w'.heap[gb180]? = some (.cells #[.int .i64 a0_0,.int .i64 a0_1,(.slice A0_2 l0_2.length c0_2),(.slice A0_3 l0_3.length c0_3)] 26 (0,0))) ∧ Aside0 (Below w.heap.size w w'))
           case atStart => exact ⟨(x3_3 ++ (⟨#[47]⟩:ByteArray)),(0),rs_,rs_,H',⟨Nat.le_refl _⟩,⟨bk_ BK180.out⟩,⟨bl1_ HB.out GE180.out⟩⟩
           case round =>
            clear H'
            try clear c1
            try clear p2
            try clear c3
            try clear c3b0
            try clear c5
            try clear c6
            try clear c6b0
            try clear p6
            try clear c7
            try clear c7b0
            try clear c7b1
            try clear c7b2
            try clear c8
            try clear c8b0
            try clear c10
            try clear c11
            try clear c11b0
            try clear c11b1
            try clear c11b2
            try clear c14
            try clear c14b0
            try clear c14b1
            try clear c14b2
            try clear c17
            try clear c17b0
            try clear c17b1
            try clear c19
            try clear c19b0
            try clear c19b1
            try clear c19b2
            try clear hcz12_0
            try clear hcz12_1
            try clear hcz12_2
            try clear hcz12_3
            try clear hcz15_0
            try clear hcz15_1
            try clear hcz15_2
            try clear hcz15_3
            try clear hcz18_0
            try clear hcz18_1
            try clear hcz18_2
            try clear hcz18_3
            try clear hcz20_0
            try clear hcz20_1
            try clear hcz20_2
            try clear hcz20_3
            try clear hcz5_0
            try clear hcz5_1
            try clear hcz5_2
            try clear hcz5_3
            try clear hfz12_0
            try clear hfz12_1
            try clear hfz12_2
            try clear hfz12_3
            try clear hfz15_0
            try clear hfz15_1
            try clear hfz15_2
            try clear hfz15_3
            try clear hfz18_0
            try clear hfz18_1
            try clear hfz18_2
            try clear hfz18_3
            try clear hfz20_0
            try clear hfz20_1
            try clear hfz20_2
            try clear hfz20_3
            try clear hfz5_0
            try clear hfz5_1
            try clear hfz5_2
            try clear hfz5_3
            try clear p2
            obtain ⟨x3_4,x6_4,rfl,rfl,HA,HK4,BK180,HB⟩:=hrel
            cases gk with
            | zero => exact absurd HA.out (by simp [spec_fiText.l2])
            | succ k4 =>
             have H:=HA.out
             clear HA
             simp only [spec_fiText.l2] at H
             by_cases c21:x6_4 ≤ a0_0
             ·rw [if_pos c21] at H
              have c21b0:decide (x6_4 ≤ a0_0) = true:=decide_eq_true c21
              clear c21
              replace H:=bi_ H
              obtain ⟨t182,A220,H⟩:=H
              replace H:(if t182 = true then (if x3_4.size + 1 ≤ 9223372036854775807 then (spec_fiText.l2 k4 (x3_4 ++ (⟨#[124]⟩:ByteArray)) x4_1 (wrap64 (x6_4 + 1)) a0_0 a0_1 l0_2 l0_3) else (none)) else (if x3_4.size + 1 ≤ 9223372036854775807 then (spec_fiText.l2 k4 (x3_4 ++ (⟨#[46]⟩:ByteArray)) x4_1 (wrap64 (x6_4 + 1)) a0_0 a0_1 l0_2 l0_3) else (none))) = some r:=H
              have A22:=am_ A220
              clear A220
              by_cases c23:t182 = true
              ·subst c23
               have H1:(if x3_4.size + 1 ≤ 9223372036854775807 then (spec_fiText.l2 k4 (x3_4 ++ (⟨#[124]⟩:ByteArray)) x4_1 (wrap64 (x6_4 + 1)) a0_0 a0_1 l0_2 l0_3) else (none)) = some r:=by rw [if_pos rfl] at H; exact H
               clear H
               have H:=H1
               clear H1
               by_cases c24:x3_4.size + 1 ≤ 9223372036854775807
               ·rw [if_pos c24] at H
                have c24b0:=eq_true c24
                have c24b1:decide (x3_4.size + 1 ≤ 9223372036854775807) = true:=decide_eq_true c24
                try have c24b2:(9223372036854775807 < x3_4.size + 1) = False:=eq_false (Nat.not_lt.2 c24)
                have H':=am_ H
                clear H
                have hcz25_0:wr.cell? ⟨gb180,0,none⟩ = some (.int .i64 a0_0):=(bc_ BK180.out 0).trans rfl
                have hcz25_1:wr.cell? ⟨gb180,1,none⟩ = some (.int .i64 a0_1):=(bc_ BK180.out 1).trans rfl
                have hcz25_2:wr.cell? ⟨gb180,2,none⟩ = some (.slice A0_2 l0_2.length c0_2):=(bc_ BK180.out 2).trans rfl
                have hcz25_3:wr.cell? ⟨gb180,3,none⟩ = some (.slice A0_3 l0_3.length c0_3):=(bc_ BK180.out 3).trans rfl
                have hfz25_0:=bz_ BK180.out 0
                have hfz25_1:=bz_ BK180.out 1
                have hfz25_2:=bz_ BK180.out 2
                have hfz25_3:=bz_ BK180.out 3
                go_wp2_with (first | ((with_reducible refine gate_callee (f:=52) rfl ?_); refine goesL_ (some 46) rfl rfl Tryz.func52 (by kernel_rfl) rfl #[.agg #[.int .i64 a0_0,.int .i64 a0_1,.slice A0_2 l0_2.length c0_2,.slice A0_3 l0_3.length c0_3],.bool true,.int .i64 x6_4,.int .i64 x4_1] rfl ob_ ?_; (with_reducible refine (spec_fiHas.calls k4 a0_0 a0_1 _ _ l0_2 _ _ l0_3 true x6_4 x4_1 true _ ?side1 ?side2 ?side3 ?side4 A22.out).mono ?_); (case side1 => exact kc_ (Kd.C_below HR0_2.out HB.out)); (case side2 => exact HC0_2.out); (case side3 => exact kc_ (Kd.C_below HR0_3.out HB.out)); (case side4 => exact HC0_3.out); rintro e w26 ⟨rfl,hb⟩; refine ⟨_,rfl,?_⟩; have n0_:=am_ (bb_ BK180.out hb); have n1_:=am_ (below_step (bl1_ HB.out GE180.out) hb); clear BK180; clear HB; have BK180:=n0_; have HB:=n1_; clear n0_ n1_; (try clear hb); (try clear hb2); (try clear hk); (try clear hi)))
                go_roundg k4
                case measure => have:=HK1.out; have:=HJ3.out; have:=HK3.out; have:=HK4.out; omega
                case rel => exact ⟨(x3_4 ++ (⟨#[124]⟩:ByteArray)),(wrap64 (x6_4 + 1)),rs_,rs_,H',⟨by have:=HK1.out; have:=HJ3.out; have:=HK3.out; have:=HK4.out; omega⟩,⟨bk_ BK180.out⟩,⟨bl1_ HB.out GE180.out⟩⟩
               ·rw [if_neg c24] at H
                exact absurd H (by simp)
              ·replace c23:=Bool.eq_false_iff.mpr c23
               subst c23
               have H1:(if x3_4.size + 1 ≤ 9223372036854775807 then (spec_fiText.l2 k4 (x3_4 ++ (⟨#[46]⟩:ByteArray)) x4_1 (wrap64 (x6_4 + 1)) a0_0 a0_1 l0_2 l0_3) else (none)) = some r:=by rw [if_neg (show ¬ (false = true) by decide)] at H; exact H
               clear H
               have H:=H1
               clear H1
               by_cases c27:x3_4.size + 1 ≤ 9223372036854775807
               ·rw [if_pos c27] at H
                have c27b0:=eq_true c27
                have c27b1:decide (x3_4.size + 1 ≤ 9223372036854775807) = true:=decide_eq_true c27
                try have c27b2:(9223372036854775807 < x3_4.size + 1) = False:=eq_false (Nat.not_lt.2 c27)
                have H':=am_ H
                clear H
                have hcz28_0:wr.cell? ⟨gb180,0,none⟩ = some (.int .i64 a0_0):=(bc_ BK180.out 0).trans rfl
                have hcz28_1:wr.cell? ⟨gb180,1,none⟩ = some (.int .i64 a0_1):=(bc_ BK180.out 1).trans rfl
                have hcz28_2:wr.cell? ⟨gb180,2,none⟩ = some (.slice A0_2 l0_2.length c0_2):=(bc_ BK180.out 2).trans rfl
                have hcz28_3:wr.cell? ⟨gb180,3,none⟩ = some (.slice A0_3 l0_3.length c0_3):=(bc_ BK180.out 3).trans rfl
                have hfz28_0:=bz_ BK180.out 0
                have hfz28_1:=bz_ BK180.out 1
                have hfz28_2:=bz_ BK180.out 2
                have hfz28_3:=bz_ BK180.out 3
                go_wp2_with (first | ((with_reducible refine gate_callee (f:=52) rfl ?_); refine goesL_ (some 46) rfl rfl Tryz.func52 (by kernel_rfl) rfl #[.agg #[.int .i64 a0_0,.int .i64 a0_1,.slice A0_2 l0_2.length c0_2,.slice A0_3 l0_3.length c0_3],.bool true,.int .i64 x6_4,.int .i64 x4_1] rfl ob_ ?_; (with_reducible refine (spec_fiHas.calls k4 a0_0 a0_1 _ _ l0_2 _ _ l0_3 true x6_4 x4_1 false _ ?side1 ?side2 ?side3 ?side4 A22.out).mono ?_); (case side1 => exact kc_ (Kd.C_below HR0_2.out HB.out)); (case side2 => exact HC0_2.out); (case side3 => exact kc_ (Kd.C_below HR0_3.out HB.out)); (case side4 => exact HC0_3.out); rintro e w29 ⟨rfl,hb⟩; refine ⟨_,rfl,?_⟩; have n0_:=am_ (bb_ BK180.out hb); have n1_:=am_ (below_step (bl1_ HB.out GE180.out) hb); clear BK180; clear HB; have BK180:=n0_; have HB:=n1_; clear n0_ n1_; (try clear hb); (try clear hb2); (try clear hk); (try clear hi)))
                go_roundg k4
                case measure => have:=HK1.out; have:=HJ3.out; have:=HK3.out; have:=HK4.out; omega
                case rel => exact ⟨(x3_4 ++ (⟨#[46]⟩:ByteArray)),(wrap64 (x6_4 + 1)),rs_,rs_,H',⟨by have:=HK1.out; have:=HJ3.out; have:=HK3.out; have:=HK4.out; omega⟩,⟨bk_ BK180.out⟩,⟨bl1_ HB.out GE180.out⟩⟩
               ·rw [if_neg c27] at H
                exact absurd H (by simp)
             ·rw [if_neg c21] at H
              have c21b0:decide (x6_4 ≤ a0_0) = false:=decide_eq_false c21
              clear c21
              have H':=am_ H
              clear H
              have hcz30_0:wr.cell? ⟨gb180,0,none⟩ = some (.int .i64 a0_0):=(bc_ BK180.out 0).trans rfl
              have hcz30_1:wr.cell? ⟨gb180,1,none⟩ = some (.int .i64 a0_1):=(bc_ BK180.out 1).trans rfl
              have hcz30_2:wr.cell? ⟨gb180,2,none⟩ = some (.slice A0_2 l0_2.length c0_2):=(bc_ BK180.out 2).trans rfl
              have hcz30_3:wr.cell? ⟨gb180,3,none⟩ = some (.slice A0_3 l0_3.length c0_3):=(bc_ BK180.out 3).trans rfl
              have hfz30_0:=bz_ BK180.out 0
              have hfz30_1:=bz_ BK180.out 1
              have hfz30_2:=bz_ BK180.out 2
              have hfz30_3:=bz_ BK180.out 3
              go_wp2
              go_roundg k4
              case measure => have:=HK1.out; have:=HJ3.out; have:=HK3.out; have:=HK4.out; omega
              case rel => exact ⟨(x3_4),(wrap64 (x4_1 + 1)),rs_,rs_,H',⟨by have:=HK1.out; have:=HJ3.out; have:=HK3.out; have:=HK4.out; omega⟩,⟨bk_ BK180.out⟩,⟨bl1_ HB.out GE180.out⟩⟩
          ·rw [if_neg c19] at H
           exact absurd H (by simp)
   ·rw [if_neg c3] at H
    have c3b0:decide (x4_1 ≤ a0_1) = false:=decide_eq_false c3
    clear c3
    obtain rfl:=Option.some.inj H
    have hcz31_0:wr.cell? ⟨gb180,0,none⟩ = some (.int .i64 a0_0):=(bc_ BK180.out 0).trans rfl
    have hcz31_1:wr.cell? ⟨gb180,1,none⟩ = some (.int .i64 a0_1):=(bc_ BK180.out 1).trans rfl
    have hcz31_2:wr.cell? ⟨gb180,2,none⟩ = some (.slice A0_2 l0_2.length c0_2):=(bc_ BK180.out 2).trans rfl
    have hcz31_3:wr.cell? ⟨gb180,3,none⟩ = some (.slice A0_3 l0_3.length c0_3):=(bc_ BK180.out 3).trans rfl
    have hfz31_0:=bz_ BK180.out 0
    have hfz31_1:=bz_ BK180.out 1
    have hfz31_2:=bz_ BK180.out 2
    have hfz31_3:=bz_ BK180.out 3
    go_wp2
    go_ret
    exact ⟨er_,bl1_ HB.out GE180.out⟩

end Go.Proofs.YtehjfaddhmdicaaGreatDoor.P
namespace Go.Proofs.YtehjfaddhmdicaaGreatDoor.P
open Go.RowKit Go.Proofs.YtehjfaddhmdicaaGreatDoorW.PrintWords Go.Proofs.YtehjfaddhmdicaaGreatDoorW.PrintLast Go.Proofs.YtehjfaddhmdicaaGreatDoorW.PrintMore
attribute [local go_sem] max2_int min2_int max_two min_two max_three min_three max_four min_four   -- for this text's walks alone
set_option linter.unusedVariables false
set_option linter.unusedSimpArgs false

theorem run_copyK {P:Program} (w:World) (dT sT ty elem:TypeId) (g o dLen dCap:Nat) (a:Addr) (sLen sCap:Nat) (cur:Array Value) (t:TypeId) (cs:List Value) (sz:Nat)
  (hu:P.underlying dT = some (.slice elem)) (hs:(P.info? elem).map (·.size) = some sz)
  (hg:w.heap[g]? = some (.cells cur t (0,0))) (hn:cs.length = Nat.min sLen dLen * sz)
  (hsrc:∀ j v,cs[j]? = some v → w.cell? (a.add j) = some v) (hfit:o + cs.length ≤ cur.size) (h1:∀ v ∈ cs,v.oneCell' = true) :
  (Builtin.copy_ #[dT,sT] ty #[.slice (some ⟨g,o,none⟩) dLen dCap,.slice (some a) sLen sCap]).run P w =
   .ok (goInt (Nat.min sLen dLen)) (w.setRow g (cur.toList.take o ++ cs ++ cur.toList.drop (o + cs.length)).toArray):=by
 have hl:=run_loadCells_list (P:=P) w a cs hsrc
 have hst:=run_storeCells_at P g o t cs 0 cur w hg (by simpa using hfit) h1
 cases hq:P.info? elem with
 | none => simp [hq] at hs
 | some i =>
  have hi:i.size = sz:=by simpa [hq] using hs
  simp [Builtin.copy_,run_underlying hu,Builtin.lenOf,Builtin.firstCells,sizeOf,typeInfo,hq,hi,← hn,hl,hst]
theorem run_copyK_none {P:Program} (w:World) (dT sT ty elem:TypeId) (d a:Option Addr) (dLen dCap sLen sCap sz:Nat)
  (hu:P.underlying dT = some (.slice elem)) (hs:(P.info? elem).map (·.size) = some sz) (hn:Nat.min sLen dLen = 0) :
  (Builtin.copy_ #[dT,sT] ty #[.slice d dLen dCap,.slice a sLen sCap]).run P w = .ok (goInt (Nat.min sLen dLen)) w:=by
 cases hq:P.info? elem with
 | none => simp [hq] at hs
 | some i =>
  have hi:i.size = sz:=by simpa [hq] using hs
  cases d <;> cases a <;> simp [Builtin.copy_,run_underlying hu,Builtin.lenOf,Builtin.firstCells,sizeOf,typeInfo,hq,hi,hn,loadCells,loadCellsFrom,storeCells]
theorem pc_lo (l:List Value) (a b s:Nat) (x:List Value) (h:a + s ≤ b):((l.take b ++ x).drop a).take s = (l.drop a).take s ∨ l.length < b:=by
 rcases Nat.lt_or_ge l.length b with h1 | h1
 ·exact .inr h1
 ·left
  rw [List.drop_append_of_le_length (by rw [List.length_take]; omega),List.take_append_of_le_length (by rw [List.length_drop,List.length_take]; omega),List.drop_take,List.take_take]
  congr 1; omega
theorem pc_hi (l:List Value) (b i a s B:Nat) (hb:b ≤ l.length) (h:i + s ≤ B):((l.take b ++ (l.drop a).take B).drop (b + i)).take s = (l.drop (a + i)).take s:=by
 rw [List.drop_append,List.drop_eq_nil_of_le (by rw [List.length_take]; omega),List.nil_append,List.length_take,show b + i - min b l.length = i by omega,List.drop_take,List.take_take,List.drop_drop]
 congr 1; omega
set_option maxHeartbeats 2000000 in
theorem S_up {α:Type} {d:Kd α} {e:Nat} {w:World} {base:Nat} {ok:Nat → Prop} {xs:List α} {P:Program} (t ty:TypeId) (hu:P.underlying t = some (.slice e)) (hs:(P.info? e).map (·.size) = some d.sz) {n cap low g:Nat} {z:α} (hS:d.S e w base ok (.slice (some ⟨g,0,none⟩) (n + 1) cap) (xs ++ [z])) (hn:xs.length = n) (hlow:low ≤ n) (x0:α) {w0:World} (HB:Below base w0 w) :
  ∃ (w1:World) (m:Nat) (c:List Value),(Builtin.copy_ #[t,t] ty #[sliced (some ⟨g,0,none⟩) (low + 1) (n + 1) cap d.sz,sliced (some ⟨g,0,none⟩) low (n + 1) cap d.sz]).run P w = .ok (goInt m) w1 ∧ c.length = d.sz ∧
   d.H e w1 base ok (.slice (some ⟨g,0,none⟩) (n + 1) cap) (xs.take low ++ x0 :: xs.drop low) (low:Int) (fun _ => False) c ∧ Below base w0 w1 ∧ w.grownBy w1 (some g):=by
 obtain ⟨f,h0,inner,ho,hr⟩:=hS
 obtain ⟨hil,⟨-,hb0⟩ | ⟨g',cap',cur,hv,hg,hh,hcap,hmx,hcs,htk⟩⟩:=ho
 ·simp at hb0
 have hlen:((xs ++ [z]).zipIdx).length = n + 1:=by simp [hn]
 rw [hlen] at hil hcap hv htk
 injection hv with hA _ hc
 subst hc
 injection hA with hA
 injection hA with hA _ _
 subst hA
 have hsz:(Kd.tag f d).sz = d.sz:=rfl
 rw [hsz] at hil hcs htk
 generalize hsd:d.sz = s at *
 have hmul:∀ i j:Nat,i + 1 ≤ j → i * s + s ≤ j * s:=fun i j h => by rw [← Nat.succ_mul]; exact Nat.mul_le_mul_right s h
 have e1:(low + 1) * s = low * s + s:=Nat.succ_mul _ _
 have e2:(n + 1) * s = n * s + s:=Nat.succ_mul _ _
 have e3:low * s + (n - low) * s = n * s:=by rw [← Nat.add_mul]; congr 1; omega
 have hcl:(n + 1) * s ≤ cap * s:=Nat.mul_le_mul_right s hcap
 have hcsl:((inner.drop (low * s)).take ((n - low) * s)).length = (n - low) * s:=by rw [List.length_take,List.length_drop]; omega
 have hcurl:cur.toList.length = cap * s:=by rw [Array.length_toList]; exact hcs
 have hgs:g < w.heap.size:=(Array.getElem?_eq_some_iff.1 hh).1
 have hio:∀ u ∈ inner,u.oneCell' = true:=by
  intro u hu2
  obtain ⟨j,hj,rfl⟩:=List.getElem_of_mem hu2
  have hjs:0 < s:=by
   rcases Nat.eq_zero_or_pos s with h | h
   ·rw [h,Nat.mul_zero] at hil; omega
   ·exact h
  have hq:j / s < n + 1:=by rw [Nat.div_lt_iff_lt_mul hjs,← hil]; exact hj
  have hM:=hr.2 (j / s) _ (Kd.zip_at (List.getElem?_eq_getElem (show j / s < (xs ++ [z]).length by simp [hn]; exact hq)))
  rw [hsz] at hM
  refine d.K_one (d.K_of_M hM) _ ?_
  have h3:j / s * s + j % s = j:=by rw [Nat.mul_comm]; exact Nat.div_add_mod j s
  have h4:j % s < s:=Nat.mod_lt _ hjs
  refine List.mem_of_getElem? (i:=j % s) ?_
  rw [List.getElem?_take,if_pos h4,List.getElem?_drop,h3,List.getElem?_eq_getElem hj]
 -- the row's cells behind it
 obtain ⟨cur',hcur'⟩:∃ c',c' = (cur.toList.take ((low + 1) * s) ++ (inner.drop (low * s)).take ((n - low) * s) ++ cur.toList.drop ((low + 1) * s + (n - low) * s)):=⟨_,rfl⟩
 have hl':cur'.length = cap * s:=by rw [hcur']; simp only [List.length_append,List.length_take,List.length_drop,hcurl]; omega
 have ht':cur'.take ((n + 1) * s) = inner.take ((low + 1) * s) ++ (inner.drop (low * s)).take ((n - low) * s):=by
  rw [hcur',List.take_append_of_le_length (by simp only [List.length_append,List.length_take,List.length_drop,hcurl]; omega),List.take_of_length_le (by simp only [List.length_append,List.length_take,List.length_drop,hcurl]; omega),← htk,List.take_take]
  congr 2; omega
 obtain ⟨w1,hw1,hh1,hoth⟩:∃ w1,(Builtin.copy_ #[t,t] ty #[sliced (some ⟨g,0,none⟩) (low + 1) (n + 1) cap s,sliced (some ⟨g,0,none⟩) low (n + 1) cap s]).run P w = .ok (goInt (Nat.min (n + 1 - low) (n + 1 - (low + 1)))) w1 ∧ w1.heap[g]? = some (.cells cur'.toArray e (0,0)) ∧ (Below base w0 w1 ∧ w.grownBy w1 (some g) ∧ ∀ k,k ≠ g → w1.heap[k]? = w.heap[k]?):=by
  rcases Nat.lt_or_ge low n with hlt | hge
  ·refine ⟨w.setRow g cur'.toArray,?_,setRow_heap w g _ _ e _ hh,below_setRow HB hg _,?_,fun k hk => setRow_other w g k _ hk⟩
   ·unfold sliced
    rw [if_neg (by omega),if_neg (by omega)]
    have:=run_copyK (P:=P) w t t ty e g ((low + 1) * s) (n + 1 - (low + 1)) (cap - (low + 1)) ⟨g,low * s,none⟩ (n + 1 - low) (cap - low) cur e ((inner.drop (low * s)).take ((n - low) * s)) s hu hs hh (by rw [hcsl]; congr 1; simp only [Nat.min_def]; split <;> omega)
     (fun j u hj => by
      rw [List.getElem?_take] at hj
      split at hj
      ·rw [List.getElem?_drop] at hj
       rw [add_at,bc_ hh,← hj,← htk,List.getElem?_take,if_pos (by omega),Array.getElem?_toList]
      ·cases hj) (by rw [hcsl,hcs]; omega) (fun u hu2 => hio u (List.mem_of_mem_drop (List.mem_of_mem_take hu2)))
    rw [hcsl,← hcur'] at this
    have ea:∀ m,(some (⟨g,0,none⟩:Addr)).map (·.add m) = some ⟨g,m,none⟩:=fun m => by rw [Option.map_some,add_at,Nat.zero_add]
    rw [ea,ea]
    exact this
   ·exact ⟨rfl,rfl,rfl,by simp [World.setRow],fun k _ hk => setRow_other w g k _ (fun he => hk (by rw [he]))⟩
  ·refine ⟨w,?_,?_,HB,?_,fun _ _ => rfl⟩
   ·unfold sliced
    exact run_copyK_none w t t ty e _ _ _ _ _ _ s hu hs (by simp only [Nat.min_def]; split <;> omega)
   ·rw [hh]
    congr 2
    simp [hcur',show n - low = 0 by omega]
   ·exact ⟨rfl,rfl,rfl,Nat.le_refl _,fun _ _ _ => rfl⟩
 obtain ⟨hB1,hgr,hoth⟩:=hoth
 have hgo:some g = (Value.slice (some ⟨g,0,none⟩) (n + 1) cap).ownBlock:=by simp [Value.ownBlock]
 have hlow2:low < (xs ++ [z]).length:=by simp [hn]; omega
 have hMl:=hr.2 low _ (Kd.zip_at (List.getElem?_eq_getElem hlow2))
 rw [hsz] at hMl
 have hpl:(((inner.take ((low + 1) * s) ++ (inner.drop (low * s)).take ((n - low) * s)).drop (low * s)).take s) = (inner.drop (low * s)).take s:=(pc_lo _ _ _ _ _ (by omega)).resolve_right (by omega)
 have hyl:(xs.take low ++ x0 :: xs.drop low).length = n + 1:=by simp [hn]; omega
 refine ⟨w1,_,(inner.drop (low * s)).take s,hw1,?_,⟨fun k hk => hk.elim,fun k => if low ≤ f k then f k + 1 else f k,fun k hk => ⟨h0 k hk,id⟩,inner.take ((low + 1) * s) ++ (inner.drop (low * s)).take ((n - low) * s),?_,?_,?_⟩,hB1,hgr⟩
 ·rw [List.length_take,List.length_drop]; omega
 ·rw [List.length_zipIdx,hyl]
  have hil':(inner.take ((low + 1) * s) ++ (inner.drop (low * s)).take ((n - low) * s)).length = (n + 1) * s:=by
   rw [List.length_append,hcsl,List.length_take]; omega
  exact ⟨by rw [hil',← hsd]; rfl,.inr ⟨g,cap,cur'.toArray,rfl,hg,hh1,hcap,hmx,by show cur'.toArray.size = cap * d.sz; rw [hsd]; simpa using hl',by show cur'.toArray.toList.take ((n + 1) * d.sz) = _; rw [hsd]; simpa using ht'⟩⟩
 ·rw [List.length_zipIdx,hyl,List.length_append,hcsl,List.length_take]
  show _ = (n + 1) * d.sz
  rw [hsd]; omega
 ·intro m p hm
  rw [List.getElem?_zipIdx,Nat.zero_add] at hm
  obtain ⟨y,hy,rfl⟩:=Option.map_eq_some_iff.1 hm
  have hml:m < n + 1:=by rw [← hyl]; exact (List.getElem?_eq_some_iff.1 hy).1
  show (m = low → _ ∧ _ ∧ _) ∧ (m ≠ low → d.M w1 base _ y (((inner.take ((low + 1) * s) ++ (inner.drop (low * s)).take ((n - low) * s)).drop (m * d.sz)).take d.sz))
  have hxl:(xs.take low).length = low:=by rw [List.length_take]; omega
  refine ⟨fun hx => ?_,fun hx => ?_⟩
  ·subst hx
   show ((inner.take ((m + 1) * s) ++ (inner.drop (m * s)).take ((n - m) * s)).drop (m * d.sz)).take d.sz = _ ∧ (((inner.take ((m + 1) * s) ++ (inner.drop (m * s)).take ((n - m) * s)).drop (m * d.sz)).take d.sz).length = d.sz ∧ ∀ u ∈ ((inner.take ((m + 1) * s) ++ (inner.drop (m * s)).take ((n - m) * s)).drop (m * d.sz)).take d.sz,u.oneCell' = true
   rw [hsd,hpl]
   have hk:=d.K_of_M hMl
   exact ⟨rfl,by have:=d.K_len hk; rw [this,hsd],d.K_one hk⟩
  ·rcases Nat.lt_or_ge m low with hlt | hge
   ·rw [List.getElem?_append_left (by rw [hxl]; exact hlt),List.getElem?_take,if_pos hlt] at hy
    have h2:=hr.2 m (y,m) (Kd.zip_at (by rw [List.getElem?_append_left (by omega)]; exact hy))
    rw [hsz] at h2
    rw [hsd,(pc_lo inner (m * s) ((low + 1) * s) s _ (by have:=hmul m (low + 1) (by omega); omega)).resolve_right (by omega)]
    refine d.M_mono (fun k hk => ⟨⟨⟨hk.1.1,id⟩,hk.1.2⟩,?_⟩) (d.M_move (w1:=w1) (fun k hk => hoth k (fun he => hk.1.2 (by rw [he]; exact hgo))) h2)
    have h3:f k = m:=hk.2
    show (if low ≤ f k then f k + 1 else f k) = m
    rw [if_neg (by omega)]; exact h3
   ·obtain ⟨i,rfl⟩:∃ i,m = low + 1 + i:=⟨m - (low + 1),by omega⟩
    rw [List.getElem?_append_right (by rw [hxl]; omega),hxl,show low + 1 + i - low = i + 1 by omega,List.getElem?_cons_succ,List.getElem?_drop] at hy
    have h2:=hr.2 (low + i) (y,low + i) (Kd.zip_at (by rw [List.getElem?_append_left (by omega)]; exact hy))
    rw [hsz] at h2
    rw [hsd,show (low + 1 + i) * s = (low + 1) * s + i * s from Nat.add_mul _ _ _,pc_hi inner ((low + 1) * s) (i * s) (low * s) s _ (by omega) (by have:=hmul i (n - low) (by omega); omega),← Nat.add_mul]
    refine d.M_mono (fun k hk => ⟨⟨⟨hk.1.1,id⟩,hk.1.2⟩,?_⟩) (d.M_move (w1:=w1) (fun k hk => hoth k (fun he => hk.1.2 (by rw [he]; exact hgo))) h2)
    have h3:f k = low + i:=hk.2
    show (if low ≤ f k then f k + 1 else f k) = low + 1 + i
    rw [if_pos (by omega)]; omega
def SortTx (T:Nat → ByteArray) (ps:List Nat):Prop:=ps.Pairwise fun a b => ¬ Lib.compareBytes (T b).data.toList (T a).data.toList < 0
open Lib in
theorem cbx_self (a:List UInt8):¬ compareBytes a a < 0:=by
 have:=cb_neg a a
 omega
open Lib in
theorem cbx_le_lt {a b c:List UInt8} (h1:¬ compareBytes b a < 0) (h2:compareBytes b c < 0):compareBytes a c < 0:=by
 have h3:=cb_neg b a
 have h4:compareBytes a b ≤ 0:=by omega
 rcases Int.lt_or_eq_of_le (cb_trans _ _ _ h4 (Int.le_of_lt h2)) with h | h
 ·exact h
 ·rw [cb_zero _ _ h] at h1
  exact absurd h2 h1
theorem sortTx_at {T:Nat → ByteArray} {ps:List Nat} (h:SortTx T ps) {a b:Nat} (hab:a ≤ b) (hb:b < ps.length):¬ Lib.compareBytes (T (ps.getD b 0)).data.toList (T (ps.getD a 0)).data.toList < 0:=by
 rcases Nat.lt_or_eq_of_le hab with h1 | rfl
 ·have h2:=List.pairwise_iff_getElem.1 h a b (by omega) hb h1
  rw [List.getD_eq_getElem?_getD,List.getD_eq_getElem?_getD,List.getElem?_eq_getElem hb,List.getElem?_eq_getElem (by omega)]
  exact h2
 ·exact cbx_self _
theorem sortTx_ins {T:Nat → ByteArray} {ps:List Nat} (h:SortTx T ps) {m lo:Nat} (hlo:lo ≤ ps.length) (h1:∀ j,j < lo → Lib.compareBytes (T (ps.getD j 0)).data.toList (T m).data.toList < 0) (h2:∀ j,lo ≤ j → j < ps.length → ¬ Lib.compareBytes (T (ps.getD j 0)).data.toList (T m).data.toList < 0):SortTx T (ps.take lo ++ m :: ps.drop lo):=by
 have hg:∀ j (hj:j < ps.length),ps.getD j 0 = ps[j]:=fun j hj => by rw [List.getD_eq_getElem?_getD,List.getElem?_eq_getElem hj]; rfl
 unfold SortTx
 rw [List.pairwise_append,List.pairwise_cons]
 have hs:=h
 unfold SortTx at hs
 rw [← List.take_append_drop lo ps,List.pairwise_append] at hs
 refine ⟨hs.1,⟨fun b hb => ?_,hs.2.1⟩,fun a ha b hb => ?_⟩
 ·obtain ⟨j,hj,rfl⟩:=List.getElem_of_mem hb
  rw [List.length_drop] at hj
  have:=h2 (lo + j) (by omega) (by omega)
  rw [hg _ (by omega)] at this
  rw [List.getElem_drop]; exact this
 ·rcases List.mem_cons.1 hb with rfl | hb
  ·obtain ⟨j,hj,rfl⟩:=List.getElem_of_mem ha
   rw [List.length_take] at hj
   have h3:=h1 j (by omega)
   rw [hg _ (by omega)] at h3
   rw [List.getElem_take]
   intro h4
   have h5:=cb_neg (T ps[j]).data.toList (T b).data.toList
   omega
  ·exact hs.2.2 a ha b hb
theorem sliced_at (g l h m s:Nat):sliced (some ⟨g,0,none⟩) l h m s = .slice (if m = l then some ⟨g,0,none⟩ else some ⟨g,l * s,none⟩) (h - l) (m - l):=by
 unfold sliced
 split
 ·rfl
 ·rw [Option.map_some,add_at,Nat.zero_add]
theorem drop_all {cs:List Value} {s:Nat} (h:cs.length = s) (seg:List Value) (hs:seg.length = s):cs.take 0 ++ seg ++ cs.drop (0 + seg.length) = seg:=by
 rw [List.take_zero,List.nil_append,List.drop_eq_nil_of_le (by omega),List.append_nil]
theorem set_mid {α:Type} (xs:List α) (lo:Nat) (h:lo ≤ xs.length) (x y:α):(xs.take lo ++ x :: xs.drop lo).set lo y = xs.take lo ++ y :: xs.drop lo:=by
 rw [List.set_append_right _ _ (by rw [List.length_take]; omega),List.length_take,show lo - min lo xs.length = 0 by omega]
 rfl
theorem H_typed {α:Type} {d:Kd α} {e:Nat} {w:World} {base:Nat} {ok oki:Nat → Prop} {v:Value} {xs:List α} {i:Int} {c:List Value} (h:d.H e w base ok v xs i oki c):∀ k,v.ownBlock = some k → ∃ cells,w.heap[k]? = some (.cells cells e (0,0)):=by
 obtain ⟨_,f,hR⟩:=h
 exact Kd.R_typed hR
theorem own_ne {w:World} {e g t:Nat} {v:Value} {cells:Array Value} (h:∀ k,v.ownBlock = some k → ∃ cells,w.heap[k]? = some (.cells cells e (0,0))) (hb:w.heap[g]? = some (.cells cells t (0,0))) (ht:e ≠ t):some g ≠ v.ownBlock:=fun he => by
 obtain ⟨cs,hc⟩:=h g he.symm
 rw [hc] at hb
 injection hb with hb
 injection hb with _ hb
 exact ht hb
theorem map_mid {α β:Type} (f:α → β) (xs:List α) (lo:Nat) (m:α):(xs.take lo ++ m :: xs.drop lo).map f = (xs.map f).take lo ++ f m :: (xs.map f).drop lo:=by
 rw [List.map_append,List.map_cons,List.map_take,List.map_drop]
theorem perm_mid {xs ys:List Nat} (h:xs.Perm ys) (lo m:Nat):(xs.take lo ++ m :: xs.drop lo).Perm (ys ++ [m]):=by
 refine (List.perm_middle).trans ?_
 rw [List.take_append_drop]
 exact (h.cons m).trans (List.perm_append_singleton m ys).symm

end Go.Proofs.YtehjfaddhmdicaaGreatDoor.P
namespace Go.Proofs.YtehjfaddhmdicaaGreatDoor.P
open Go.RowKit Go.Proofs.YtehjfaddhmdicaaGreatDoorW.PrintWords Go.Proofs.YtehjfaddhmdicaaGreatDoorW.PrintLast Go.Proofs.YtehjfaddhmdicaaGreatDoorW.PrintMore
attribute [local go_sem] max2_int min2_int max_two min_two max_three min_three max_four min_four   -- for this text's walks alone
set_option linter.unusedVariables false
set_option linter.unusedSimpArgs false

def mos_T15:Bool × List (List Nat × List Nat):=(true,[([],[]),([],[]),([1],[1]),([0,2],[0,2]),([],[]),([],[]),([4,5],[4,5]),([3,6],[3,6])])
def mos_B15:List Nat:=[0,0,2,7,0,0,48,127]
theorem mos_tab15:rtab .any (opsOf Tryz.f44 15) = mos_T15:=by kernel_rfl
theorem mos_bits15:waitsOk mos_T15.2 mos_B15 = true:=by kernel_rfl
def mos_T18:Bool × List (List Nat × List Nat):=(true,[([],[]),([],[]),([1],[1]),([0,2],[0,2]),([],[]),([],[]),([4,5],[4,5]),([3,6],[3,6])])
def mos_B18:List Nat:=[0,0,2,7,0,0,48,127]
theorem mos_tab18:rtab .any (opsOf Tryz.f44 18) = mos_T18:=by kernel_rfl
theorem mos_bits18:waitsOk mos_T18.2 mos_B18 = true:=by kernel_rfl
set_option maxRecDepth 100000 in
set_option maxHeartbeats 16000000 in
theorem moSorted_any (k:Nat) (gw gh:Int) (ms:List Nat) (F:Nat → S26) (T:Nat → ByteArray) (hF:∀ m ∈ ms,spec_sqFigure.f k gw gh (m:Int) = some ((F m).f0,(F m).f1,(F m).f2,(F m).f3)) (hT:∀ m ∈ ms,spec_fiText.f k (F m).f0 (F m).f1 (F m).f2 (F m).f3 = some (T m))
    (A:Option Addr) (c:Nat) (w:World) (hr:Kd.C (Kd.int .i64) w A ms.length (ms.map fun n:Nat => (n:Int))) (hlen:ms.length ≤ 1000000) :
    Calls Tryz.prog 44 #[.int .i64 gw,.int .i64 gh,.slice A ms.length c] w fun e w' => ∃ v:Value,e = .returned v ∧ ∃ ps:List Nat,ps.Perm ms ∧ (ps.Pairwise fun a b => ¬ Lib.compareBytes (T b).data.toList (T a).data.toList < 0) ∧ Kd.S kF 26 w' w.heap.size (fun _ => True) v (ps.map F) ∧ Below w.heap.size w w':=by
  have hi26:(Tryz.prog.info? 26).map (fun i => (i.zero,i.size,i.bytes)) = some (some (.agg #[.int .i64 0,.int .i64 0,.slice none 0 0,.slice none 0 0]),4,64):=by kernel_rfl
  have hi9:(Tryz.prog.info? 9).map (fun i => (i.zero,i.size,i.bytes)) = some (some (.string ⟨#[]⟩),1,16):=by kernel_rfl
  have HF:=am_ hF
  have HT:=am_ hT
  have HR:=am_ hr
  clear hF hT hr
  generalize hn:ms.length = n at hlen
  have HN:=am_ hn
  clear hn
  have HR2:Aside0 (Kd.C (Kd.int .i64) w A n (ms.map fun n:Nat => (n:Int))):=⟨by have h:=HR.out; rw [HN.out] at h; exact h⟩
  clear HR
  have hml:Aside0 ((ms.map fun n:Nat => (n:Int)).length = n):=⟨by rw [List.length_map]; exact HN.out⟩
  go_enter Tryz.func44,Tryz.ntmps44
  go_wp2_with fail
  go_loopg [7,8,18] (n + 1) (fun gg u7 u8 u18 wr => ∃ (i:Nat) (ps:List Nat),i ≤ n ∧ n + 1 - i ≤ gg ∧ u18 = .int .i64 i ∧ Aside0 (ps.Perm (ms.take i)) ∧ Aside0 (SortTx T ps) ∧ Aside0 (Kd.S kF 26 wr w.heap.size (fun _ => True) u7 (ps.map F)) ∧ Aside0 (Kd.S Kd.string 9 wr w.heap.size (fun _ => True) u8 (ps.map T)) ∧ Aside0 (Below w.heap.size w wr))
  case atStart => exact ⟨0,[],Nat.zero_le _,Nat.le_refl _,rfl,⟨List.Perm.refl _⟩,⟨List.Pairwise.nil⟩,⟨Kd.S_nil _ _ _ _ _⟩,⟨Kd.S_nil _ _ _ _ _⟩,⟨Below.refl _ _⟩⟩
  case round =>
    obtain ⟨i,ps,hin,hgg,rfl,HP,HSO,HSF,HST,HB⟩:=hrel
    by_cases hlt:i < n
    · have hlz:(i:Int) < (n:Int):=by omega
      have hi:i < ms.length:=by rw [HN.out]; exact hlt
      obtain ⟨ad,eA,hcell⟩:=Kd.at_int (Kd.C_below HR2.out HB.out) (i:Int) (by omega) hlz
      have hrd:rd (ms.map fun n:Nat => (n:Int)) (i:Int) = ((ms[i]:Nat):Int):=by
        unfold rd
        rw [Int.toNat_natCast,List.getD_eq_getElem?_getD,List.getElem?_map,List.getElem?_eq_getElem hi]; rfl
      rw [hrd,Int.toNat_natCast] at hcell
      have hmem:ms[i] ∈ ms:=List.getElem_mem hi
      have HFm:=am_ (HF.out _ hmem)
      have HTm:=am_ (HT.out _ hmem)
      have HTK:Aside0 (ms.take (i + 1) = ms.take i ++ [ms[i]]):=⟨List.take_succ_eq_append_getElem hi⟩
      have HPL:Aside0 (ps.length = i):=⟨by rw [HP.out.length_eq,List.length_take]; omega⟩
      clear hrd hmem
      generalize ms[i] = m at hcell HFm HTm HTK
      subst eA
      have e1:IntKind.i64.wrap ((i:Int) + 1) = (i:Int) + 1:=IntWalk.i64_in _ (by omega)
      obtain ⟨A8,c8,e8⟩:=Kd.S_slice HST.out
      rw [List.length_map,HPL.out] at e8
      subst e8
      go_wp2_with (first
        | (go_at_call 37; refine (spec_sqFigure.calls k gw gh (m:Int) _ _ _ _ _ HFm.out).mono ?_; rintro e w2 ⟨v2,v3,rfl,r2,r3,hb⟩; obtain ⟨A2,c2,rfl⟩:=Kd.R_slice r2; obtain ⟨A3,c3,rfl⟩:=Kd.R_slice r3; have R2:=am_ r2; have R3:=am_ r3; have HB2:=am_ hb; clear r2 r3 hb hcell))
      go_wp2_with (first
        | (go_at_call 38; refine (spec_fiText.calls k (F m).f0 (F m).f1 A2 c2 (F m).f2 A3 c3 (F m).f3 (T m) _ (Kd.C_below (Kd.R_reads' R2.out).2.2 (below_alloc (Below.refl _ _) _)) (Kd.R_reads' R2.out).2.1 (Kd.C_below (Kd.R_reads' R3.out).2.2 (below_alloc (Below.refl _ _) _)) (Kd.R_reads' R3.out).2.1 HTm.out).mono ?_; rintro e w3 ⟨rfl,hb⟩; have hb24:=below_step (below_alloc (Below.refl w2.heap.size w2) (.cells #[.int .i64 (F m).f0,.int .i64 (F m).f1,.slice A2 (F m).f2.length c2,.slice A3 (F m).f3.length c3] 26)) hb; have BKF:=am_ (blk_below (heap_alloc_new w2 (.cells #[.int .i64 (F m).f0,.int .i64 (F m).f1,.slice A2 (F m).f2.length c2,.slice A3 (F m).f3.length c3] 26)) hb); have HB13:=am_ (below_step HB2.out hb24); have P2:=am_ (Kd.R_below R2.out hb24); have P3:=am_ (Kd.R_below R3.out hb24); have HZ2:=am_ HB2.out.size; clear hb hb24 R2 R3 HB2))
      have HSF3:Aside0 (Kd.S kF 26 w3 w.heap.size (fun k => k < wr.heap.size) u7 (ps.map F)):=⟨Kd.S_below (Kd.S_mono (Kd.S_bound HSF.out) (fun k hk => hk.2.2.1)) HB13.out⟩
      have HST3:Aside0 (Kd.S Kd.string 9 w3 w.heap.size (fun _ => True) (.slice A8 i c8) (ps.map T)):=⟨Kd.S_below HST.out HB13.out⟩
      have HB3:Aside0 (Below w.heap.size w w3):=⟨below_step HB.out HB13.out⟩
      have PM:=am_ (figApp_M (x:=F m) P2.out P3.out HB.out.size)
      have PK:=am_ (figApp_ne (x:=F m) P2.out P3.out (Kd.S_lt HSF.out))
      have PO:=am_ (figApp_not (x:=F m) P2.out P3.out)
      have HMT:Aside0 (wr.heap.size ≤ w3.heap.size):=⟨HB13.out.size⟩
      have HU7:Aside0 (∀ k,u7.ownBlock = some k → k < wr.heap.size):=⟨Kd.S_lt HSF.out⟩
      have HWR:Aside0 (w.heap.size ≤ wr.heap.size):=⟨HB.out.size⟩
      clear HSF HST HB HB13 HFm HTm
      obtain ⟨t,ht⟩:∃ t,t = T m:=⟨_,rfl⟩
      rw [← ht]
      have HTT:=am_ ht
      clear ht
      have HI6:Aside0 (i ≤ 1000000):=⟨by omega⟩
      have hcN:Kd.string.C w3 A8 i (ps.map T):=by
        have h:=(Kd.S_reads' HST3.out).2.2
        rw [List.length_map,HPL.out] at h
        exact h
      have HTC:=am_ hcN
      clear hcN
      go_loopg [13,14] (i + 1) (fun gg u13 u14 wq => ∃ lo hi:Nat,lo ≤ hi ∧ hi ≤ i ∧ hi - lo + 1 ≤ gg ∧ u13 = .int .i64 lo ∧ u14 = .int .i64 hi ∧ w3 = wq ∧ Aside0 (∀ j,j < lo → Lib.compareBytes (T (ps.getD j 0)).data.toList t.data.toList < 0) ∧ Aside0 (∀ j,hi ≤ j → j < i → ¬ Lib.compareBytes (T (ps.getD j 0)).data.toList t.data.toList < 0))
      case atStart => exact ⟨0,i,Nat.zero_le _,Nat.le_refl _,by omega,rfl,rfl,rfl,⟨fun j hj => by omega⟩,⟨fun j h1 h2 => by omega⟩⟩
      case round =>
        obtain ⟨lo,hi2,hlh,hhi,hgq,rfl,rfl,rfl,HLO,HHI⟩:=hrel
        by_cases hll:lo < hi2
        · have hzz:(lo:Int) < (hi2:Int):=by omega
          obtain ⟨ad8,rfl,hc8⟩:=Kd.at_string HTC.out (((lo + hi2) / 2:Nat):Int) (by omega) (by omega)
          have hrd8:rdOf ByteArray.empty (ps.map T) (((lo + hi2) / 2:Nat):Int) = T (ps.getD ((lo + hi2) / 2) 0):=by
            unfold rdOf
            rw [Int.toNat_natCast,List.getD_eq_getElem?_getD,List.getElem?_map,List.getD_eq_getElem?_getD,List.getElem?_eq_getElem (by have:=HPL.out; omega)]; rfl
          rw [hrd8,Int.toNat_natCast] at hc8
          have e5:IntKind.i64.wrap ((lo:Int) + (hi2:Int)) = ((lo + hi2:Nat):Int):=by
            have:=HI6.out
            rw [IntWalk.i64_in _ (by omega)]; omega
          have e6:Int.tdiv ((lo + hi2:Nat):Int) 2 = (((lo + hi2) / 2:Nat):Int):=by
            rw [Int.tdiv_eq_ediv_of_nonneg (by omega)]; omega
          have e7:IntKind.i64.wrap ((((lo + hi2) / 2:Nat):Int) + 1) = (((lo + hi2) / 2 + 1:Nat):Int):=by
            have:=HI6.out
            rw [IntWalk.i64_in _ (by omega)]; omega
          have hm1:lo ≤ (lo + hi2) / 2:=by omega
          have hm2:(lo + hi2) / 2 < hi2:=by omega
          generalize (lo + hi2) / 2 = mid at *
          generalize ((lo + hi2:Nat):Int) = sm at e5 e6
          have hm0:(0:Int) ≤ (mid:Int):=Int.natCast_nonneg _
          have hm3:(mid:Int) < (i:Int):=by omega
          obtain ⟨s0,hs0⟩:∃ s0,s0 = T (ps.getD mid 0):=⟨_,rfl⟩
          rw [← hs0] at hc8
          have HS0:=am_ hs0
          clear hs0 hrd8
          by_cases hcmp:Lib.compareBytes s0.data.toList t.data.toList < 0
          · have HCM:=am_ hcmp
            have hbl:Op.bytesLess s0.toList t.toList = true:=by rw [Lib.toList_data,Lib.toList_data,bytesLess_cb]; exact decide_eq_true hcmp
            clear hcmp
            go_wp2_with fail
            go_roundg (hi2 - (mid + 1) + 1)
            case measure => omega
            case rel => exact ⟨mid + 1,hi2,by omega,hhi,Nat.le_refl _,by go_num,rfl,rfl,⟨fun j hj => cbx_le_lt (sortTx_at HSO.out (show j ≤ mid by omega) (by have:=HPL.out; omega)) (by rw [← HS0.out]; exact HCM.out)⟩,HHI⟩
          · have HCM:=am_ hcmp
            have hbl:Op.bytesLess s0.toList t.toList = false:=by rw [Lib.toList_data,Lib.toList_data,bytesLess_cb]; exact decide_eq_false hcmp
            clear hcmp
            go_wp2_with fail
            go_roundg (mid - lo + 1)
            case measure => omega
            case rel => exact ⟨lo,mid,hm1,by omega,Nat.le_refl _,rfl,rfl,rfl,HLO,⟨fun j h1 h2 => Int.not_lt.1 (fun h3 => absurd (show Lib.compareBytes s0.data.toList t.data.toList < 0 by rw [HS0.out]; exact cbx_le_lt (sortTx_at HSO.out h1 (by have:=HPL.out; omega)) h3) (Int.not_lt.2 HCM.out))⟩⟩
        · have hzz:¬ (lo:Int) < (hi2:Int):=by omega
          obtain rfl:lo = hi2:=by omega
          have HLI:=am_ hhi
          have HIN:Aside0 (Kd.S Kd.string 9 w3 w.heap.size (fun k => True ∧ ¬ False) (.slice A8 i c8) (ps.map T)):=⟨Kd.S_mono HST3.out (fun _ _ => ⟨trivial,id⟩)⟩
          go_wp2_with ((at_builtin; refine Kd.S_append Kd.string (w0:=w) w.heap.size rfl _ _ _ _ _ 16 rfl Tryz.underlying82 hi9 rfl (by decide) (by decide) (.slice A8 i c8) (ps.map T) (⟨#[]⟩:ByteArray) [.string ⟨#[]⟩] (fun _ => True) (fun _ => False) rfl rfl ?xP ?xK (fun _ _ => trivial) ?xO HB3.out ?xB ?xL ?_; (case xP => exact rfl); (case xK => exact fun k hk => hk.elim); (case xO => exact HIN.out); (case xB => exact HB3.out.size); (case xL => have h_:=HI6.out; rw [List.length_map,HPL.out]; omega); intro v4 w4 hS hB hg hat; have HS4:=am_ hS; have HB4:=am_ hB; have HG4:=am_ hg; have HA4:=am_ hat; clear hS hB hg hat))
          have HX4:Aside0 (Kd.S kF 26 w4 w.heap.size (fun k => k < wr.heap.size) u7 (ps.map F)):=⟨Kd.S_over' HSF3.out (Kd.S_typed HST3.out) (by decide) HG4.out⟩
          have HX4d:=am_ (Kd.S_drew HX4.out)
          have HLT:Aside0 ((ps.map T).length = i):=⟨by rw [List.length_map]; exact HPL.out⟩
          obtain ⟨g4,c4,e4,hg4,hg4',-⟩:=Kd.S_form HS4.out (by simp)
          rw [List.length_append,HLT.out,List.length_singleton] at e4
          subst e4
          obtain ⟨w5,m5,cc5,hrun5,hcc5,hH5,hB5,hgr5⟩:=S_up (P:=Tryz.prog) (d:=Kd.string) 82 3 Tryz.underlying82 (by kernel_rfl) (Kd.S_drew HS4.out) HLT.out HLI.out (⟨#[]⟩:ByteArray) (below_drew1 HB4.out)
          have HH5:=am_ hH5
          have HB5:=am_ hB5
          have HG5:=am_ hgr5
          have HCC5:=am_ hcc5
          rw [sliced_at,sliced_at,show (lo + 1) * Kd.string.sz = lo + 1 from Nat.mul_one _,show lo * Kd.string.sz = lo from Nat.mul_one _,show i + 1 - (lo + 1) = i - lo by omega] at hrun5
          have HRUN5:=am_ hrun5
          have hl0:(0:Int) ≤ (lo:Int):=Int.natCast_nonneg _
          have el:IntKind.i64.wrap ((lo:Int) + 1) = ((lo + 1:Nat):Int):=by
            have:=HI6.out
            have:=HLI.out
            rw [IntWalk.i64_in _ (by omega)]; omega
          have hl1:(lo:Int) ≤ (i:Int) + 1:=by have:=HLI.out; omega
          have hl3:(0:Int) ≤ (lo:Int) + 1:=by omega
          clear hH5 hB5 hgr5 hcc5 hrun5
          refine start_ (n:=8) (S:=fun _ => True) (ds:=[]) #[false,false,false,false,false,false,false,false] (by kernel_rfl) rfl rfl trivial (fun hHeld => ?_)
          refine with_tabW mos_tab15 mos_bits15 (fun HT_ HW_ => ?_)
          refine pZ (i:=0) (N:=some 49) #[true,false,false,false,false,false,false,false] ?_
          refine pZ (i:=1) (N:=some 50) #[true,true,false,false,false,false,false,false] ?_
          refine pZ (i:=2) (N:=some 51) #[true,true,true,false,false,false,false,false] ?_
          refine pZ (i:=3) (N:=some 52) #[true,true,true,true,false,false,false,false] ?_
          refine pZ (i:=4) (N:=some 53) #[true,true,true,true,true,false,false,false] ?_
          refine pZ (i:=5) (N:=some 54) #[true,true,true,true,true,true,false,false] ?_
          refine pZ (i:=6) (N:=some 55) #[true,true,true,true,true,true,true,false] ?_
          refine one_ (i:=7) (N:=some 56) #[true,true,true,true,true,true,true,true] rfl rfl (one_of HT_.out (by kernel_rfl)) (by decide) (fun K hK => ?_)
          refine value_ (w1:=w5) (v:=goInt m5) (by rfl) rfl ?_ ?_
          · go_simp; rw [HRUN5.out]; rfl
          refine hK.out _ _ trivial (fun hHeld => ?_)
          clear hK K
          refine norm_ (a':=_) ap_ ?_
          refine done_ (done_of HT_.out (by kernel_rfl)) ?_
          generalize (Value.slice (if c4 = lo + 1 then some (⟨g4,0,none⟩:Addr) else some ⟨g4,lo + 1,none⟩) (i - lo) (c4 - (lo + 1))) = z1
          generalize (Value.slice (if c4 = lo then some (⟨g4,0,none⟩:Addr) else some ⟨g4,lo,none⟩) (i + 1 - lo) (c4 - lo)) = z2
          have HX5:Aside0 (Kd.S kF 26 w5 w.heap.size (fun k => k < wr.heap.size) u7 (ps.map F)):=⟨Kd.S_over' HX4d.out (Kd.S_typed (Kd.S_drew HS4.out)) (by decide) (show World.grownBy _ _ (Value.slice (some ⟨g4,0,none⟩) (i + 1) c4).ownBlock from HG5.out)⟩
          have Q42:Aside0 (Kd.R (Kd.int .i64) 3 w4 wr.heap.size (fun k_ => some k_ ≠ (Value.slice A3 (F m).f3.length c3).ownBlock) (.slice A2 (F m).f2.length c2) (F m).f2):=⟨Kd.R_over' P2.out (Kd.S_typed HST3.out) (by decide) HG4.out⟩
          have Q43:Aside0 (Kd.R (Kd.int .i64) 3 w4 wr.heap.size (fun k_ => some k_ ≠ (Value.slice A2 (F m).f2.length c2).ownBlock) (.slice A3 (F m).f3.length c3) (F m).f3):=⟨Kd.R_over' P3.out (Kd.S_typed HST3.out) (by decide) HG4.out⟩
          have Q52:Aside0 (Kd.R (Kd.int .i64) 3 w5 wr.heap.size (fun k_ => some k_ ≠ (Value.slice A3 (F m).f3.length c3).ownBlock) (.slice A2 (F m).f2.length c2) (F m).f2):=⟨Kd.R_over' (Kd.R_drew Q42.out) (Kd.S_typed (Kd.S_drew HS4.out)) (by decide) (show World.grownBy _ _ (Value.slice (some ⟨g4,0,none⟩) (i + 1) c4).ownBlock from HG5.out)⟩
          have Q53:Aside0 (Kd.R (Kd.int .i64) 3 w5 wr.heap.size (fun k_ => some k_ ≠ (Value.slice A2 (F m).f2.length c2).ownBlock) (.slice A3 (F m).f3.length c3) (F m).f3):=⟨Kd.R_over' (Kd.R_drew Q43.out) (Kd.S_typed (Kd.S_drew HS4.out)) (by decide) (show World.grownBy _ _ (Value.slice (some ⟨g4,0,none⟩) (i + 1) c4).ownBlock from HG5.out)⟩
          have BK4:=blk_grown BKF.out HG4.out (own_ne (Kd.S_typed HST3.out) BKF.out (by decide))
          have BK5:=am_ (blk_grown (blk_drew BK4) HG5.out (own_ne (Kd.S_typed (Kd.S_drew HS4.out)) (blk_drew BK4) (by decide)))
          have HM5:Aside0 (Kd.string.M w5 w.heap.size (fun _ => False) t (cc5.take 0 ++ [.string t] ++ cc5.drop (0 + [Value.string t].length))):=⟨by rw [drop_all HCC5.out _ rfl]; rfl⟩
          clear BK4 Q42 Q43 HX4 HX4d HSF3 HST3 BKF P2 P3
          go_wp2_with (first
            | ((with_reducible refine gate_store (t:=9) (p:=60) rfl ?_); refine Kd.H_store Kd.string w.heap.size rfl rfl 9 (.tmp 60) (.tmp 59) rfl 9 (w0:=w) (lo:Int) 0 _ t (.string t) [.string t] cc5 (fun _ => True) (fun _ => False) (fun _ => False) rfl ?s1 rfl rfl ?s2 ?s3 HH5.out ?s4 ?s5 ?s6 HM5.out ?s8 HB5.out ?_;
               (case s1 => rw [Int.toNat_natCast]; exact (Nat.mul_one _).symm); (case s2 => kernel_rfl); (case s3 => simp [Value.oneCell']); (case s4 => exact Int.natCast_nonneg _); (case s5 => have:=HLI.out; omega); (case s6 => exact Nat.le_refl 1); (case s8 => exact fun _ hk => hk); intro w6 hS hB hg; have HS6:=am_ hS; have HB6:=am_ hB;
               have hx6:=Kd.S_over' HX5.out (H_typed HH5.out) (by decide) (show World.grownBy w5 w6 (Value.slice (some ⟨g4,0,none⟩) (i + 1) c4).ownBlock from hg);
               have HX6:Aside0 (Kd.S kF 26 w6 w.heap.size (fun k => (fun k => True ∧ ¬ (some k = (Value.slice A2 (F m).f2.length c2).ownBlock ∨ some k = (Value.slice A3 (F m).f3.length c3).ownBlock)) k ∧ ¬ False) u7 (ps.map F)):=⟨Kd.S_mono hx6 (fun k hk => ⟨⟨trivial,PO.out k hk⟩,id⟩)⟩;
               have Q62:=am_ (Kd.R_over' Q52.out (H_typed HH5.out) (by decide) (show World.grownBy w5 w6 (Value.slice (some ⟨g4,0,none⟩) (i + 1) c4).ownBlock from hg));
               have Q63:=am_ (Kd.R_over' Q53.out (H_typed HH5.out) (by decide) (show World.grownBy w5 w6 (Value.slice (some ⟨g4,0,none⟩) (i + 1) c4).ownBlock from hg));
               have BK6:=am_ (blk_grown BK5.out hg (own_ne (H_typed HH5.out) BK5.out (by decide)));
               have HFR6:Aside0 (∀ k,w6.heap.size ≤ k → True ∧ ¬ (some k = (Value.slice A2 (F m).f2.length c2).ownBlock ∨ some k = (Value.slice A3 (F m).f3.length c3).ownBlock)):=⟨fun k hk => ⟨trivial,fun h => h.elim (fun h1 => by have:=Kd.R_lt Q62.out k h1.symm; omega) (fun h1 => by have:=Kd.R_lt Q63.out k h1.symm; omega)⟩⟩;
               have HL6:Aside0 ((ps.map F).length = i):=⟨by rw [List.length_map]; exact HPL.out⟩;
               clear hS hB hg hx6 HX5 Q52 Q53 BK5 HH5 HB5 HM5)
            | (at_builtin; refine Kd.S_append kF (w0:=w) w.heap.size rfl _ _ _ _ _ 64 rfl Tryz.underlying33 hi26 rfl (by decide) (by decide) u7 (ps.map F) (⟨0,0,[],[]⟩:S26) [.int .i64 0,.int .i64 0,.slice none 0 0,.slice none 0 0] (fun k => True ∧ ¬ (some k = (Value.slice A2 (F m).f2.length c2).ownBlock ∨ some k = (Value.slice A3 (F m).f3.length c3).ownBlock)) (fun _ => False) rfl rfl ?xP ?xK HFR6.out ?xO HB6.out ?xB ?xL ?_; (case xP => exact kF_mkM w6 w.heap.size _ (⟨0,0,[],[]⟩:S26) (Kd.R_nil _ _ _ _ _) (Kd.R_nil _ _ _ _ _) (fun k hk => by simp [Value.ownBlock] at hk)); (case xK => exact fun k hk => hk.elim); (case xO => exact HX6.out); (case xB => exact HB6.out.size); (case xL => have h_:=HI6.out; rw [HL6.out]; omega); intro v7 w7 hS hB hg hat; have HS7:=am_ hS; have HB7:=am_ hB; have HG7:=am_ hg; have HA7:=am_ hat; clear hS hB hg hat))
          have HT7:Aside0 (Kd.S Kd.string 9 w7 w.heap.size (fun _ => True) (.slice (some ⟨g4,0,none⟩) (i + 1) c4) _):=⟨Kd.S_over' HS6.out (Kd.S_typed HX6.out) (by decide) HG7.out⟩
          have Q72:=am_ (Kd.R_drew (Kd.R_over' Q62.out (Kd.S_typed HX6.out) (by decide) HG7.out))
          have Q73:=am_ (Kd.R_drew (Kd.R_over' Q63.out (Kd.S_typed HX6.out) (by decide) HG7.out))
          have hlt6:w2.heap.size < w6.heap.size:=blk_lt BK6.out
          have BK7:=am_ (blk_drew (blk_grown BK6.out HG7.out (fun he => by have:=HU7.out _ he.symm; have:=HZ2.out; omega)))
          obtain ⟨g7,c7,e7,hg7,hg7',-⟩:=Kd.S_form HS7.out (by simp)
          rw [List.length_append,HL6.out,List.length_singleton] at e7
          have HNE7:Aside0 (w2.heap.size ≠ g7):=⟨by
            have h1:v7.ownBlock = some g7:=by rw [e7]; simp [Value.ownBlock]
            rcases HA7.out with h2 | ⟨b,h2,h3⟩
            · have:=HU7.out g7 (by rw [← h2]; exact h1)
              have:=HZ2.out
              omega
            · rw [h1] at h2
              injection h2 with h2
              omega⟩
          subst e7
          obtain ⟨w8,m8,cc8,hrun8,hcc8,hH8,hB8,hgr8⟩:=S_up (P:=Tryz.prog) (d:=kF) 33 3 Tryz.underlying33 (by kernel_rfl) (Kd.S_drew HS7.out) HL6.out HLI.out (⟨0,0,[],[]⟩:S26) (below_drew1 HB7.out)
          have HH8:=am_ hH8
          have HB8:=am_ hB8
          have HG8:Aside0 (World.grownBy _ _ (Value.slice (some ⟨g7,0,none⟩) (i + 1) c7).ownBlock):=⟨hgr8⟩
          have HCC8:=am_ hcc8
          rw [sliced_at,sliced_at,show kF.sz = 4 from rfl,show i + 1 - (lo + 1) = i - lo by omega] at hrun8
          have HRUN8:=am_ hrun8
          clear hH8 hB8 hgr8 hcc8 hrun8
          refine start_ (n:=8) (S:=fun _ => True) (ds:=[]) #[false,false,false,false,false,false,false,false] (by kernel_rfl) rfl rfl trivial (fun hHeld => ?_)
          refine with_tabW mos_tab18 mos_bits18 (fun HT_ HW_ => ?_)
          refine pZ (i:=0) (N:=some 65) #[true,false,false,false,false,false,false,false] ?_
          refine pZ (i:=1) (N:=some 66) #[true,true,false,false,false,false,false,false] ?_
          refine pZ (i:=2) (N:=some 67) #[true,true,true,false,false,false,false,false] ?_
          refine pZ (i:=3) (N:=some 68) #[true,true,true,true,false,false,false,false] ?_
          refine pZ (i:=4) (N:=some 69) #[true,true,true,true,true,false,false,false] ?_
          refine pZ (i:=5) (N:=some 70) #[true,true,true,true,true,true,false,false] ?_
          refine pZ (i:=6) (N:=some 71) #[true,true,true,true,true,true,true,false] ?_
          refine one_ (i:=7) (N:=some 72) #[true,true,true,true,true,true,true,true] rfl rfl (one_of HT_.out (by kernel_rfl)) (by decide) (fun K hK => ?_)
          refine value_ (w1:=w8) (v:=goInt m8) (by rfl) rfl ?_ ?_
          · go_simp; rw [HRUN8.out]; rfl
          refine hK.out _ _ trivial (fun hHeld => ?_)
          clear hK K
          refine norm_ (a':=_) ap_ ?_
          refine done_ (done_of HT_.out (by kernel_rfl)) ?_
          generalize (Value.slice (if c7 = lo + 1 then some (⟨g7,0,none⟩:Addr) else some ⟨g7,(lo + 1) * 4,none⟩) (i - lo) (c7 - (lo + 1))) = z1
          generalize (Value.slice (if c7 = lo then some (⟨g7,0,none⟩:Addr) else some ⟨g7,lo * 4,none⟩) (i + 1 - lo) (c7 - lo)) = z2
          have HT8:=am_ (Kd.S_over' (Kd.S_drew HT7.out) (Kd.S_typed (Kd.S_drew HS7.out)) (by decide) HG8.out)
          have PM8:=am_ (figApp_M (x:=F m) (Kd.R_over' Q72.out (Kd.S_typed (Kd.S_drew HS7.out)) (by decide) HG8.out) (Kd.R_over' Q73.out (Kd.S_typed (Kd.S_drew HS7.out)) (by decide) HG8.out) HWR.out)
          have BK8:=am_ (blk_grown BK7.out HG8.out (fun he => HNE7.out (by simpa [Value.ownBlock] using he)))
          have HHM:=am_ (Kd.H_more (ok:=fun _ => True) (okg:=(fun k => some k = (Value.slice A2 (F m).f2.length c2).ownBlock ∨ some k = (Value.slice A3 (F m).f3.length c3).ownBlock)) HH8.out (fun _ _ => trivial))
          have HM8:Aside0 (kF.M w8 w.heap.size (fun k => some k = (Value.slice A2 (F m).f2.length c2).ownBlock ∨ some k = (Value.slice A3 (F m).f3.length c3).ownBlock) (F m) (cc8.take 0 ++ [.int .i64 (F m).f0,.int .i64 (F m).f1,.slice A2 (F m).f2.length c2,.slice A3 (F m).f3.length c3] ++ cc8.drop (0 + [Value.int .i64 (F m).f0,.int .i64 (F m).f1,.slice A2 (F m).f2.length c2,.slice A3 (F m).f3.length c3].length))):=⟨by rw [drop_all HCC8.out _ rfl]; exact PM8.out⟩
          have q0:w8.cell? ⟨w2.heap.size,0,none⟩ = some (.int .i64 (F m).f0):=(bc_ BK8.out 0).trans rfl
          have q1:w8.cell? ⟨w2.heap.size,1,none⟩ = some (.int .i64 (F m).f1):=(bc_ BK8.out 1).trans rfl
          have q2:w8.cell? ⟨w2.heap.size,2,none⟩ = some (.slice A2 (F m).f2.length c2):=(bc_ BK8.out 2).trans rfl
          have q3:w8.cell? ⟨w2.heap.size,3,none⟩ = some (.slice A3 (F m).f3.length c3):=(bc_ BK8.out 3).trans rfl
          clear HT7 Q62 Q63 Q72 Q73 BK6 BK7 HX6 HS6 HB6 HFR6 HS7 HB7 HG7 HA7 HRUN8 HRUN5 PM8 HH8
          go_wp2_with (first
            | ((with_reducible refine gate_store (t:=26) (p:=76) rfl ?_); refine Kd.H_store kF w.heap.size rfl rfl 26 (.tmp 76) (.tmp 75) rfl 26 (w0:=w) (lo:Int) 0 _ (F m) (.agg #[.int .i64 (F m).f0,.int .i64 (F m).f1,.slice A2 (F m).f2.length c2,.slice A3 (F m).f3.length c3]) [.int .i64 (F m).f0,.int .i64 (F m).f1,.slice A2 (F m).f2.length c2,.slice A3 (F m).f3.length c3] cc8 (fun _ => True) _ (fun k => some k = (Value.slice A2 (F m).f2.length c2).ownBlock ∨ some k = (Value.slice A3 (F m).f3.length c3).ownBlock) rfl ?s1 rfl rfl ?s2 ?s3 HHM.out ?s4 ?s5 ?s6 HM8.out ?s8 HB8.out ?_;
               (case s1 => rw [Int.toNat_natCast]; rfl); (case s2 => kernel_rfl); (case s3 => simp [Value.oneCell']); (case s4 => exact Int.natCast_nonneg _); (case s5 => have:=HLI.out; omega); (case s6 => exact Nat.le_refl 4); (case s8 => exact fun _ hk => .inr hk); intro w9 hS hB hg; have HS9:=am_ hS; have HB9:=am_ hB; have HT9:=am_ (Kd.S_over' HT8.out (H_typed HHM.out) (by decide) (show World.grownBy w8 w9 (Value.slice (some ⟨g7,0,none⟩) (i + 1) c7).ownBlock from hg)); clear hS hB hg q0 q1 q2 q3))
          have HLP:Aside0 (lo ≤ ps.length):=⟨by rw [HPL.out]; exact HLI.out⟩
          go_roundg (n + 1 - (i + 1))
          case measure => omega
          case rel =>
            refine ⟨i + 1,ps.take lo ++ m :: ps.drop lo,by omega,Nat.le_refl _,by go_num,⟨by rw [HTK.out]; exact perm_mid HP.out lo m⟩,⟨sortTx_ins HSO.out HLP.out (fun j hj => by rw [← HTT.out]; exact HLO.out j hj) (fun j h1 h2 => by rw [← HTT.out]; exact Int.not_lt.2 (HHI.out j h1 (by rw [← HPL.out]; exact h2)))⟩,⟨?_⟩,⟨?_⟩,HB9⟩
            · have h:=HS9.out
              rw [Int.toNat_natCast,set_mid _ _ (by rw [List.length_map]; exact HLP.out)] at h
              rw [map_mid]; exact h
            · have h:=HT9.out
              rw [Int.toNat_natCast,set_mid _ _ (by rw [List.length_map]; exact HLP.out),HTT.out] at h
              rw [map_mid]; exact h
    · have hlz:¬ (i:Int) < (n:Int):=by omega
      obtain rfl:i = n:=by omega
      have hall:ms.take i = ms:=List.take_of_length_le (by rw [HN.out]; exact Nat.le_refl _)
      go_wp2
      go_ret
      exact ⟨_,rfl,ps,by have h:=HP.out; rw [hall] at h; exact h,List.Pairwise.imp (fun h => Int.not_lt.1 h) HSO.out,HSF.out,HB.out⟩


set_option maxRecDepth 100000 in
set_option maxHeartbeats 16000000 in
theorem moList_no1 (K:Nat) (fW fH:Int) (A2 A3:Option Addr) (c2 c3:Nat) (l2 l3:List Int) (mt sq:Int) (mv:Bool) (w:World) (hr2:Kd.C (Kd.int .i64) w A2 l2.length l2) (hc2:l2.length ≤ c2) (hr3:Kd.C (Kd.int .i64) w A3 l3.length l3) (hc3:l3.length ≤ c3) (ha:spec_moAsked.f K fW fH l2 l3 mt mv = some false) :
  Calls Tryz.prog 32 #[.agg #[.int .i64 fW,.int .i64 fH,.slice A2 l2.length c2,.slice A3 l3.length c3],.int .i64 mt,.int .i64 sq,.bool mv] w fun e w' => e = .returned (.tuple #[.slice none 0 0,.bool false]) ∧ Below w.heap.size w w':=by
 have HAS:Aside0 (∀ W,Below w.heap.size w W → Calls Tryz.prog 34 #[.agg #[.int .i64 fW,.int .i64 fH,.slice A2 l2.length c2,.slice A3 l3.length c3],.int .i64 mt,.bool mv] W fun e w' => e = .returned (.bool false) ∧ Below W.heap.size W w'):=⟨fun W hB => spec_moAsked.calls K fW fH A2 c2 l2 A3 c3 l3 mt mv false W (Kd.C_below hr2 hB) hc2 (Kd.C_below hr3 hB) hc3 ha⟩
 clear hr2 hc2 hr3 hc3 ha
 generalize l2.length = n2 at HAS ⊢
 generalize l3.length = n3 at HAS ⊢
 go_enter Tryz.func32,Tryz.ntmps32
 go_wp2_with (go_at_call 34; refine (HAS.out _ (below_alloc (Below.refl _ _) _)).mono ?_; rintro e w1 ⟨rfl,hb⟩; have BK1:=am_ (blk_below (heap_alloc_new w (.cells #[.int .i64 fW,.int .i64 fH,.slice A2 n2 c2,.slice A3 n3 c3] 26)) hb); have HB1:=am_ (below_step (below_alloc (Below.refl w.heap.size w) (.cells #[.int .i64 fW,.int .i64 fH,.slice A2 n2 c2,.slice A3 n3 c3] 26)) hb); have q0:w1.cell? ⟨w.heap.size,0,none⟩ = some (.int .i64 fW):=(bc_ BK1.out 0).trans rfl; have q1:w1.cell? ⟨w.heap.size,1,none⟩ = some (.int .i64 fH):=(bc_ BK1.out 1).trans rfl; have q2:w1.cell? ⟨w.heap.size,2,none⟩ = some (.slice A2 n2 c2):=(bc_ BK1.out 2).trans rfl; have q3:w1.cell? ⟨w.heap.size,3,none⟩ = some (.slice A3 n3 c3):=(bc_ BK1.out 3).trans rfl; clear hb)
 go_ret2
 exact ⟨rfl,by first | exact HB1.out | exact below_drew1 HB1.out⟩
set_option maxRecDepth 100000 in
set_option maxHeartbeats 16000000 in
theorem moList_no2 (K:Nat) (fW fH:Int) (A2 A3:Option Addr) (c2 c3:Nat) (l2 l3:List Int) (mt sq:Int) (mv:Bool) (w:World) (hr2:Kd.C (Kd.int .i64) w A2 l2.length l2) (hc2:l2.length ≤ c2) (hr3:Kd.C (Kd.int .i64) w A3 l3.length l3) (hc3:l3.length ≤ c3) (ha:spec_moAsked.f K fW fH l2 l3 mt mv = some true) (hs:spec_moSquares.f sq = some false) :
  Calls Tryz.prog 32 #[.agg #[.int .i64 fW,.int .i64 fH,.slice A2 l2.length c2,.slice A3 l3.length c3],.int .i64 mt,.int .i64 sq,.bool mv] w fun e w' => e = .returned (.tuple #[.slice none 0 0,.bool false]) ∧ Below w.heap.size w w':=by
 have HAS:Aside0 (∀ W,Below w.heap.size w W → Calls Tryz.prog 34 #[.agg #[.int .i64 fW,.int .i64 fH,.slice A2 l2.length c2,.slice A3 l3.length c3],.int .i64 mt,.bool mv] W fun e w' => e = .returned (.bool true) ∧ Below W.heap.size W w'):=⟨fun W hB => spec_moAsked.calls K fW fH A2 c2 l2 A3 c3 l3 mt mv true W (Kd.C_below hr2 hB) hc2 (Kd.C_below hr3 hB) hc3 ha⟩
 have HSQ:=am_ hs
 clear hr2 hc2 hr3 hc3 ha hs
 generalize l2.length = n2 at HAS ⊢
 generalize l3.length = n3 at HAS ⊢
 go_enter Tryz.func32,Tryz.ntmps32
 go_wp2_with (first | (go_at_call 34; refine (HAS.out _ (below_alloc (Below.refl _ _) _)).mono ?_; rintro e w1 ⟨rfl,hb⟩; have BK1:=am_ (blk_below (heap_alloc_new w (.cells #[.int .i64 fW,.int .i64 fH,.slice A2 n2 c2,.slice A3 n3 c3] 26)) hb); have HB1:=am_ (below_step (below_alloc (Below.refl w.heap.size w) (.cells #[.int .i64 fW,.int .i64 fH,.slice A2 n2 c2,.slice A3 n3 c3] 26)) hb); have q0:w1.cell? ⟨w.heap.size,0,none⟩ = some (.int .i64 fW):=(bc_ BK1.out 0).trans rfl; have q1:w1.cell? ⟨w.heap.size,1,none⟩ = some (.int .i64 fH):=(bc_ BK1.out 1).trans rfl; have q2:w1.cell? ⟨w.heap.size,2,none⟩ = some (.slice A2 n2 c2):=(bc_ BK1.out 2).trans rfl; have q3:w1.cell? ⟨w.heap.size,3,none⟩ = some (.slice A3 n3 c3):=(bc_ BK1.out 3).trans rfl; clear hb) | (go_at_call 35; refine (spec_moSquares.calls sq false _ HSQ.out).mono ?_; rintro e w2 ⟨rfl,hd⟩; have hb:=hd.below; have BK2:=am_ (blk_below BK1.out hb); have HB2:=am_ (below_step HB1.out hb); have s0:w2.cell? ⟨w.heap.size,0,none⟩ = some (.int .i64 fW):=(bc_ BK2.out 0).trans rfl; have s1:w2.cell? ⟨w.heap.size,1,none⟩ = some (.int .i64 fH):=(bc_ BK2.out 1).trans rfl; have s2:w2.cell? ⟨w.heap.size,2,none⟩ = some (.slice A2 n2 c2):=(bc_ BK2.out 2).trans rfl; have s3:w2.cell? ⟨w.heap.size,3,none⟩ = some (.slice A3 n3 c3):=(bc_ BK2.out 3).trans rfl; clear hb hd q0 q1 q2 q3))
 go_ret2
 exact ⟨rfl,by first | exact HB2.out | exact below_drew1 HB2.out⟩
set_option maxRecDepth 100000 in
set_option maxHeartbeats 16000000 in
theorem moList_no3 (K:Nat) (fW fH:Int) (A2 A3:Option Addr) (c2 c3:Nat) (l2 l3:List Int) (mt sq:Int) (mv:Bool) (rs:List Int) (w:World) (hr2:Kd.C (Kd.int .i64) w A2 l2.length l2) (hc2:l2.length ≤ c2) (hr3:Kd.C (Kd.int .i64) w A3 l3.length l3) (hc3:l3.length ≤ c3) (ha:spec_moAsked.f K fW fH l2 l3 mt mv = some true) (hs:spec_moSquares.f sq = some true) (ht:spec_moThose.f K fW fH l2 l3 mt sq mv false = some rs) (hl:200 < rs.length) (hl2:rs.length ≤ 1000000000) :
  Calls Tryz.prog 32 #[.agg #[.int .i64 fW,.int .i64 fH,.slice A2 l2.length c2,.slice A3 l3.length c3],.int .i64 mt,.int .i64 sq,.bool mv] w fun e w' => e = .returned (.tuple #[.slice none 0 0,.bool false]) ∧ Below w.heap.size w w':=by
 have HAS:Aside0 (∀ W,Below w.heap.size w W → Calls Tryz.prog 34 #[.agg #[.int .i64 fW,.int .i64 fH,.slice A2 l2.length c2,.slice A3 l3.length c3],.int .i64 mt,.bool mv] W fun e w' => e = .returned (.bool true) ∧ Below W.heap.size W w'):=⟨fun W hB => spec_moAsked.calls K fW fH A2 c2 l2 A3 c3 l3 mt mv true W (Kd.C_below hr2 hB) hc2 (Kd.C_below hr3 hB) hc3 ha⟩
 have HTH:Aside0 (∀ W,Below w.heap.size w W → Calls Tryz.prog 36 #[.agg #[.int .i64 fW,.int .i64 fH,.slice A2 l2.length c2,.slice A3 l3.length c3],.int .i64 mt,.int .i64 sq,.bool mv,.bool false] W fun e w' => ∃ v0_:Value,e = .returned v0_ ∧ Kd.R (Kd.int .i64) 3 w' W.heap.size (fun _ => True) v0_ rs ∧ Below W.heap.size W w'):=⟨fun W hB => spec_moThose.calls K fW fH A2 c2 l2 A3 c3 l3 mt sq mv false rs W (Kd.C_below hr2 hB) hc2 (Kd.C_below hr3 hB) hc3 ht⟩
 have HSQ:=am_ hs
 obtain ⟨nr,hnr⟩:∃ nr,rs.length = nr:=⟨_,rfl⟩
 have HNL:=am_ hnr
 have hlg:(nr:Int) > 200:=by omega
 clear hr2 hc2 hr3 hc3 ha hs ht hl hl2 hnr
 generalize l2.length = n2 at HAS HTH ⊢
 generalize l3.length = n3 at HAS HTH ⊢
 go_enter Tryz.func32,Tryz.ntmps32
 go_wp2_with (first | (go_at_call 34; refine (HAS.out _ (below_alloc (Below.refl _ _) _)).mono ?_; rintro e w1 ⟨rfl,hb⟩; have BK1:=am_ (blk_below (heap_alloc_new w (.cells #[.int .i64 fW,.int .i64 fH,.slice A2 n2 c2,.slice A3 n3 c3] 26)) hb); have HB1:=am_ (below_step (below_alloc (Below.refl w.heap.size w) (.cells #[.int .i64 fW,.int .i64 fH,.slice A2 n2 c2,.slice A3 n3 c3] 26)) hb); have q0:w1.cell? ⟨w.heap.size,0,none⟩ = some (.int .i64 fW):=(bc_ BK1.out 0).trans rfl; have q1:w1.cell? ⟨w.heap.size,1,none⟩ = some (.int .i64 fH):=(bc_ BK1.out 1).trans rfl; have q2:w1.cell? ⟨w.heap.size,2,none⟩ = some (.slice A2 n2 c2):=(bc_ BK1.out 2).trans rfl; have q3:w1.cell? ⟨w.heap.size,3,none⟩ = some (.slice A3 n3 c3):=(bc_ BK1.out 3).trans rfl; clear hb) | (go_at_call 35; refine (spec_moSquares.calls sq true _ HSQ.out).mono ?_; rintro e w2 ⟨rfl,hd⟩; have hb:=hd.below; have BK2:=am_ (blk_below BK1.out hb); have HB2:=am_ (below_step HB1.out hb); have s0:w2.cell? ⟨w.heap.size,0,none⟩ = some (.int .i64 fW):=(bc_ BK2.out 0).trans rfl; have s1:w2.cell? ⟨w.heap.size,1,none⟩ = some (.int .i64 fH):=(bc_ BK2.out 1).trans rfl; have s2:w2.cell? ⟨w.heap.size,2,none⟩ = some (.slice A2 n2 c2):=(bc_ BK2.out 2).trans rfl; have s3:w2.cell? ⟨w.heap.size,3,none⟩ = some (.slice A3 n3 c3):=(bc_ BK2.out 3).trans rfl; clear hb hd q0 q1 q2 q3) | (go_at_call 36; refine (HTH.out _ HB2.out).mono ?_; rintro e w3 ⟨vr,rfl,hr,hb⟩; obtain ⟨Ar,cr,rfl⟩:=Kd.R_slice hr; have HRR:=am_ (Kd.R_reads' hr).2.2; have BK3:=am_ (blk_below BK2.out hb); have HB3:=am_ (below_step HB2.out hb); have q0:w3.cell? ⟨w.heap.size,0,none⟩ = some (.int .i64 fW):=(bc_ BK3.out 0).trans rfl; have q1:w3.cell? ⟨w.heap.size,1,none⟩ = some (.int .i64 fH):=(bc_ BK3.out 1).trans rfl; have q2:w3.cell? ⟨w.heap.size,2,none⟩ = some (.slice A2 n2 c2):=(bc_ BK3.out 2).trans rfl; have q3:w3.cell? ⟨w.heap.size,3,none⟩ = some (.slice A3 n3 c3):=(bc_ BK3.out 3).trans rfl; rw [HNL.out] at *; clear hb hr s0 s1 s2 s3))
 go_ret2
 exact ⟨rfl,by first | exact HB3.out | exact below_drew1 HB3.out⟩
set_option maxRecDepth 100000 in
set_option maxHeartbeats 16000000 in
theorem moList_yes (K:Nat) (fW fH:Int) (A2 A3:Option Addr) (c2 c3:Nat) (l2 l3:List Int) (mt sq:Int) (mv:Bool) (F:Nat → S26) (T:Nat → ByteArray) (R:List S26) (ms:List Nat) (w:World) (hr2:Kd.C (Kd.int .i64) w A2 l2.length l2) (hc2:l2.length ≤ c2) (hr3:Kd.C (Kd.int .i64) w A3 l3.length l3) (hc3:l3.length ≤ c3) (ha:spec_moAsked.f K fW fH l2 l3 mt mv = some true) (hs:spec_moSquares.f sq = some true) (ht:spec_moThose.f K fW fH l2 l3 mt sq mv false = some (ms.map fun n:Nat => (n:Int))) (hl:ms.length ≤ 200)
  (hF:∀ m ∈ ms,spec_sqFigure.f K fW fH (m:Int) = some ((F m).f0,(F m).f1,(F m).f2,(F m).f3)) (hT:∀ m ∈ ms,spec_fiText.f K (F m).f0 (F m).f1 (F m).f2 (F m).f3 = some (T m))
  (hR:∀ ps:List Nat,ps.Perm ms → (ps.Pairwise fun a b => ¬ Lib.compareBytes (T b).data.toList (T a).data.toList < 0) → ps.map F = R) :
  Calls Tryz.prog 32 #[.agg #[.int .i64 fW,.int .i64 fH,.slice A2 l2.length c2,.slice A3 l3.length c3],.int .i64 mt,.int .i64 sq,.bool mv] w fun e w' => ∃ v:Value,e = .returned (.tuple #[v,.bool true]) ∧ Kd.S kF 26 w' w.heap.size (fun _ => True) v R ∧ Below w.heap.size w w':=by
 obtain ⟨rs,hrs⟩:∃ rs,rs = ms.map fun n:Nat => (n:Int):=⟨_,rfl⟩
 rw [← hrs] at ht
 have HAS:Aside0 (∀ W,Below w.heap.size w W → Calls Tryz.prog 34 #[.agg #[.int .i64 fW,.int .i64 fH,.slice A2 l2.length c2,.slice A3 l3.length c3],.int .i64 mt,.bool mv] W fun e w' => e = .returned (.bool true) ∧ Below W.heap.size W w'):=⟨fun W hB => spec_moAsked.calls K fW fH A2 c2 l2 A3 c3 l3 mt mv true W (Kd.C_below hr2 hB) hc2 (Kd.C_below hr3 hB) hc3 ha⟩
 have HTH:Aside0 (∀ W,Below w.heap.size w W → Calls Tryz.prog 36 #[.agg #[.int .i64 fW,.int .i64 fH,.slice A2 l2.length c2,.slice A3 l3.length c3],.int .i64 mt,.int .i64 sq,.bool mv,.bool false] W fun e w' => ∃ v0_:Value,e = .returned v0_ ∧ Kd.R (Kd.int .i64) 3 w' W.heap.size (fun _ => True) v0_ rs ∧ Below W.heap.size W w'):=⟨fun W hB => spec_moThose.calls K fW fH A2 c2 l2 A3 c3 l3 mt sq mv false rs W (Kd.C_below hr2 hB) hc2 (Kd.C_below hr3 hB) hc3 ht⟩
 have HSO:Aside0 (∀ (W:World) (A:Option Addr) (c:Nat),Kd.C (Kd.int .i64) W A rs.length rs → Calls Tryz.prog 44 #[.int .i64 fW,.int .i64 fH,.slice A ms.length c] W fun e w' => ∃ v:Value,e = .returned v ∧ Kd.S kF 26 w' W.heap.size (fun _ => True) v R ∧ Below W.heap.size W w'):=⟨fun W A c hr => (moSorted_any K fW fH ms F T hF hT A c W (by
   have h:=hr
   rw [hrs,List.length_map] at h
   exact h) (by omega)).mono (by
   rintro e w' ⟨v,rfl,ps,hp,hpw,hS,hb⟩
   rw [hR ps hp hpw] at hS
   exact ⟨v,rfl,hS,hb⟩)⟩
 have HSQ:=am_ hs
 obtain ⟨nr,hnr⟩:∃ nr,ms.length = nr:=⟨_,rfl⟩
 have HNL:Aside0 (rs.length = nr):=⟨by rw [hrs,List.length_map]; exact hnr⟩
 have hlg:¬ (nr:Int) > 200:=by omega
 rw [hnr,HNL.out] at HSO
 clear hr2 hc2 hr3 hc3 ha hs ht hl hnr hrs hF hT hR
 generalize l2.length = n2 at HAS HTH ⊢
 generalize l3.length = n3 at HAS HTH ⊢
 go_enter Tryz.func32,Tryz.ntmps32
 go_wp2_with (first | (go_at_call 34; refine (HAS.out _ (below_alloc (Below.refl _ _) _)).mono ?_; rintro e w1 ⟨rfl,hb⟩; have BK1:=am_ (blk_below (heap_alloc_new w (.cells #[.int .i64 fW,.int .i64 fH,.slice A2 n2 c2,.slice A3 n3 c3] 26)) hb); have HB1:=am_ (below_step (below_alloc (Below.refl w.heap.size w) (.cells #[.int .i64 fW,.int .i64 fH,.slice A2 n2 c2,.slice A3 n3 c3] 26)) hb); have q0:w1.cell? ⟨w.heap.size,0,none⟩ = some (.int .i64 fW):=(bc_ BK1.out 0).trans rfl; have q1:w1.cell? ⟨w.heap.size,1,none⟩ = some (.int .i64 fH):=(bc_ BK1.out 1).trans rfl; have q2:w1.cell? ⟨w.heap.size,2,none⟩ = some (.slice A2 n2 c2):=(bc_ BK1.out 2).trans rfl; have q3:w1.cell? ⟨w.heap.size,3,none⟩ = some (.slice A3 n3 c3):=(bc_ BK1.out 3).trans rfl; clear hb) | (go_at_call 35; refine (spec_moSquares.calls sq true _ HSQ.out).mono ?_; rintro e w2 ⟨rfl,hd⟩; have hb:=hd.below; have BK2:=am_ (blk_below BK1.out hb); have HB2:=am_ (below_step HB1.out hb); have s0:w2.cell? ⟨w.heap.size,0,none⟩ = some (.int .i64 fW):=(bc_ BK2.out 0).trans rfl; have s1:w2.cell? ⟨w.heap.size,1,none⟩ = some (.int .i64 fH):=(bc_ BK2.out 1).trans rfl; have s2:w2.cell? ⟨w.heap.size,2,none⟩ = some (.slice A2 n2 c2):=(bc_ BK2.out 2).trans rfl; have s3:w2.cell? ⟨w.heap.size,3,none⟩ = some (.slice A3 n3 c3):=(bc_ BK2.out 3).trans rfl; clear hb hd q0 q1 q2 q3) | (go_at_call 36; refine (HTH.out _ HB2.out).mono ?_; rintro e w3 ⟨vr,rfl,hr,hb⟩; obtain ⟨Ar,cr,rfl⟩:=Kd.R_slice hr; have HRR:=am_ (Kd.R_reads' hr).2.2; have BK3:=am_ (blk_below BK2.out hb); have HB3:=am_ (below_step HB2.out hb); have q0:w3.cell? ⟨w.heap.size,0,none⟩ = some (.int .i64 fW):=(bc_ BK3.out 0).trans rfl; have q1:w3.cell? ⟨w.heap.size,1,none⟩ = some (.int .i64 fH):=(bc_ BK3.out 1).trans rfl; have q2:w3.cell? ⟨w.heap.size,2,none⟩ = some (.slice A2 n2 c2):=(bc_ BK3.out 2).trans rfl; have q3:w3.cell? ⟨w.heap.size,3,none⟩ = some (.slice A3 n3 c3):=(bc_ BK3.out 3).trans rfl; rw [HNL.out] at *; clear hb hr s0 s1 s2 s3) | (go_at_call 44; refine (HSO.out _ Ar cr HRR.out).mono ?_; rintro e w4 ⟨v,rfl,hS,hb⟩; have RS:=am_ (Kd.S_lower hS HB3.out.size); have HB4:=am_ (below_step HB3.out hb); clear hb hS q0 q1 q2 q3))
 try go_wp2
 go_ret2
 exact ⟨_,rfl,RS.out,HB4.out⟩


set_option maxRecDepth 100000 in
set_option maxHeartbeats 16000000 in
theorem spec_AllTakes_no (K:Nat) (fW fH:Int) (A2 A3:Option Addr) (c2 c3:Nat) (l2 l3:List Int) (mt sq:Int) (w:World) (hr2:Kd.C (Kd.int .i64) w A2 l2.length l2) (hc2:l2.length ≤ c2) (hr3:Kd.C (Kd.int .i64) w A3 l3.length l3) (hc3:l3.length ≤ c3) (h:spec_moAsked.f K fW fH l2 l3 mt false = some false ∨ spec_moAsked.f K fW fH l2 l3 mt false = some true ∧ spec_moSquares.f sq = some false ∨ spec_moAsked.f K fW fH l2 l3 mt false = some true ∧ spec_moSquares.f sq = some true ∧ ∃ rs,spec_moThose.f K fW fH l2 l3 mt sq false false = some rs ∧ 200 < rs.length ∧ rs.length ≤ 1000000000) :
    Calls Tryz.prog 17 #[.agg #[.int .i64 fW,.int .i64 fH,.slice A2 l2.length c2,.slice A3 l3.length c3],.int .i64 mt,.int .i64 sq] w fun e w' => e = .returned (.tuple #[.slice none 0 0,.bool false]) ∧ Below w.heap.size w w':=by
  have HC:Aside0 (∀ W,Below w.heap.size w W → Calls Tryz.prog 32 #[.agg #[.int .i64 fW,.int .i64 fH,.slice A2 l2.length c2,.slice A3 l3.length c3],.int .i64 mt,.int .i64 sq,.bool false] W fun e w' => e = .returned (.tuple #[.slice none 0 0,.bool false]) ∧ Below W.heap.size W w'):=⟨fun W hB => by
    rcases h with h | ⟨h1,h2⟩ | ⟨h1,h2,rs,h3,h4,h5⟩
    · exact moList_no1 K fW fH A2 A3 c2 c3 l2 l3 mt sq false W (Kd.C_below hr2 hB) hc2 (Kd.C_below hr3 hB) hc3 h
    · exact moList_no2 K fW fH A2 A3 c2 c3 l2 l3 mt sq false W (Kd.C_below hr2 hB) hc2 (Kd.C_below hr3 hB) hc3 h1 h2
    · exact moList_no3 K fW fH A2 A3 c2 c3 l2 l3 mt sq false rs W (Kd.C_below hr2 hB) hc2 (Kd.C_below hr3 hB) hc3 h1 h2 h3 h4 h5⟩
  clear hr2 hc2 hr3 hc3 h
  generalize l2.length = n2 at HC ⊢
  generalize l3.length = n3 at HC ⊢
  go_enter Tryz.func17,Tryz.ntmps17
  go_wp2_with (go_at_call 32; refine (HC.out _ (below_alloc (Below.refl _ _) _)).mono ?_; rintro e w1 ⟨rfl,hb⟩; have HB:=am_ (below_step (below_alloc (Below.refl w.heap.size w) (.cells #[.int .i64 fW,.int .i64 fH,.slice A2 n2 c2,.slice A3 n3 c3] 26)) hb); clear hb)
  go_ret2
  exact ⟨rfl,HB.out⟩
set_option maxRecDepth 100000 in
set_option maxHeartbeats 16000000 in
theorem spec_AllTakes_yes (K:Nat) (fW fH:Int) (A2 A3:Option Addr) (c2 c3:Nat) (l2 l3:List Int) (mt sq:Int) (F:Nat → S26) (T:Nat → ByteArray) (R:List S26) (ms:List Nat) (w:World) (hr2:Kd.C (Kd.int .i64) w A2 l2.length l2) (hc2:l2.length ≤ c2) (hr3:Kd.C (Kd.int .i64) w A3 l3.length l3) (hc3:l3.length ≤ c3) (ha:spec_moAsked.f K fW fH l2 l3 mt false = some true) (hs:spec_moSquares.f sq = some true) (ht:spec_moThose.f K fW fH l2 l3 mt sq false false = some (ms.map fun n:Nat => (n:Int))) (hl:ms.length ≤ 200)
    (hF:∀ m ∈ ms,spec_sqFigure.f K fW fH (m:Int) = some ((F m).f0,(F m).f1,(F m).f2,(F m).f3)) (hT:∀ m ∈ ms,spec_fiText.f K (F m).f0 (F m).f1 (F m).f2 (F m).f3 = some (T m))
    (hR:∀ ps:List Nat,ps.Perm ms → (ps.Pairwise fun a b => ¬ Lib.compareBytes (T b).data.toList (T a).data.toList < 0) → ps.map F = R) :
    Calls Tryz.prog 17 #[.agg #[.int .i64 fW,.int .i64 fH,.slice A2 l2.length c2,.slice A3 l3.length c3],.int .i64 mt,.int .i64 sq] w fun e w' => ∃ v:Value,e = .returned (.tuple #[v,.bool true]) ∧ Kd.S kF 26 w' w.heap.size (fun _ => True) v R ∧ Below w.heap.size w w':=by
  have HC:Aside0 (∀ W,Below w.heap.size w W → Calls Tryz.prog 32 #[.agg #[.int .i64 fW,.int .i64 fH,.slice A2 l2.length c2,.slice A3 l3.length c3],.int .i64 mt,.int .i64 sq,.bool false] W fun e w' => ∃ v:Value,e = .returned (.tuple #[v,.bool true]) ∧ Kd.S kF 26 w' W.heap.size (fun _ => True) v R ∧ Below W.heap.size W w'):=⟨fun W hB => moList_yes K fW fH A2 A3 c2 c3 l2 l3 mt sq false F T R ms W (Kd.C_below hr2 hB) hc2 (Kd.C_below hr3 hB) hc3 ha hs ht hl hF hT hR⟩
  clear hr2 hc2 hr3 hc3 ha hs ht hl hF hT hR
  generalize l2.length = n2 at HC ⊢
  generalize l3.length = n3 at HC ⊢
  go_enter Tryz.func17,Tryz.ntmps17
  go_wp2_with (go_at_call 32; refine (HC.out _ (below_alloc (Below.refl _ _) _)).mono ?_; rintro e w1 ⟨v,rfl,hS,hb⟩; have RS:=am_ hS; have HB:=am_ (below_step (below_alloc (Below.refl w.heap.size w) (.cells #[.int .i64 fW,.int .i64 fH,.slice A2 n2 c2,.slice A3 n3 c3] 26)) hb); have HSZ:=am_ (below_alloc (Below.refl w.heap.size w) (.cells #[.int .i64 fW,.int .i64 fH,.slice A2 n2 c2,.slice A3 n3 c3] 26)).size; clear hb hS)
  go_ret2
  exact ⟨_,rfl,Kd.S_lower RS.out HSZ.out,HB.out⟩


theorem rising_ext:∀ {l m:List Int},l.Pairwise (· < ·) → m.Pairwise (· < ·) → (∀ x,x ∈ l ↔ x ∈ m) → l = m
  | [],[],_,_,_ => rfl
  | [],b :: m,_,_,h => by have:=(h b).2 List.mem_cons_self; cases this
  | a :: l,[],_,_,h => by have:=(h a).1 List.mem_cons_self; cases this
  | a :: l,b :: m,h1,h2,h => by
    rw [List.pairwise_cons] at h1 h2
    have e:a = b:=by
      rcases List.mem_cons.1 ((h a).1 List.mem_cons_self) with e | e
      · exact e
      · rcases List.mem_cons.1 ((h b).2 List.mem_cons_self) with e2 | e2
        · exact e2.symm
        · have:=h2.1 a e; have:=h1.1 b e2; omega
    subst e
    rw [rising_ext h1.2 h2.2 (fun x => ?_)]
    constructor
    · intro hx
      rcases List.mem_cons.1 ((h x).1 (List.mem_cons_of_mem _ hx)) with e | e
      · have:=h1.1 x hx; omega
      · exact e
    · intro hx
      rcases List.mem_cons.1 ((h x).2 (List.mem_cons_of_mem _ hx)) with e | e
      · have:=h2.1 x hx; omega
      · exact e
theorem pw_rising:∀ {l:List Int},l.Pairwise (· < ·) → risingB l = true
  | [],_ => rfl
  | [a],_ => rfl
  | a :: b :: t,h => by
    rw [List.pairwise_cons] at h
    simp only [risingB,Bool.and_eq_true,decide_eq_true_iff]
    exact ⟨h.1 b List.mem_cons_self,pw_rising h.2⟩
def setL (n:Nat) (p:Nat → Bool):List Int:=((List.range n).filter p).map fun n:Nat => (n:Int)
theorem setL_pw (n:Nat) (p:Nat → Bool):(setL n p).Pairwise (· < ·):=by
  unfold setL
  rw [List.pairwise_map]
  exact (List.Pairwise.filter p List.pairwise_lt_range).imp (fun h => by omega)
theorem setL_mem (n:Nat) (p:Nat → Bool) (x:Int):x ∈ setL n p ↔ ∃ i:Nat,(i:Int) = x ∧ i < n ∧ p i = true:=by
  unfold setL
  rw [List.mem_map]
  constructor
  · rintro ⟨i,hi,rfl⟩
    rw [List.mem_filter,List.mem_range] at hi
    exact ⟨i,rfl,hi⟩
  · rintro ⟨i,rfl,hi⟩
    exact ⟨i,by rw [List.mem_filter,List.mem_range]; exact hi,rfl⟩
theorem setL_len (n:Nat) (p:Nat → Bool):(setL n p).length ≤ n:=by
  unfold setL
  rw [List.length_map]
  have:=List.length_filter_le p (List.range n)
  rw [List.length_range] at this
  exact this
theorem setL_eq {n m:Nat} {p q:Nat → Bool} (h:∀ i,(i < n ∧ p i = true) ↔ (i < m ∧ q i = true)):setL n p = setL m q:=by
  refine rising_ext (setL_pw n p) (setL_pw m q) (fun x => ?_)
  rw [setL_mem,setL_mem]
  constructor
  · rintro ⟨i,hi,h2⟩; exact ⟨i,hi,(h i).1 h2⟩
  · rintro ⟨i,hi,h2⟩; exact ⟨i,hi,(h i).2 h2⟩
theorem setL_in (n:Nat) (p:Nat → Bool) (i:Nat):(i:Int) ∈ setL n p ↔ i < n ∧ p i = true:=by
  rw [setL_mem]
  constructor
  · rintro ⟨j,hj,h⟩
    have:j = i:=by omega
    subst this
    exact h
  · intro h; exact ⟨i,rfl,h⟩
theorem setL_succ (n:Nat) (p:Nat → Bool):setL (n + 1) p = setL n p ++ if p n = true then [(n:Int)] else []:=by
  unfold setL
  rw [List.range_succ,List.filter_append,List.map_append]
  congr 1
  cases h:p n with
  | true => rw [List.filter_cons_of_pos h]; rfl
  | false => rw [List.filter_cons_of_neg (by rw [h]; simp)]; rfl


def rowA (w h:Int) (M:Nat):List Int:=setL (w * (h + 1)).toNat fun i => M.testBit i
def rowU (w h:Int) (M:Nat):List Int:=setL (h * (w + 1)).toNat fun i => M.testBit ((w * (h + 1)).toNat + i)
def figN (w h:Int):Nat:=(w * (h + 1)).toNat + (h * (w + 1)).toNat
theorem figN_le {w h:Int} (g:GridOK w h):figN w h ≤ 40 ∧ (w * (h + 1)).toNat ≤ 20 ∧ (h * (w + 1)).toNat ≤ 20:=by
  obtain ⟨c1,c2,c3,c4⟩:=area_bounds g.w1 g.w4 g.h1 g.h4
  unfold figN
  omega
theorem rowA_len {w h:Int} (g:GridOK w h) (M:Nat):(rowA w h M).length ≤ 20:=Nat.le_trans (setL_len _ _) (figN_le g).2.1
theorem rowU_len {w h:Int} (g:GridOK w h) (M:Nat):(rowU w h M).length ≤ 20:=Nat.le_trans (setL_len _ _) (figN_le g).2.2
theorem pow_figN {w h:Int} (g:GridOK w h) {M:Nat} (hM:M < 2 ^ figN w h):M < 2 ^ 60:=Nat.lt_of_lt_of_le hM (Nat.pow_le_pow_right (by omega) (by have:=(figN_le g).1; omega))
theorem figMask_figN {w h:Int} {a u:List Int} (hf:figB w h a u = true):figMask w h a u < 2 ^ figN w h:=by
  have g:=gridOK_of hf
  obtain ⟨c1,c2,c3,c4⟩:=area_bounds g.w1 g.w4 g.h1 g.h4
  unfold figB at hf
  simp only [Bool.and_eq_true] at hf
  obtain ⟨hg,-,-,hi1,hi2⟩:=hf
  apply Nat.lt_pow_two_of_testBit
  intro i hi
  unfold figN at hi
  unfold figMask
  rw [bitsFrom_test,bitsFrom_test,Nat.zero_testBit,Bool.false_or,Bool.or_eq_false_iff]
  constructor
  · rw [List.any_eq_false]
    intro x hx
    have hb:=inB_mem hi1 x hx
    simp
    omega
  · rw [List.any_eq_false]
    intro x hx
    have hb:=inB_mem hi2 x hx
    simp
    omega
theorem rowA_in {w h:Int} {M i:Nat} (hi:i < (w * (h + 1)).toNat):(i:Int) ∈ rowA w h M ↔ M.testBit i = true:=by
  unfold rowA; rw [setL_in]; exact ⟨fun h => h.2,fun h => ⟨hi,h⟩⟩
theorem rowU_in {w h:Int} {M i:Nat} (hi:i < (h * (w + 1)).toNat):(i:Int) ∈ rowU w h M ↔ M.testBit ((w * (h + 1)).toNat + i) = true:=by
  unfold rowU; rw [setL_in]; exact ⟨fun h => h.2,fun h => ⟨hi,h⟩⟩
theorem rowA_b {w h:Int} {M:Nat}:∀ x ∈ rowA w h M,0 ≤ x ∧ x < ((w * (h + 1)).toNat:Int):=fun x hx => by
  unfold rowA at hx
  rw [setL_mem] at hx
  obtain ⟨i,rfl,hi,-⟩:=hx
  omega
theorem rowU_b {w h:Int} {M:Nat}:∀ x ∈ rowU w h M,0 ≤ x ∧ x < ((h * (w + 1)).toNat:Int):=fun x hx => by
  unfold rowU at hx
  rw [setL_mem] at hx
  obtain ⟨i,rfl,hi,-⟩:=hx
  omega


theorem row_str (c:Int) (d:UInt8) (hc:UInt8.ofNat c.toNat = d) (p q:Nat → Bool) (n:Nat) (h:∀ x,x < n → p x = q x):(strOfNums (rowF c p n)).data.toList = rowL d q n:=by
  rw [strOfNums_data]
  unfold rowF rowL
  rw [List.map_map]
  refine List.map_congr_left (fun x hx => ?_)
  rw [Function.comp_apply,h x (List.mem_range.1 hx)]
  cases q x with
  | true => rw [if_pos rfl,if_pos rfl,hc]
  | false => rw [if_neg (by decide),if_neg (by decide)]; rfl
theorem figRows_text {w h m:Nat} (g:GridOK (w:Int) (h:Int)) (hm:m < 2 ^ 60):∀ y,y ≤ h + 1 → (figRows w h (m:Int) y).map (fun x:ByteArray => x.data.toList) = textRows w h m y:=by
  have w4:w ≤ 4:=by have:=g.w4; omega
  have h4:h ≤ 4:=by have:=g.h4; omega
  have hl:∀ x y:Nat,x < w → y ≤ h → levB w h (m:Int) y x = levP w m y x:=fun x y hx hy => by
    unfold levB levP
    rw [level_f g (Int.natCast_nonneg x) (by omega) (Int.natCast_nonneg y) (by omega),Option.getD_some,← Int.natCast_mul,← Int.natCast_add,Int.toNat_natCast]
    exact and_edgeB hm (small_edge w4 h4 (by omega) hy).1
  have hu:∀ x y:Nat,x < w + 1 → y < h → uprB w h (m:Int) y x = uprP w h m y x:=fun x y hx hy => by
    unfold uprB uprP
    rw [upright_f g (Int.natCast_nonneg x) (by omega) (Int.natCast_nonneg y) (by omega),Option.getD_some]
    rw [show (w:Int) * ((h:Int) + 1) = ((w * (h + 1):Nat):Int) by push_cast; rfl,show (y:Int) * ((w:Int) + 1) + (x:Int) = ((y * (w + 1) + x:Nat):Int) by push_cast; rfl,Int.toNat_natCast,Int.toNat_natCast]
    exact and_edgeB hm (small_edge w4 h4 (by omega) (by omega)).2
  intro y
  induction y with
  | zero => intro _; rfl
  | succ y ih =>
    intro hy
    have ih:=ih (by omega)
    have e1:(levR w h (m:Int) y).data.toList = rowL 45 (levP w m y) w:=row_str 45 45 rfl _ _ w (fun x hx => hl x y hx (by omega))
    unfold figRows textRows
    by_cases hyh:y < h
    · have e2:(uprR w h (m:Int) y).data.toList = rowL 124 (uprP w h m y) (w + 1):=row_str 124 124 rfl _ _ (w + 1) (fun x hx => hu x y hx hyh)
      rw [if_pos hyh,if_pos hyh,List.map_append,List.map_append,ih,List.map_cons,List.map_cons,List.map_nil,e1,e2]
    · rw [if_neg hyh,if_neg hyh,List.map_append,ih,List.map_cons,List.map_nil,e1]
theorem figureText_f {w h:Nat} {a u:List Int} (hf:figB (w:Int) (h:Int) a u = true) (ha:a.length ≤ 1000000) (hu:u.length ≤ 1000000) (k:Nat) (hk:2000010 < k):impl_figureText.f k (w:Int) (h:Int) a u = some (figText w h (figMask (w:Int) (h:Int) a u)):=by
  have g:=gridOK_of hf
  unfold impl_figureText.f
  rw [set_f hf ha hu k hk,Option.bind_some,if_pos ⟨⟨g.w1,g.w4⟩,g.h1,g.h4⟩,Int.toNat_natCast,Int.toNat_natCast]
  unfold joinB figText BA
  rw [figRows_text g (figMask_lt hf) (h + 1) (Nat.le_refl _)]


theorem figB_rows {w h:Int} (g:GridOK w h) (M:Nat):figB w h (rowA w h M) (rowU w h M) = true:=by
  obtain ⟨c1,c2,c3,c4⟩:=area_bounds g.w1 g.w4 g.h1 g.h4
  have w1:=g.w1
  have w4:=g.w4
  have h1:=g.h1
  have h4:=g.h4
  unfold figB
  simp only [Bool.and_eq_true,decide_eq_true_eq]
  refine ⟨⟨⟨⟨w1,w4⟩,h1⟩,h4⟩,pw_rising (setL_pw _ _),pw_rising (setL_pw _ _),?_,?_⟩
  · unfold inB
    rw [List.all_eq_true]
    intro x hx
    have:=rowA_b x hx
    simp only [Bool.and_eq_true,decide_eq_true_eq]
    omega
  · unfold inB
    rw [List.all_eq_true]
    intro x hx
    have:=rowU_b x hx
    simp only [Bool.and_eq_true,decide_eq_true_eq]
    omega
theorem figMask_rows {w h:Int} (g:GridOK w h) {M:Nat} (hM:M < 2 ^ figN w h):figMask w h (rowA w h M) (rowU w h M) = M:=by
  have hf:=figB_rows g M
  obtain ⟨c1,c2,c3,c4⟩:=area_bounds g.w1 g.w4 g.h1 g.h4
  have hm:=figMask_figN hf
  apply Nat.eq_of_testBit_eq
  intro i
  rcases Nat.lt_or_ge i (w * (h + 1)).toNat with hi | hi
  · rw [figMask_level hf i (by omega)]
    rw [Bool.eq_iff_iff,decide_eq_true_iff]
    exact rowA_in hi
  · rcases Nat.lt_or_ge i (figN w h) with hi2 | hi2
    · obtain ⟨j,rfl⟩:∃ j,i = (w * (h + 1)).toNat + j:=⟨i - (w * (h + 1)).toNat,by omega⟩
      rw [figMask_upright hf j]
      rw [Bool.eq_iff_iff,decide_eq_true_iff]
      exact rowU_in (by unfold figN at hi2; omega)
    · rw [Nat.testBit_lt_two_pow (Nat.lt_of_lt_of_le hm (Nat.pow_le_pow_right (by omega) hi2)),Nat.testBit_lt_two_pow (Nat.lt_of_lt_of_le hM (Nat.pow_le_pow_right (by omega) hi2))]

end Go.Proofs.YtehjfaddhmdicaaGreatDoor.P
namespace Go.Proofs.YtehjfaddhmdicaaGreatDoor.P
open Go.RowKit Go.Proofs.YtehjfaddhmdicaaGreatDoorW.PrintWords Go.Proofs.YtehjfaddhmdicaaGreatDoorW.PrintLast Go.Proofs.YtehjfaddhmdicaaGreatDoorW.PrintMore
attribute [local go_sem] max2_int min2_int max_two min_two max_three min_three max_four min_four   -- for this text's walks alone
set_option linter.unusedVariables false
set_option linter.unusedSimpArgs false

section
variable {w h:Nat} {a u:List Int}
theorem ft_l1 (g:GridOK (w:Int) (h:Int)) (hf:figB (w:Int) (h:Int) a u = true) (ha:a.length ≤ 1000000) (hu:u.length ≤ 1000000) (T:List UInt8) (hT:T.length ≤ 1000) (y:Nat) (hy:y ≤ h):∀ (d k x:Nat),w - x = d → x ≤ w → d + 1000001 < k →
  ∃ k',k ≤ k' + (d + 1) ∧ spec_fiText.l1 k (BA (T ++ rowL 45 (levP w (figMask (w:Int) (h:Int) a u) y) x)) (y:Int) (x:Int) (w:Int) (h:Int) a u = if y = h then some (BA (T ++ rowL 45 (levP w (figMask (w:Int) (h:Int) a u) y) w)) else spec_fiText.l2 k' (BA (T ++ rowL 45 (levP w (figMask (w:Int) (h:Int) a u) y) w ++ [47])) (y:Int) 0 (w:Int) (h:Int) a u:=by
 have w4:w ≤ 4:=by have:=g.w4; omega
 intro d
 induction d with
 | zero =>
  intro k x h1 h2 h3
  obtain ⟨k,rfl⟩:∃ q,k = q + 1:=⟨k - 1,by omega⟩
  have:x = w:=by omega
  subst this
  refine ⟨k,by omega,?_⟩
  have hs:(BA (T ++ rowL 45 (levP x (figMask (x:Int) (h:Int) a u) y) x)).size + 1 ≤ 9223372036854775807:=by rw [BA_size,List.length_append,rowL_len]; omega
  rw [spec_fiText.l1,if_neg (Int.lt_irrefl _)]
  by_cases hyh:y = h
  ·rw [if_pos (by omega),if_pos hyh]
  ·rw [if_neg (by omega),if_neg hyh,if_pos hs,BA_add]
 | succ d ih =>
  intro k x h1 h2 h3
  obtain ⟨k,rfl⟩:∃ q,k = q + 1:=⟨k - 1,by omega⟩
  obtain ⟨k',p1,p2⟩:=ih k (x + 1) (by omega) (by omega) (by omega)
  have hk0:1000000 < k:=by omega
  have hkk:k + 1 ≤ k' + (d + 1 + 1):=by omega
  have hx9:x < 10:=by omega
  have hT9:(T.length + x) + 1 ≤ 9223372036854775807:=by omega
  have hxw:(x:Int) < (w:Int):=Int.ofNat_lt.2 (by omega)
  have hyh:(y:Int) ≤ (h:Int):=Int.ofNat_le.2 hy
  clear h1 h2 h3 p1 ih
  have hfi:=fiHas_level g hf ha k hk0 (x:Int) (y:Int) (Int.natCast_nonneg _) hxw (Int.natCast_nonneg _) hyh
  rw [← Int.natCast_mul,← Int.natCast_add,Int.toNat_natCast] at hfi
  have e1:wrap64 ((x:Int) + 1) = ((x + 1:Nat):Int):=by clear hfi p2; unfold wrap64; omega
  refine ⟨k',hkk,?_⟩
  have hs:(BA (T ++ rowL 45 (levP w (figMask (w:Int) (h:Int) a u) y) x)).size + 1 ≤ 9223372036854775807:=by rw [BA_size,List.length_append,rowL_len]; exact hT9
  rw [spec_fiText.l1,if_pos hxw,hfi,Option.bind_some,e1,← p2,rowL_succ]
  by_cases hb:(figMask (w:Int) (h:Int) a u).testBit (y * w + x) = true
  ·have hb2:levP w (figMask (w:Int) (h:Int) a u) y x = true:=hb
   rw [if_pos hb,if_pos hs,if_pos hb2,BA_add,List.append_assoc]
  ·have hb2:¬ levP w (figMask (w:Int) (h:Int) a u) y x = true:=hb
   rw [if_neg hb,if_pos hs,if_neg hb2,BA_add,List.append_assoc]
theorem ft_l2 (g:GridOK (w:Int) (h:Int)) (hf:figB (w:Int) (h:Int) a u = true) (ha:a.length ≤ 1000000) (hu:u.length ≤ 1000000) (T:List UInt8) (hT:T.length ≤ 1000) (y:Nat) (hy:y < h):∀ (d k x:Nat),w + 1 - x = d → x ≤ w + 1 → d + 1000001 < k →
  ∃ k',k ≤ k' + (d + 1) ∧ spec_fiText.l2 k (BA (T ++ rowL 124 (uprP w h (figMask (w:Int) (h:Int) a u) y) x)) (y:Int) (x:Int) (w:Int) (h:Int) a u = spec_fiText.l0 k' (BA (T ++ rowL 124 (uprP w h (figMask (w:Int) (h:Int) a u) y) (w + 1))) ((y + 1:Nat):Int) (w:Int) (h:Int) a u:=by
 have w4:w ≤ 4:=by have:=g.w4; omega
 have h4:h ≤ 4:=by have:=g.h4; omega
 intro d
 induction d with
 | zero =>
  intro k x h1 h2 h3
  obtain ⟨k,rfl⟩:∃ q,k = q + 1:=⟨k - 1,by omega⟩
  have:x = w + 1:=by omega
  subst this
  have e1:wrap64 ((y:Int) + 1) = ((y + 1:Nat):Int):=by unfold wrap64; omega
  refine ⟨k,by omega,?_⟩
  rw [spec_fiText.l2,if_neg (by omega),e1]
 | succ d ih =>
  intro k x h1 h2 h3
  obtain ⟨k,rfl⟩:∃ q,k = q + 1:=⟨k - 1,by omega⟩
  obtain ⟨k',p1,p2⟩:=ih k (x + 1) (by omega) (by omega) (by omega)
  have hk0:1000000 < k:=by omega
  have hkk:k + 1 ≤ k' + (d + 1 + 1):=by omega
  have hx9:x < 10:=by omega
  have hT9:(T.length + x) + 1 ≤ 9223372036854775807:=by omega
  have hxw:(x:Int) ≤ (w:Int):=Int.ofNat_le.2 (by omega)
  have hyh:(y:Int) < (h:Int):=Int.ofNat_lt.2 hy
  clear h1 h2 h3 p1 ih
  have hfi:=fiHas_upright g hf hu k hk0 (x:Int) (y:Int) (Int.natCast_nonneg _) hxw (Int.natCast_nonneg _) hyh
  rw [show (w:Int) * ((h:Int) + 1) = ((w * (h + 1):Nat):Int) by push_cast; rfl,show (y:Int) * ((w:Int) + 1) + (x:Int) = ((y * (w + 1) + x:Nat):Int) by push_cast; rfl,Int.toNat_natCast,Int.toNat_natCast] at hfi
  have e1:wrap64 ((x:Int) + 1) = ((x + 1:Nat):Int):=by clear hfi p2; unfold wrap64; omega
  refine ⟨k',hkk,?_⟩
  have hs:(BA (T ++ rowL 124 (uprP w h (figMask (w:Int) (h:Int) a u) y) x)).size + 1 ≤ 9223372036854775807:=by rw [BA_size,List.length_append,rowL_len]; exact hT9
  rw [spec_fiText.l2,if_pos hxw,hfi,Option.bind_some,e1,← p2,rowL_succ]
  by_cases hb:(figMask (w:Int) (h:Int) a u).testBit (w * (h + 1) + (y * (w + 1) + x)) = true
  ·have hb2:uprP w h (figMask (w:Int) (h:Int) a u) y x = true:=hb
   rw [if_pos hb,if_pos hs,if_pos hb2,BA_add,List.append_assoc]
  ·have hb2:¬ uprP w h (figMask (w:Int) (h:Int) a u) y x = true:=hb
   rw [if_neg hb,if_pos hs,if_neg hb2,BA_add,List.append_assoc]
theorem ft_step (g:GridOK (w:Int) (h:Int)) (hf:figB (w:Int) (h:Int) a u = true) (ha:a.length ≤ 1000000) (hu:u.length ≤ 1000000) (k y:Nat) (hy:y ≤ h) (hk:40 * (h - y) + 1000040 < k) (R:ByteArray)
  (hR:R = BA (Lib.join (textRows w h (figMask (w:Int) (h:Int) a u) (h + 1)) [47]))
  (next:y < h → ∀ k',40 * (h - (y + 1)) + 1000040 < k' → spec_fiText.l0 k' (BA (Lib.join (textRows w h (figMask (w:Int) (h:Int) a u) (y + 1)) [47])) ((y + 1:Nat):Int) (w:Int) (h:Int) a u = some R) :
  spec_fiText.l0 k (BA (Lib.join (textRows w h (figMask (w:Int) (h:Int) a u) y) [47])) (y:Int) (w:Int) (h:Int) a u = some R:=by
 have w4:w ≤ 4:=by have:=g.w4; omega
 have h4:h ≤ 4:=by have:=g.h4; omega
 have h1:1 ≤ h:=by have:=g.h1; omega
 obtain ⟨k,rfl⟩:∃ q,k = q + 2:=⟨k - 2,by omega⟩
 have hrl:=textRows_len w h (figMask (w:Int) (h:Int) a u) y hy
 have hjl:=join_len [47] 5 (textRows w h (figMask (w:Int) (h:Int) a u) y) (fun x hx => Nat.le_trans (textRows_size w h (figMask (w:Int) (h:Int) a u) y x hx) (by omega))
 rw [hrl] at hjl
 have hne:0 < y → textRows w h (figMask (w:Int) (h:Int) a u) y ≠ []:=fun hy0 e => by rw [e] at hrl; simp at hrl; omega
 -- the text ahead of the row
 obtain ⟨T,hT1,hT2,hT3⟩:∃ T:List UInt8,T.length ≤ 1000 ∧ (∀ x:List UInt8,Lib.join (textRows w h (figMask (w:Int) (h:Int) a u) y ++ [x]) [47] = T ++ x) ∧ spec_fiText.l0 (k + 2) (BA (Lib.join (textRows w h (figMask (w:Int) (h:Int) a u) y) [47])) (y:Int) (w:Int) (h:Int) a u = spec_fiText.l1 k (BA T) (y:Int) 0 (w:Int) (h:Int) a u:=by
  have hyh:(y:Int) ≤ (h:Int):=Int.ofNat_le.2 hy
  by_cases hy0:0 < y
  ·refine ⟨Lib.join (textRows w h (figMask (w:Int) (h:Int) a u) y) [47] ++ [47],?_,fun x => join_snoc _ x [47] (hne hy0),?_⟩
   ·rw [List.length_append,List.length_singleton]
    simp only [List.length_singleton] at hjl
    omega
   ·have hy2:(y:Int) > 0:=by omega
    have hs:(BA (Lib.join (textRows w h (figMask (w:Int) (h:Int) a u) y) [47])).size + 1 ≤ 9223372036854775807:=by
     rw [BA_size]
     simp only [List.length_singleton] at hjl
     omega
    rw [spec_fiText.l0,if_pos hyh,if_pos hy2,if_pos hs,spec_fiText.j1,BA_add]
  ·obtain rfl:y = 0:=by omega
   refine ⟨[],Nat.zero_le _,fun x => ?_,?_⟩
   ·show Lib.join [x] [47] = x
    exact Lib.join_one x [47]
   ·rw [spec_fiText.l0,if_pos hyh,if_neg (by decide),spec_fiText.j1]
    rfl
 rw [hT3]
 obtain ⟨k1,p1,p2⟩:=ft_l1 g hf ha hu T hT1 y hy w k 0 (Nat.sub_zero _) (Nat.zero_le _) (by omega)
 rw [show rowL 45 (levP w (figMask (w:Int) (h:Int) a u) y) 0 = [] from rfl,List.append_nil] at p2
 refine p2.trans ?_
 by_cases hyh:y = h
 ·rw [if_pos hyh,hR]
  subst hyh
  rw [show textRows w y (figMask (w:Int) (y:Int) a u) (y + 1) = textRows w y (figMask (w:Int) (y:Int) a u) y ++ [rowL 45 (levP w (figMask (w:Int) (y:Int) a u) y) w] by rw [textRows,if_neg (Nat.lt_irrefl _)],hT2]
 ·rw [if_neg hyh]
  have hlt:y < h:=by omega
  have hL:(rowL 45 (levP w (figMask (w:Int) (h:Int) a u) y) w).length = w:=rowL_len _ _ _
  simp only [List.length_singleton] at hjl
  have hT1':T.length ≤ 900:=by
   have e:=hT2 []
   rw [List.append_nil] at e
   have hq:=join_len [47] 5 (textRows w h (figMask (w:Int) (h:Int) a u) y ++ [[]]) (fun x hx => by
    rcases List.mem_append.1 hx with hx | hx
    ·exact Nat.le_trans (textRows_size w h (figMask (w:Int) (h:Int) a u) y x hx) (by omega)
    ·rw [List.mem_singleton.1 hx]; exact Nat.zero_le _)
   rw [e,List.length_append,hrl,List.length_singleton,List.length_singleton] at hq
   omega
  obtain ⟨k2,q1,q2⟩:=ft_l2 g hf ha hu (T ++ rowL 45 (levP w (figMask (w:Int) (h:Int) a u) y) w ++ [47]) (by rw [List.length_append,List.length_append,hL,List.length_singleton]; omega) y hlt (w + 1) k1 0 (Nat.sub_zero _) (Nat.zero_le _) (by omega)
  rw [show rowL 124 (uprP w h (figMask (w:Int) (h:Int) a u) y) 0 = [] from rfl,List.append_nil] at q2
  refine q2.trans ?_
  have n:=next hlt k2 (by omega)
  rw [show textRows w h (figMask (w:Int) (h:Int) a u) (y + 1) = (textRows w h (figMask (w:Int) (h:Int) a u) y ++ [rowL 45 (levP w (figMask (w:Int) (h:Int) a u) y) w]) ++ [rowL 124 (uprP w h (figMask (w:Int) (h:Int) a u) y) (w + 1)] by rw [textRows,if_pos hlt],join_snoc _ _ _ (by simp),hT2] at n
  exact n
theorem ft_l0 (g:GridOK (w:Int) (h:Int)) (hf:figB (w:Int) (h:Int) a u = true) (ha:a.length ≤ 1000000) (hu:u.length ≤ 1000000):∀ (d k y:Nat),h - y = d → y ≤ h → 40 * d + 1000040 < k →
  spec_fiText.l0 k (BA (Lib.join (textRows w h (figMask (w:Int) (h:Int) a u) y) [47])) (y:Int) (w:Int) (h:Int) a u = some (BA (Lib.join (textRows w h (figMask (w:Int) (h:Int) a u) (h + 1)) [47])):=by
 intro d
 induction d with
 | zero =>
  intro k y h1 h2 h3
  exact ft_step g hf ha hu k y h2 (by omega) _ rfl (fun hy => absurd hy (by omega))
 | succ d ih =>
  intro k y h1 h2 h3
  exact ft_step g hf ha hu k y h2 (by omega) _ rfl (fun hy k' hk' => ih k' (y + 1) (by omega) (by omega) (by omega))
end
theorem fiText_f {w h:Nat} {a u:List Int} (hf:figB (w:Int) (h:Int) a u = true) (ha:a.length ≤ 1000000) (hu:u.length ≤ 1000000) (k:Nat) (hk:1001000 < k):spec_fiText.f k (w:Int) (h:Int) a u = some (figText w h (figMask (w:Int) (h:Int) a u)):=by
 have g:=gridOK_of hf
 have h4:h ≤ 4:=by have:=g.h4; omega
 exact ft_l0 g hf ha hu h k 0 (Nat.sub_zero _) (Nat.zero_le _) (by omega)

end Go.Proofs.YtehjfaddhmdicaaGreatDoor.P
namespace Go.Proofs.YtehjfaddhmdicaaGreatDoor.P
open Go.RowKit Go.Proofs.YtehjfaddhmdicaaGreatDoorW.PrintWords Go.Proofs.YtehjfaddhmdicaaGreatDoorW.PrintLast Go.Proofs.YtehjfaddhmdicaaGreatDoorW.PrintMore
attribute [local go_sem] max2_int min2_int max_two min_two max_three min_three max_four min_four   -- for this text's walks alone
set_option linter.unusedVariables false
set_option linter.unusedSimpArgs false

def figM (w h:Int) (m:Nat):S26:=⟨w,h,rowA w h m,rowU w h m⟩
theorem ba_ext {a b:ByteArray} (h:a.data.toList = b.data.toList):a = b:=by
  obtain ⟨⟨l⟩⟩:=a
  obtain ⟨⟨m⟩⟩:=b
  have h':l = m:=h
  rw [h']
theorem figT_f {w h m:Nat} (g:GridOK (w:Int) (h:Int)) (hm:m < 2 ^ figN w h) (k:Nat) (hk:2000010 < k) :
    spec_fiText.f k (w:Int) (h:Int) (rowA w h m) (rowU w h m) = some (figText w h m) ∧ impl_figureText.f k (w:Int) (h:Int) (rowA w h m) (rowU w h m) = some (figText w h m):=by
  have hb:=figB_rows g m
  have hl1:=rowA_len g m
  have hl2:=rowU_len g m
  have e:=figMask_rows g hm
  have h1:=fiText_f hb (by omega) (by omega) k (by omega)
  have h2:=figureText_f hb (by omega) (by omega) k hk
  rw [e] at h1 h2
  exact ⟨h1,h2⟩
end Go.Proofs.YtehjfaddhmdicaaGreatDoor.P
namespace Go.Proofs.YtehjfaddhmdicaaGreatDoor.P
open Go.RowKit Go.Proofs.YtehjfaddhmdicaaGreatDoorW.PrintWords Go.Proofs.YtehjfaddhmdicaaGreatDoorW.PrintLast Go.Proofs.YtehjfaddhmdicaaGreatDoorW.PrintMore
attribute [local go_sem] max2_int min2_int max_two min_two max_three min_three max_four min_four   -- for this text's walks alone
set_option linter.unusedVariables false
set_option linter.unusedSimpArgs false

theorem levels_f {w h:Int} (g:GridOK w h):impl_grid_levels.f w h = some (((w * (h + 1)).toNat:Nat):Int):=by
  obtain ⟨c1,c2,c3,c4⟩:=area_bounds g.w1 g.w4 g.h1 g.h4
  have w1:=g.w1
  have w4:=g.w4
  have h1:=g.h1
  have h4:=g.h4
  have e1:wrap64 (h + 1) = h + 1:=by unfold wrap64; omega
  have e2:wrap64 (w * (h + 1)) = (((w * (h + 1)).toNat:Nat):Int):=by unfold wrap64; omega
  unfold impl_grid_levels.f
  rw [e1,e2]
theorem listed_setL {s:Nat} (hs:s < 2 ^ 60):impl_set_listed.f (s:Int) = some (setL 64 fun i => s.testBit i):=by
  unfold impl_set_listed.f
  have h2:(2:Nat) ^ 60 = 1152921504606846976:=by decide
  rw [if_pos ⟨Int.natCast_nonneg _,by omega⟩,Int.toNat_natCast]
  rfl
theorem figure_f {w h:Int} (g:GridOK w h) {M:Nat} (hM:M < 2 ^ figN w h):impl_grid_figure.f w h (M:Int) = some (w,h,rowA w h M,rowU w h M):=by
  have hM60:=pow_figN g hM
  obtain ⟨b1,b2,b3⟩:=figN_le g
  unfold impl_grid_figure.f
  rw [levels_f g,Option.bind_some,if_pos (Int.natCast_nonneg _),shl_u64 _ (by omega)]
  unfold rowA rowU
  unfold figN at hM
  generalize (w * (h + 1)).toNat = A at *
  generalize (h * (w + 1)).toNat = U at *
  have hp:=Nat.two_pow_pos A
  have hA:2 ^ A < 2 ^ 60:=pow_lt60 (by omega)
  have hA2:2 ^ A - 1 < 2 ^ 60:=by omega
  have e1:IntKind.u64.wrap (((2 ^ A:Nat):Int) - 1) = ((2 ^ A - 1:Nat):Int):=by
    have:((2 ^ A:Nat):Int) - 1 = ((2 ^ A - 1:Nat):Int):=by omega
    rw [this]
    exact u64_small _ (Int.natCast_nonneg _) (by
      have h2:(2:Nat) ^ 60 = 1152921504606846976:=by decide
      have h3:(2:Int) ^ 60 = 1152921504606846976:=by decide
      rw [h3]; omega)
  have e2:shr .u64 (M:Int) (A:Int) = ((M >>> A:Nat):Int):=by
    unfold shr
    rw [Int.toNat_natCast,Nat.min_eq_left (show A ≤ IntKind.u64.bits by have:IntKind.u64.bits = 64:=rfl; omega),Nat.shiftRight_eq_div_pow]
    exact_mod_cast rfl
  have hs:M >>> A < 2 ^ 60:=Nat.lt_of_le_of_lt (by rw [Nat.shiftRight_eq_div_pow]; exact Nat.div_le_self _ _) hM60
  rw [e1,and_u64 _ _ hM60 hA2,listed_setL (Nat.lt_of_le_of_lt Nat.and_le_left hM60),Option.bind_some,Option.bind_some,if_pos (Int.natCast_nonneg _),e2,listed_setL hs,Option.bind_some]
  have r1:setL 64 (fun i => (M &&& (2 ^ A - 1)).testBit i) = setL A fun i => M.testBit i:=setL_eq fun i => by
    rw [Nat.testBit_and,Nat.testBit_two_pow_sub_one]
    by_cases hi:i < A
    · simp [hi]; omega
    · simp [hi]
  have r2:setL 64 (fun i => (M >>> A).testBit i) = setL U fun i => M.testBit (A + i):=setL_eq fun i => by
    rw [Nat.testBit_shiftRight]
    constructor
    · rintro ⟨h1,h2⟩
      refine ⟨?_,h2⟩
      rcases Nat.lt_or_ge i U with h3 | h3
      · exact h3
      · rw [Nat.testBit_lt_two_pow (Nat.lt_of_lt_of_le hM (Nat.pow_le_pow_right (by omega) (by omega)))] at h2
        cases h2
    · rintro ⟨h1,h2⟩; exact ⟨by omega,h2⟩
  rw [r1,r2]


theorem bit_and_i64 {M e:Nat} (hM:M < 2 ^ 60) (he:e < 60):(Go.bits .and .i64 (M:Int) ((2 ^ e:Nat):Int) = 0) ↔ M.testBit e = false:=by
  have h:=and_two e M
  rw [Nat.and_comm] at h
  rw [and_i64 _ _ hM (pow_lt60 he),h]
  have hp:=Nat.two_pow_pos e
  cases M.testBit e with
  | false => exact ⟨fun _ => rfl,fun _ => rfl⟩
  | true =>
    rw [if_pos rfl]
    constructor
    · intro h; omega
    · intro h; cases h
theorem step60 {A U i:Nat} (hA:A ≤ 20) (hU:U ≤ 20) (hi:i ≤ U):A + i < 60:=by omega
theorem step60' {A i:Nat} (hA:A ≤ 20) (hi:i ≤ A):i < 60:=by omega
theorem sqFigure_l1 {w h:Int} (g:GridOK w h) {M:Nat} (hM:M < 2 ^ 60) (z0 z1:Int) (z2:List Int):∀ (d k i:Nat),(h * (w + 1)).toNat - i = d → i ≤ (h * (w + 1)).toNat → d < k →
    spec_sqFigure.l1 k w h (M:Int) (i:Int) z0 z1 z2 (setL i fun i => M.testBit ((w * (h + 1)).toNat + i)) = some (z0,z1,z2,rowU w h M):=by
  obtain ⟨c1,c2,c3,c4⟩:=area_bounds g.w1 g.w4 g.h1 g.h4
  have HM:=am_ hM
  clear hM
  have w1:=g.w1
  have w4:=g.w4
  have h1:=g.h1
  have h4:=g.h4
  have E3:Aside0 (wrap64 (w * wrap64 (h + 1)) = w * (h + 1)):=⟨by
    have e1:wrap64 (h + 1) = h + 1:=by unfold wrap64; omega
    rw [e1]; unfold wrap64; omega⟩
  have E4:Aside0 (wrap64 (wrap64 (w + 1) * h) = (((h * (w + 1)).toNat:Nat):Int)):=⟨by
    have e2:wrap64 (w + 1) = w + 1:=by unfold wrap64; omega
    rw [e2,Int.mul_comm]; unfold wrap64; omega⟩
  intro d
  induction d with
  | zero =>
    intro k i q1 q2 q3
    obtain ⟨k,rfl⟩:∃ m,k = m + 1:=⟨k - 1,by omega⟩
    obtain rfl:i = (h * (w + 1)).toNat:=by omega
    simp only [spec_sqFigure.l1]
    rw [E4.out,if_neg (by omega)]
    rfl
  | succ d ih =>
    intro k i q1 q2 q3
    obtain ⟨k,rfl⟩:∃ m,k = m + 1:=⟨k - 1,by omega⟩
    have e5:wrap64 ((i:Int) + 1) = ((i + 1:Nat):Int):=by unfold wrap64; omega
    have hl:=setL_len i fun i => M.testBit ((w * (h + 1)).toNat + i)
    have hs:=setL_succ i fun i => M.testBit ((w * (h + 1)).toNat + i)
    have hb:=am_ (bit_and_i64 HM.out (e:=(w * (h + 1)).toNat + i) (step60 (figN_le g).2.1 (figN_le g).2.2 q2))
    simp only [spec_sqFigure.l1]
    rw [E4.out,if_pos (by omega),sqBit_f w h true i E3.out (by omega) (by omega) (by omega),Option.bind_some,if_pos rfl,e5]
    cases ht:M.testBit ((w * (h + 1)).toNat + i) with
    | false =>
      rw [if_pos (hb.out.2 ht)]
      rw [ht,if_neg (by simp),List.append_nil] at hs
      rw [← hs]
      exact ih k (i + 1) (by omega) (by omega) (by omega)
    | true =>
      rw [if_neg (fun h => by rw [hb.out.1 h] at ht; cases ht),if_pos (by omega)]
      rw [ht,if_pos rfl] at hs
      rw [← hs]
      exact ih k (i + 1) (by omega) (by omega) (by omega)
theorem sqFigure_l0 {w h:Int} (g:GridOK w h) {M:Nat} (hM:M < 2 ^ 60) (z0 z1:Int):∀ (d k i:Nat),(w * (h + 1)).toNat - i = d → i ≤ (w * (h + 1)).toNat → d + 30 < k →
    spec_sqFigure.l0 k w h (M:Int) (i:Int) z0 z1 (setL i fun i => M.testBit i) = some (z0,z1,rowA w h M,rowU w h M):=by
  obtain ⟨c1,c2,c3,c4⟩:=area_bounds g.w1 g.w4 g.h1 g.h4
  have HM:=am_ hM
  clear hM
  have w1:=g.w1
  have w4:=g.w4
  have h1:=g.h1
  have h4:=g.h4
  have E3:Aside0 (wrap64 (w * wrap64 (h + 1)) = w * (h + 1)):=⟨by
    have e1:wrap64 (h + 1) = h + 1:=by unfold wrap64; omega
    rw [e1]; unfold wrap64; omega⟩
  have E4:Aside0 (wrap64 (w * wrap64 (h + 1)) = (((w * (h + 1)).toNat:Nat):Int)):=⟨by rw [E3.out]; omega⟩
  intro d
  induction d with
  | zero =>
    intro k i q1 q2 q3
    obtain ⟨k,rfl⟩:∃ m,k = m + 1:=⟨k - 1,by omega⟩
    obtain rfl:i = (w * (h + 1)).toNat:=by omega
    simp only [spec_sqFigure.l0]
    rw [E4.out,if_neg (by omega)]
    exact sqFigure_l1 g HM.out z0 z1 _ _ k 0 rfl (by omega) (by omega)
  | succ d ih =>
    intro k i q1 q2 q3
    obtain ⟨k,rfl⟩:∃ m,k = m + 1:=⟨k - 1,by omega⟩
    have e5:wrap64 ((i:Int) + 1) = ((i + 1:Nat):Int):=by unfold wrap64; omega
    have hl:=setL_len i fun i => M.testBit i
    have hs:=setL_succ i fun i => M.testBit i
    have hb:=am_ (bit_and_i64 HM.out (e:=i) (step60' (figN_le g).2.1 q2))
    simp only [spec_sqFigure.l0]
    rw [E4.out,if_pos (by omega),sqBit_f w h false i E3.out (by omega) (by omega) (by omega),Option.bind_some,if_neg (show ¬ (false = true) by decide),Nat.zero_add,e5]
    cases ht:M.testBit i with
    | false =>
      rw [if_pos (hb.out.2 ht)]
      rw [ht,if_neg (by simp),List.append_nil] at hs
      rw [← hs]
      exact ih k (i + 1) (by omega) (by omega) (by omega)
    | true =>
      rw [if_neg (fun h => by rw [hb.out.1 h] at ht; cases ht),if_pos (by omega)]
      rw [ht,if_pos rfl] at hs
      rw [← hs]
      exact ih k (i + 1) (by omega) (by omega) (by omega)
theorem sqFigure_f {w h:Int} (g:GridOK w h) {M:Nat} (hM:M < 2 ^ 60) (k:Nat) (hk:60 < k):spec_sqFigure.f k w h (M:Int) = some (w,h,rowA w h M,rowU w h M):=by
  obtain ⟨b1,b2,b3⟩:=figN_le g
  unfold spec_sqFigure.f
  exact sqFigure_l0 g hM w h _ k 0 rfl (by omega) (by omega)


mutual
def spec_moFirst.j0:Nat → Int → Int → Bool → Bool → Int → Int → List Int → List Int → Option (Int × Int × List Int × List Int × Bool)
  | 0,_,_,_,_,_,_,_,_ => none
  | k + 1,x1,x2,x3,x25,x184000,x184001,x184002,x184003 => if x25 = true then (some (0,0,([]:List Int),([]:List Int),false)) else ((spec_moThose.f k x184000 x184001 x184002 x184003 x1 x2 x3 true).bind fun t188 => (spec_moFirst.l0 k (⟨#[]⟩:ByteArray) t188 (t188.length:Int) 0 x184000 x184001 x184002 x184003 0 0 ([]:List Int) ([]:List Int)))
def spec_moFirst.l0:Nat → ByteArray → List Int → Int → Int → Int → Int → List Int → List Int → Int → Int → List Int → List Int → Option (Int × Int × List Int × List Int × Bool)
  | 0,_,_,_,_,_,_,_,_,_,_,_,_ => none
  | k + 1,x11,x32,x33,x34,x184000,x184001,x184002,x184003,x188000,x188001,x188002,x188003 => if x34 < x33 then (if 0 ≤ x34 then (if x34 < (x32.length:Int) then ((spec_sqFigure.f k x184000 x184001 (rd x32 x34)).bind fun bt192 => ((spec_fiText.f k bt192.1 bt192.2.1 bt192.2.2.1 bt192.2.2.2).bind fun t201 => (if x11.toList = ([]:List UInt8) then (spec_moFirst.l0 k t201 x32 x33 (wrap64 (x34 + 1)) x184000 x184001 x184002 x184003 bt192.1 bt192.2.1 bt192.2.2.1 bt192.2.2.2) else (if (Op.bytesLess t201.toList x11.toList) = true then (spec_moFirst.l0 k t201 x32 x33 (wrap64 (x34 + 1)) x184000 x184001 x184002 x184003 bt192.1 bt192.2.1 bt192.2.2.1 bt192.2.2.2) else (spec_moFirst.l0 k x11 x32 x33 (wrap64 (x34 + 1)) x184000 x184001 x184002 x184003 x188000 x188001 x188002 x188003))))) else (none)) else (none)) else (some (x188000,x188001,x188002,x188003,(x11.toList != ([]:List UInt8))))
end
def spec_moFirst.f (k:Nat) (a0_0:Int) (a0_1:Int) (l0_2:List Int) (l0_3:List Int) (a1:Int) (a2:Int) (a3:Bool):Option (Int × Int × List Int × List Int × Bool):=(spec_moAsked.f k a0_0 a0_1 l0_2 l0_3 a1 a3).bind fun t185 => (if t185 = true then ((spec_moSquares.f a2).bind fun t186 => (spec_moFirst.j0 k a1 a2 a3 (!t186) a0_0 a0_1 l0_2 l0_3)) else (spec_moFirst.j0 k a1 a2 a3 true a0_0 a0_1 l0_2 l0_3))
theorem spec_moFirst.mono_l:∀ k,(∀ y0 y1 y2 y3 y4 y5 y6 y7,LeO (spec_moFirst.j0 k y0 y1 y2 y3 y4 y5 y6 y7) (spec_moFirst.j0 (k + 1) y0 y1 y2 y3 y4 y5 y6 y7)) ∧ (∀ y0 y1 y2 y3 y4 y5 y6 y7 y8 y9 y10 y11,LeO (spec_moFirst.l0 k y0 y1 y2 y3 y4 y5 y6 y7 y8 y9 y10 y11) (spec_moFirst.l0 (k + 1) y0 y1 y2 y3 y4 y5 y6 y7 y8 y9 y10 y11))
  | 0 => ⟨fun _ _ _ _ _ _ _ _ r h => by simp [spec_moFirst.j0] at h,fun _ _ _ _ _ _ _ _ _ _ _ _ r h => by simp [spec_moFirst.l0] at h⟩
  | k + 1 => by
    obtain ⟨ih0,ih1⟩:=spec_moFirst.mono_l k
    refine ⟨?_,?_⟩
    · intro y0 y1 y2 y3 y4 y5 y6 y7
      unfold spec_moFirst.j0
      repeat' first | (with_reducible first | exact ih0 _ _ _ _ _ _ _ _ | exact ih1 _ _ _ _ _ _ _ _ _ _ _ _ | exact spec_fiText.mono _ _ _ _ _ | exact spec_moAsked.mono _ _ _ _ _ _ _ | exact spec_moThose.mono _ _ _ _ _ _ _ _ _ | exact spec_sqFigure.mono _ _ _ _ | exact LeO.refl _ | exact LeO.none _ | refine LeO.ite ?_ ?_ | refine LeO.bind ?_ (fun _ => ?_)) | exact ih0 _ _ _ _ _ _ _ _ | exact ih1 _ _ _ _ _ _ _ _ _ _ _ _ | exact spec_fiText.mono _ _ _ _ _ | exact spec_moAsked.mono _ _ _ _ _ _ _ | exact spec_moThose.mono _ _ _ _ _ _ _ _ _ | exact spec_sqFigure.mono _ _ _ _
    · intro y0 y1 y2 y3 y4 y5 y6 y7 y8 y9 y10 y11
      unfold spec_moFirst.l0
      repeat' first | (with_reducible first | exact ih0 _ _ _ _ _ _ _ _ | exact ih1 _ _ _ _ _ _ _ _ _ _ _ _ | exact spec_fiText.mono _ _ _ _ _ | exact spec_moAsked.mono _ _ _ _ _ _ _ | exact spec_moThose.mono _ _ _ _ _ _ _ _ _ | exact spec_sqFigure.mono _ _ _ _ | exact LeO.refl _ | exact LeO.none _ | refine LeO.ite ?_ ?_ | refine LeO.bind ?_ (fun _ => ?_)) | exact ih0 _ _ _ _ _ _ _ _ | exact ih1 _ _ _ _ _ _ _ _ _ _ _ _ | exact spec_fiText.mono _ _ _ _ _ | exact spec_moAsked.mono _ _ _ _ _ _ _ | exact spec_moThose.mono _ _ _ _ _ _ _ _ _ | exact spec_sqFigure.mono _ _ _ _
theorem spec_moFirst.mono:∀ a0 a1 a2 a3 a4 a5 a6 k,LeO (spec_moFirst.f k a0 a1 a2 a3 a4 a5 a6) (spec_moFirst.f (k + 1) a0 a1 a2 a3 a4 a5 a6):=by
  intro a0 a1 a2 a3 a4 a5 a6 k
  obtain ⟨ih0,ih1⟩:=spec_moFirst.mono_l k
  unfold spec_moFirst.f
  repeat' first | (with_reducible first | exact ih0 _ _ _ _ _ _ _ _ | exact ih1 _ _ _ _ _ _ _ _ _ _ _ _ | exact spec_fiText.mono _ _ _ _ _ | exact spec_moAsked.mono _ _ _ _ _ _ _ | exact spec_moThose.mono _ _ _ _ _ _ _ _ _ | exact spec_sqFigure.mono _ _ _ _ | exact LeO.refl _ | exact LeO.none _ | refine LeO.ite ?_ ?_ | refine LeO.bind ?_ (fun _ => ?_)) | exact ih0 _ _ _ _ _ _ _ _ | exact ih1 _ _ _ _ _ _ _ _ _ _ _ _ | exact spec_fiText.mono _ _ _ _ _ | exact spec_moAsked.mono _ _ _ _ _ _ _ | exact spec_moThose.mono _ _ _ _ _ _ _ _ _ | exact spec_sqFigure.mono _ _ _ _

theorem subsW_ltN {N:Nat}:∀ (m:Nat) (l:List Int) (own:Nat),own < 2 ^ N → (∀ x ∈ l,0 ≤ x ∧ x < (N:Int)) → ∀ z ∈ subsW m l own,z < 2 ^ N
  | 0,_,_,ho,_,z,hz => by
    simp only [subsW,List.mem_singleton] at hz
    rw [hz]; exact ho
  | m + 1,[],_,_,_,z,hz => by cases hz
  | m + 1,x :: l,own,ho,hl,z,hz => by
    have hz':z ∈ subsW m l (own ||| 2 ^ x.toNat) ++ subsW (m + 1) l own:=hz
    rcases List.mem_append.1 hz' with h | h
    · have hx:=hl x List.mem_cons_self
      exact subsW_ltN m l _ (Nat.or_lt_two_pow ho (Nat.pow_lt_pow_right (by omega) (by omega))) (fun y hy => hl y (List.mem_cons_of_mem _ hy)) z h
    · exact subsW_ltN (m + 1) l own ho (fun y hy => hl y (List.mem_cons_of_mem _ hy)) z h
theorem bitsI_in {s N:Nat} (hs:s < 2 ^ N):∀ x ∈ bitsI s,0 ≤ x ∧ x < (N:Int):=by
  intro x hx
  obtain ⟨n,hn,rfl⟩:=List.mem_map.1 hx
  have h1:s.testBit n = true:=(List.mem_filter.1 hn).2
  have h2:n < N:=by
    rcases Nat.lt_or_ge n N with h | h
    · exact h
    · rw [Nat.testBit_lt_two_pow (Nat.lt_of_lt_of_le hs (Nat.pow_le_pow_right (by omega) h))] at h1; cases h1
  omega
theorem waysW_ltN {mv:Bool} {mt al s N:Nat} (hs:s < 2 ^ N) (hal:al < 2 ^ N):∀ z ∈ waysW mv mt al s,z < 2 ^ N:=by
  intro z hz
  obtain ⟨g,-,hz⟩:=List.mem_flatMap.1 hz
  unfold piecesW at hz
  cases mv with
  | false => simp at hz; rw [hz]; exact diffN_lt g hs
  | true =>
    simp only [if_true,putsW,List.mem_map] at hz
    obtain ⟨p,hp,rfl⟩:=hz
    exact Nat.or_lt_two_pow (diffN_lt g hs) (subsW_ltN mt _ 0 (Nat.two_pow_pos _) (bitsI_in (diffN_lt s hal)) p hp)

theorem join_inj {sep:List UInt8}:∀ {A B:List (List UInt8)},A.map List.length = B.map List.length → Lib.join A sep = Lib.join B sep → A = B:=by
  have tail:∀ {A B:List (List UInt8)},A.map List.length = B.map List.length → Lib.joinTail sep A = Lib.joinTail sep B → A = B:=by
    intro A
    induction A with
    | nil =>
      intro B h _
      cases B with
      | nil => rfl
      | cons b t => simp at h
    | cons a r ih =>
      intro B h hj
      cases B with
      | nil => simp at h
      | cons b t =>
        rw [List.map_cons,List.map_cons] at h
        injection h with h1 h2
        unfold Lib.joinTail at hj
        rw [List.map_cons,List.map_cons,List.flatten_cons,List.flatten_cons] at hj
        obtain ⟨e1,e2⟩:=List.append_inj hj (by rw [List.length_append,List.length_append,h1])
        rw [List.append_cancel_left e1,ih h2 e2]
  intro A B h hj
  cases A with
  | nil =>
    cases B with
    | nil => rfl
    | cons b t => simp at h
  | cons a r =>
    cases B with
    | nil => simp at h
    | cons b t =>
      rw [List.map_cons,List.map_cons] at h
      injection h with h1 h2
      rw [Lib.join_cons,Lib.join_cons] at hj
      obtain ⟨e1,e2⟩:=List.append_inj hj h1
      rw [e1,tail h2 e2]


theorem textRows_lens (w h m n:Nat):∀ y,(textRows w h m y).map List.length = (textRows w h n y).map List.length
  | 0 => rfl
  | y + 1 => by
    have ih:=textRows_lens w h m n y
    unfold textRows
    split <;> simp [ih,rowL_len]
theorem rowL_at {c:UInt8} (hc:c ≠ 46) {p q:Nat → Bool} {n:Nat} (h:rowL c p n = rowL c q n):∀ x,x < n → p x = q x:=by
  intro x hx
  unfold rowL at h
  have h2:=(List.map_inj_left.1 h) x (List.mem_range.2 hx)
  cases hp:p x <;> cases hq:q x
  · rfl
  · rw [hp,hq] at h2; exact absurd h2.symm hc
  · rw [hp,hq] at h2; exact absurd h2 hc
  · rfl
theorem textRows_bits {w h m n:Nat}:∀ Y,Y ≤ h + 1 → textRows w h m Y = textRows w h n Y → ∀ y,y < Y → (∀ x,x < w → levP w m y x = levP w n y x) ∧ (y < h → ∀ x,x < w + 1 → uprP w h m y x = uprP w h n y x)
  | 0,_,_,y,hy => absurd hy (by omega)
  | Y + 1,hY,he,y,hy => by
    rw [textRows,textRows] at he
    by_cases hh:Y < h
    · rw [if_pos hh,if_pos hh] at he
      obtain ⟨e1,e3⟩:=List.append_inj' he rfl
      obtain ⟨e1,e2⟩:=List.append_inj' e1 rfl
      by_cases hyY:y < Y
      · exact textRows_bits Y (by omega) e1 y hyY
      · obtain rfl:y = Y:=by omega
        injection e2 with e2 _
        injection e3 with e3 _
        exact ⟨rowL_at (by decide) e2,fun _ => rowL_at (by decide) e3⟩
    · rw [if_neg hh,if_neg hh] at he
      obtain ⟨e1,e2⟩:=List.append_inj' he rfl
      by_cases hyY:y < Y
      · exact textRows_bits Y (by omega) e1 y hyY
      · obtain rfl:y = Y:=by omega
        injection e2 with e2 _
        exact ⟨rowL_at (by decide) e2,fun z => absurd z hh⟩
theorem figText_inj {w h m n:Nat} (hw:1 ≤ w) (hm:m < 2 ^ (w * (h + 1) + h * (w + 1))) (hn:n < 2 ^ (w * (h + 1) + h * (w + 1))) (he:figText w h m = figText w h n):m = n:=by
  have h1:Lib.join (textRows w h m (h + 1)) [47] = Lib.join (textRows w h n (h + 1)) [47]:=by
    have:=congrArg (fun b:ByteArray => b.data.toList) he
    simpa [figText,BA] using this
  have h2:=join_inj (textRows_lens w h m n (h + 1)) h1
  have h3:=textRows_bits (h + 1) (Nat.le_refl _) h2
  apply Nat.eq_of_testBit_eq
  intro e
  by_cases hl:e < w * (h + 1)
  · have hy:e / w < h + 1:=Nat.div_lt_of_lt_mul hl
    have hx:e % w < w:=Nat.mod_lt _ hw
    have:=(h3 (e / w) hy).1 (e % w) hx
    unfold levP at this
    rw [show e / w * w + e % w = e by rw [Nat.mul_comm]; exact Nat.div_add_mod e w] at this
    exact this
  · by_cases hu:e < w * (h + 1) + h * (w + 1)
    · obtain ⟨z,rfl⟩:∃ z,e = w * (h + 1) + z:=⟨e - w * (h + 1),by omega⟩
      have hz:z < (w + 1) * h:=by rw [Nat.mul_comm]; omega
      have hy:z / (w + 1) < h:=Nat.div_lt_of_lt_mul hz
      have hx:z % (w + 1) < w + 1:=Nat.mod_lt _ (Nat.succ_pos _)
      have:=(h3 (z / (w + 1)) (by omega)).2 hy (z % (w + 1)) hx
      unfold uprP at this
      rw [show z / (w + 1) * (w + 1) + z % (w + 1) = z by rw [Nat.mul_comm]; exact Nat.div_add_mod z (w + 1)] at this
      exact this
    · rw [Nat.testBit_lt_two_pow (Nat.lt_of_lt_of_le hm (Nat.pow_le_pow_right (by omega) (by omega))),Nat.testBit_lt_two_pow (Nat.lt_of_lt_of_le hn (Nat.pow_le_pow_right (by omega) (by omega)))]


structure TidyOK (K:Nat) (w h:Int) (a u:List Int) (mt sq:Int) (mv td:Bool) (mn s al:Nat) (L:List S100) (cnt nd:Nat → Int) (F:Nat → S26) (T:Nat → ByteArray) (ws:List Nat):Prop where
  hmt:mt = (mn:Int)
  few:impl_isFew.f K w h a u = some true
  ok:FigOK K w h a u s al L cnt nd
  hm:rightM true (mn:Int) mv = true
  hq:numQ sq = true
  hws:((waysW mv mn al s).filter (withP cnt nd sq td)) = ws
  hwl:ws.length ≤ 1000000000
  hF:∀ m ∈ ws,impl_grid_figure.f w h (m:Int) = some ((F m).f0,(F m).f1,(F m).f2,(F m).f3)
  hT:∀ m ∈ ws,impl_figureText.f K (F m).f0 (F m).f1 (F m).f2 (F m).f3 = some (T m)
theorem figN_edges (w h:Nat):figN (w:Int) (h:Int) = edgesN w h:=by
  unfold figN edgesN
  have e1:((w:Int) * ((h:Int) + 1)).toNat = w * (h + 1):=by
    rw [show (w:Int) * ((h:Int) + 1) = ((w * (h + 1):Nat):Int) by rw [Int.natCast_mul]; rfl,Int.toNat_natCast]
  have e2:((h:Int) * ((w:Int) + 1)).toNat = h * (w + 1):=by
    rw [show (h:Int) * ((w:Int) + 1) = ((h * (w + 1):Nat):Int) by rw [Int.natCast_mul]; rfl,Int.toNat_natCast]
  rw [e1,e2]
theorem made_all {w h:Int} {a u:List Int} (hf:fewB w h a u = true) (ha:a.length ≤ 1000000) (hu:u.length ≤ 1000000) (mt sq:Int) (mv td:Bool) (hr:rightM true mt mv = true) (hq:numQ sq = true) :
    ∃ (W H:Nat) (mn s al:Nat) (L:List S100) (cnt nd:Nat → Int) (ws:List Nat),w = (W:Int) ∧ h = (H:Int) ∧ 1 ≤ W ∧ GridOK (W:Int) (H:Int) ∧ TidyOK 20000001 w h a u mt sq mv td mn s al L cnt nd (figM w h) (figText W H) ws ∧ ws.length ≤ 16777216 ∧ (∀ m ∈ ws,m < 2 ^ figN W H) ∧ spec_moThose.f 20000001 w h a u mt sq mv td = some (ws.map fun n:Nat => (n:Int)):=by
  obtain ⟨s,al,N,L,cnt,nd,hok,⟨hs,hal,hN⟩,hth⟩:=few_all2 hf ha hu 20000001 (by decide)
  have hfew:=isFew_f w h a u ha hu 20000001 (by decide)
  rw [hf] at hfew
  have hf1:=hf
  unfold fewB at hf1
  rw [Bool.and_eq_true] at hf1
  obtain ⟨hf1,-⟩:=hf1
  have g0:=gridOK_of hf1
  have b1:=g0.w1
  have b3:=g0.h1
  obtain ⟨W,rfl⟩:=Int.eq_ofNat_of_zero_le (show 0 ≤ w by omega)
  obtain ⟨H,rfl⟩:=Int.eq_ofNat_of_zero_le (show 0 ≤ h by omega)
  have g:GridOK (W:Int) (H:Int):=g0
  have hr2:=hr
  unfold rightM mostM at hr2
  simp only [Bool.true_and,Bool.and_eq_true,decide_eq_true_eq] at hr2
  obtain ⟨mn,rfl⟩:=Int.eq_ofNat_of_zero_le hr2.1
  obtain ⟨hlen,hms⟩:=hth (mn:Int) mv sq td hr
  rw [Int.toNat_natCast] at hlen hms
  rw [Int.toNat_natCast,Int.toNat_natCast] at hN
  have hb:∀ m ∈ (waysW mv mn al s).filter (withP cnt nd sq td),m < 2 ^ figN W H:=fun m hm => by
    rw [figN_edges,← hN]
    exact waysW_ltN hs hal m (List.mem_filter.1 hm).1
  have hl:((waysW mv mn al s).filter (withP cnt nd sq td)).length ≤ 16777216:=Nat.le_trans (List.length_filter_le _ _) hlen
  exact ⟨W,H,mn,s,al,L,cnt,nd,_,rfl,rfl,by omega,g,⟨rfl,hfew,hok,hr,hq,rfl,by omega,fun m hm => figure_f g (hb m hm),fun m hm => (figT_f g (hb m hm) 20000001 (by decide)).2⟩,hl,hb,hms⟩

theorem sorted_one {T:Nat → ByteArray}:∀ {ps qs:List Nat},ps.Perm qs → (∀ a ∈ ps,∀ b ∈ ps,T a = T b → a = b) → (ps.Pairwise fun a b => ¬ Lib.compareBytes (T b).data.toList (T a).data.toList < 0) → (qs.Pairwise fun a b => ¬ Lib.compareBytes (T b).data.toList (T a).data.toList < 0) → ps = qs:=by
  intro ps
  induction ps with
  | nil => intro qs hp _ _ _; exact hp.symm.eq_nil.symm
  | cons a t ih =>
    intro qs hp hi h1 h2
    cases qs with
    | nil => exact absurd hp.eq_nil (by simp)
    | cons b u =>
      have hab:a = b:=by
        have hb:b ∈ a :: t:=hp.mem_iff.2 List.mem_cons_self
        have ha:a ∈ b :: u:=hp.mem_iff.1 List.mem_cons_self
        rcases List.mem_cons.1 hb with hb1 | hb1
        · exact hb1.symm
        rcases List.mem_cons.1 ha with ha1 | ha1
        · exact ha1
        have e1:=(List.pairwise_cons.1 h1).1 b hb1
        have e2:=(List.pairwise_cons.1 h2).1 a ha1
        have e3:=cb_neg (T a).data.toList (T b).data.toList
        have e4:=cb_zero _ _ (show Lib.compareBytes (T a).data.toList (T b).data.toList = 0 by omega)
        exact hi a List.mem_cons_self b hb (ba_ext e4)
      subst hab
      rw [ih (List.Perm.cons_inv hp) (fun x hx y hy => hi x (List.mem_cons_of_mem _ hx) y (List.mem_cons_of_mem _ hy)) (List.pairwise_cons.1 h1).2 (List.pairwise_cons.1 h2).2]
theorem all_pure (mv:Bool) {w h:Int} {a u:List Int} (ha:a.length ≤ 1000000) (hu:u.length ≤ 1000000) (mt sq:Int) :
    (∃ (few:Bool) (s al:Nat) (L:List S100) (cnt nd:Nat → Int),(spec_moAsked.f 20000001 w h a u mt mv = some false ∨ spec_moAsked.f 20000001 w h a u mt mv = some true ∧ spec_moSquares.f sq = some false ∨ spec_moAsked.f 20000001 w h a u mt mv = some true ∧ spec_moSquares.f sq = some true ∧ ∃ rs,spec_moThose.f 20000001 w h a u mt sq mv false = some rs ∧ 200 < rs.length ∧ rs.length ≤ 1000000000) ∧
      impl_isFew.f 20000001 w h a u = some few ∧ (few = true → FigOK 20000001 w h a u s al L cnt nd) ∧ ((countR few s al cnt nd mt mv sq false).2 = false ∨ 200 < (countR few s al cnt nd mt mv sq false).1)) ∨
    (∃ (mn s al:Nat) (L:List S100) (cnt nd:Nat → Int) (F:Nat → S26) (T:Nat → ByteArray) (R:List S26) (ws:List Nat),TidyOK 20000001 w h a u mt sq mv false mn s al L cnt nd F T ws ∧ ws.length ≤ 200 ∧ spec_moAsked.f 20000001 w h a u mt mv = some true ∧ spec_moSquares.f sq = some true ∧ spec_moThose.f 20000001 w h a u mt sq mv false = some (ws.map fun n:Nat => (n:Int)) ∧
      (∀ m ∈ ws,spec_sqFigure.f 20000001 w h (m:Int) = some ((F m).f0,(F m).f1,(F m).f2,(F m).f3)) ∧ (∀ m ∈ ws,spec_fiText.f 20000001 (F m).f0 (F m).f1 (F m).f2 (F m).f3 = some (T m)) ∧
      (∀ ps:List Nat,ps.Perm ws → (ps.Pairwise fun a b => ¬ Lib.compareBytes (T b).data.toList (T a).data.toList < 0) → ps.map F = R) ∧ R.length ≤ 1000 ∧ ∀ x ∈ R,x.f2.length ≤ 100 ∧ x.f3.length ≤ 100):=by
  have hask:=moAsked_f w h a u ha hu mt mv 20000001 (by decide)
  have hsqs:=moSquares_f sq
  by_cases hf:fewB w h a u = true
  · by_cases hr:rightM true mt mv = true
    · by_cases hq:numQ sq = true
      · obtain ⟨W,H,mn,s,al,L,cnt,nd,ws,rfl,rfl,hW,g,hok,hl,hb,hms⟩:=made_all hf ha hu mt sq mv false hr hq
        rw [hf,hr] at hask
        rw [hq] at hsqs
        by_cases h200:ws.length ≤ 200
        · have hinj:∀ x ∈ ws,∀ y ∈ ws,figText W H x = figText W H y → x = y:=fun x hx y hy he => by
            have h1:=hb x hx
            have h2:=hb y hy
            rw [figN_edges] at h1 h2
            exact figText_inj hW h1 h2 he
          refine .inr ⟨mn,s,al,L,cnt,nd,figM (W:Int) (H:Int),figText W H,open Classical in if h:∃ p0:List Nat,p0.Perm ws ∧ p0.Pairwise fun a b => ¬ Lib.compareBytes (figText W H b).data.toList (figText W H a).data.toList < 0 then h.choose.map (figM (W:Int) (H:Int)) else [],ws,hok,h200,hask,hsqs,hms,fun m hm => sqFigure_f g (pow_figN g (hb m hm)) 20000001 (by decide),fun m hm => (figT_f g (hb m hm) 20000001 (by decide)).1,fun ps hp hs => ?_,?_,fun x hx => ?_⟩
          · have hex:∃ p0:List Nat,p0.Perm ws ∧ p0.Pairwise fun a b => ¬ Lib.compareBytes (figText W H b).data.toList (figText W H a).data.toList < 0:=⟨ps,hp,hs⟩
            rw [dif_pos hex]
            have h1:=hex.choose_spec
            rw [sorted_one (hp.trans h1.1.symm) (fun x hx y hy he => hinj x (hp.mem_iff.1 hx) y (hp.mem_iff.1 hy) he) hs h1.2]
          · split
            · rename_i h1
              rw [List.length_map,h1.choose_spec.1.length_eq]
              omega
            · simp
          · split at hx
            · obtain ⟨m,-,rfl⟩:=List.mem_map.1 hx
              have h1:=rowA_len g m
              have h2:=rowU_len g m
              obtain ⟨b1,b2,b3⟩:=figN_le g
              show (rowA (W:Int) (H:Int) m).length ≤ 100 ∧ (rowU (W:Int) (H:Int) m).length ≤ 100
              omega
            · cases hx
        · refine .inl ⟨true,s,al,L,cnt,nd,.inr (.inr ⟨hask,hsqs,_,hms,by rw [List.length_map]; omega,by rw [List.length_map]; omega⟩),hok.few,fun _ => hok.ok,.inr ?_⟩
          unfold countR
          rw [if_pos ⟨hr,hq⟩,hok.hmt,Int.toNat_natCast,hok.hws]
          show (200:Int) < (ws.length:Int)
          omega
      · obtain ⟨s,al,L,cnt,nd,hok,-⟩:=few_all hf ha hu 20000001 (by decide)
        have hq':=Bool.eq_false_iff.2 hq
        rw [hf,hr] at hask
        rw [hq'] at hsqs
        refine .inl ⟨true,s,al,L,cnt,nd,.inr (.inl ⟨hask,hsqs⟩),by rw [isFew_f w h a u ha hu _ (by decide),hf],fun _ => hok,.inl ?_⟩
        unfold countR
        rw [if_neg (fun hh => hq hh.2)]
    · obtain ⟨s,al,L,cnt,nd,hok,-⟩:=few_all hf ha hu 20000001 (by decide)
      have hr':=Bool.eq_false_iff.2 hr
      rw [hf,hr'] at hask
      refine .inl ⟨true,s,al,L,cnt,nd,.inl hask,by rw [isFew_f w h a u ha hu _ (by decide),hf],fun _ => hok,.inl ?_⟩
      unfold countR
      rw [if_neg (fun hh => hr hh.1)]
  · have hf':=Bool.eq_false_iff.2 hf
    have hr':rightM (fewB w h a u) mt mv = false:=by unfold rightM; rw [hf']; rfl
    rw [hr'] at hask
    refine .inl ⟨false,0,0,[],fun _ => 0,fun _ => 0,.inl hask,by rw [isFew_f w h a u ha hu _ (by decide),hf'],(fun h9 => absurd h9 (by simp)),.inl ?_⟩
    unfold countR
    have hr2:¬ (rightM false mt mv = true ∧ numQ sq = true):=fun hh => by
      have:=hh.1
      unfold rightM at this
      simp at this
    rw [if_neg hr2]
theorem answers_noS {f:Nat} {args:Array Value} {W:World} (h:Calls Tryz.prog f args W fun e w' => e = .returned (.tuple #[.slice none 0 0,.bool false]) ∧ Below W.heap.size W w') :
    Calls Tryz.prog f args W fun e w' => ∃ v:Value,e = .returned (.tuple #[v,.bool false]) ∧ Kd.S kF 26 w' W.heap.size (fun _ => True) v [] ∧ Below W.heap.size W w' :=
  h.mono fun _ _ ⟨he,hb⟩ => ⟨_,he,Kd.S_nil _ _ _ _ _,hb⟩

end Go.Proofs.YtehjfaddhmdicaaGreatDoor.P
/- What the row's listed variable,math/bits' table,gives a walk; a world in which it is laid. -/
namespace Go.Proofs.YtehjfaddhmdicaaGreatDoor.Laid
open Go.RowKit
theorem mapM_at {α β:Type} {f:α → Option β}:∀ {l:List α} {xs:List β},l.mapM f = some xs → ∀ (j:Nat) (x:α),l[j]? = some x → ∃ y,xs[j]? = some y ∧ f x = some y
  | [],xs,_,j,x,hj => by simp at hj
  | a :: l,xs,h,j,x,hj => by
    rw [List.mapM_cons] at h
    obtain ⟨y,hy,h⟩:=Option.bind_eq_some_iff.1 h
    obtain ⟨ys,hys,h⟩:=Option.bind_eq_some_iff.1 h
    obtain rfl:=Option.some.inj h
    cases j with
    | zero => simp at hj; subst hj; exact ⟨y,rfl,hy⟩
    | succ j => exact mapM_at hys j x (by simpa using hj)
theorem int_of_trod {H:Type} {enc:TypeId × Value → H} {P:Program} {w:World} {base:Nat} {sp:Nat → Bool} {held:Bool} {fuel:Nat} {t:TypeId} {k:IntKind} {c:Value} {y:DataW H × List MemPlace}
    (ht:P.underlying t = some (.int k)) (h:DataW.trod enc P w base sp held fuel t [c] = some y):∃ n,c = .int k n ∧ y = (.lit (.int k n),[]):=by
  cases fuel with
  | zero => simp [DataW.trod] at h
  | succ fuel =>
    cases c <;> simp [DataW.trod,ht] at h
    rename_i k' n
    obtain ⟨⟨rfl,_⟩,rfl⟩:=h
    exact ⟨n,rfl,rfl⟩
theorem bytes_of_trod {H:Type} {enc:TypeId × Value → H} {P:Program} {w:World} {base:Nat} {sp:Nat → Bool} {held:Bool} {fuel n:Nat} {t e:TypeId} {l:List Value} {tab:List Nat} {ps:List MemPlace} (ht:P.underlying t = some (.array n e)) (he:P.underlying e = some (.int .u8)) (h1:P.cellsOf t = n) (h2:P.cellsOf e = 1)
    (h:DataW.trod enc P w base sp held fuel t l = some (.agg (tab.map fun k:Nat => .lit (.int .u8 (k:Int))),ps)) (j:Nat) (hj:j < n):l[j]? = some (.int .u8 ((tab.getD j 0:Nat):Int)):=by
  cases fuel with
  | zero => simp [DataW.trod] at h
  | succ fuel =>
    simp only [DataW.trod,ht,h1,h2] at h
    split at h
    · rename_i hl
      obtain ⟨xs,hxs,hy⟩:=Option.map_eq_some_iff.1 h
      obtain ⟨y,hyj,hf⟩:=mapM_at hxs j j (by rw [List.getElem?_range hj])
      obtain ⟨c,hc⟩:∃ c,l[j]? = some c:=⟨l[j]'(by omega),List.getElem?_eq_getElem _⟩
      rw [Nat.mul_one,show (l.drop j).take 1 = [c] from by rw [List.drop_eq_getElem_cons (by omega)]; rw [List.getElem?_eq_getElem (by omega)] at hc; injection hc with hc; rw [hc]; rfl] at hf
      obtain ⟨m,rfl,rfl⟩:=int_of_trod he hf
      have h3:=(Prod.mk.inj hy).1
      injection h3 with h3
      have h4:=congrArg (fun q => q[j]?) h3
      simp only [List.getElem?_map,hyj,Option.map_some] at h4
      rw [hc,List.getD_eq_getElem?_getD]
      cases ht2:tab[j]? with
      | none => rw [ht2] at h4; cases h4
      | some q =>
        rw [ht2] at h4
        simp at h4
        rw [h4]; rfl
    · cases h
theorem gnum : Tryz.prog.globalNamed "math/bits.deBruijn64tab" = some 0 := by kernel_rfl
theorem gtype:(Tryz.prog.globals[0]?).map (·.type) = some 127:=by kernel_rfl
theorem cellsT:Tryz.prog.cellsOf 127 = 64:=by kernel_rfl
theorem cellsE:Tryz.prog.cellsOf 5 = 1:=by kernel_rfl
theorem tabIs:(Rows.laid_math_bits_deBruijn64tab:DataW Unit) = .agg (Lib.deBruijn64tab.map fun k => .lit (.int .u8 ((k:Nat):Int))):=by rfl
theorem plain (w : World) : laidMetH Tryz.prog [("math/bits.deBruijn64tab", Rows.laid_math_bits_deBruijn64tab)] w → laidMet Tryz.prog [("math/bits.deBruijn64tab", Rows.laid_math_bits_deBruijn64tab)] w := fun h => h
theorem tb {W : World} (h : laidMetH Tryz.prog [("math/bits.deBruijn64tab", Rows.laid_math_bits_deBruijn64tab)] W) : P.TB W := by
  obtain ⟨ps,⟨g,t,cs,fuel,p,q,hg,ht,hvar,hd,_,_⟩,_⟩:=plain W h
  obtain rfl:=Option.some.inj (gnum.symm.trans hg)
  obtain rfl:=Option.some.inj (gtype.symm.trans ht)
  refine ⟨fun j hj => ?_,trivial⟩
  rw [World.var?_cell hg hvar j]
  rw [tabIs] at hd
  have:=bytes_of_trod Tryz.underlying127 Tryz.underlying5 cellsT cellsE hd j hj
  rw [← Array.getElem?_toList]
  exact this
def cells64:Array Value:=(Lib.deBruijn64tab.map fun k => Value.int .u8 ((k:Nat):Int)).toArray
noncomputable def laidWorld (os:Os):World :=
  { World.holding Tryz.prog os ⟨#[],#[],[]⟩ with heap:=(World.holding Tryz.prog os ⟨#[],#[],[]⟩).heap.modify 0 fun
      | .cells _ t frozen => .cells cells64 t frozen
      | o => o }
set_option maxRecDepth 100000 in
theorem laidWorld_met (os : Os) (args : Array Value) : laidMetH Tryz.prog [("math/bits.deBruijn64tab", Rows.laid_math_bits_deBruijn64tab)] ((laidWorld os).forCall (fun _ _ => 0) ⟨#[], args, []⟩).memory :=
  laidMetH_of_parts (laidMet_of_run' 8 (by kernel_rfl) (by kernel_rfl)) (by kernel_rfl)
end Go.Proofs.YtehjfaddhmdicaaGreatDoor.Laid
namespace Go.Proofs.YtehjfaddhmdicaaGreatDoor.fnExactAllTakes
open Go.ChangeShapes Go.WideShapes Go.ChangeAt Go.RowKit Go.Proofs.YtehjfaddhmdicaaGreatDoorW.PrintWords Go.Joins
set_option linter.unusedVariables false
theorem own:ownKnob Tryz.prog.godebug = none:=Closed.own
theorem laidOut:laidOutB Tryz.prog = true:=Closed.laidOut
def IsRow (k:IntKind) (w:World) (a:Option Addr) (len cap:Nat) (zs:List Int):Prop :=
 (a = none ∧ len = 0 ∧ cap = 0 ∧ zs = []) ∨
 ∃ x,a = some x ∧ len ≤ cap ∧ cap ≤ maxLen ∧ zs.length = cap ∧ (∀ i,i < zs.length → w.cell? (x.add i) = some (.int k (zs.getD i 0))) ∧ ∀ n ∈ zs,(Lit.int k n).wf = true
theorem opened {H:Type} {enc:TypeId × Value → H} {W:World} {m:Nat} {c:Value} {y:DataW H × List MemPlace} (hy:DataW.trod enc Tryz.prog W 0 (fun _ => true) true m 22 [c] = some y) :
  ∃ a len cap zs,c = .slice a len cap ∧ IsRow .i64 W a len cap zs:=by
 rcases open_ints Tryz.underlying22 Tryz.underlying3 (by kernel_rfl) hy with ⟨hcs,_⟩ | ⟨x,l,c,zs,hcs,_,hl,hm,hz,_,hcell,hwz⟩
 ·simp at hcs
  exact ⟨none,0,0,[],hcs,.inl ⟨rfl,rfl,rfl,rfl⟩⟩
 ·simp at hcs
  exact ⟨some x,l,c,zs,hcs,.inr ⟨_,rfl,hl,hm,by simpa using hz,hcell,hwz⟩⟩
theorem walk (a b:Int) (A2:Option Addr) (n2 c2:Nat) (z2:List Int) (A3:Option Addr) (n3 c3:Nat) (z3:List Int) (x1:Int) (x2:Int) (w:World) (w2:IsRow .i64 w A2 n2 c2 z2) (w3:IsRow .i64 w A3 n3 c3 z3) (y2:n2 * 8 ≤ 140737488351232) (y3:n3 * 8 ≤ 140737488351232) (hT:P.TB w) :
  Calls Tryz.prog 5 #[.agg #[.int .i64 a,.int .i64 b,.slice A2 n2 c2,.slice A3 n3 c3],.int .i64 x1,.int .i64 x2] w fun e w' => e = .returned (.bool true) ∧ Below w.heap.size w w':=by
 obtain ⟨l2,rfl,hr2,hm2,hw2,hc2⟩:=ReadsInt.ofRowC w2
 obtain ⟨l3,rfl,hr3,hm3,hw3,hc3⟩:=ReadsInt.ofRowC w3
 have k2:=Kd.C_of_reads (d:=(0:Int)) (h1:=fun _ => rfl) hr2
 have k3:=Kd.C_of_reads (d:=(0:Int)) (h1:=fun _ => rfl) hr3
 by_cases hbig:l2.length + l3.length ≤ 1000000
 ·have b2:l2.length ≤ 1000000:=Nat.le_trans (Nat.le_add_right _ _) hbig
  have b3:l3.length ≤ 1000000:=Nat.le_trans (Nat.le_add_left _ _) hbig
  rcases P.all_pure false (w:=a) (h:=b) (a:=l2) (u:=l3) b2 b3 x1 x2 with ⟨few,s,al,L,cnt,nd,hp1,hp2,hp3,hp4⟩ | ⟨mn,s,al,L,cnt,nd,F,T,R,ws,ok,hl200,hask,hsqs,hth,hsF,hsT,hR,hRl,hRb⟩
  ·exact P.law_AllTakes_yes a b A2 c2 l2 A3 c3 l3 x1 x2 4200002 [] false P.TB (fun _ _ h hb => h.below hb) w k2 hc2 k3 hc3 hT hbig (by simp) (by simp) (Nat.lt_succ_self _)
    (fun A2 c2 A3 c3 W hu2 hd2 hu3 hd3 hG => P.answers_noS (P.spec_AllTakes_no 20000001 a b A2 A3 c2 c3 l2 l3 x1 x2 W hu2 hd2 hu3 hd3 hp1))
    (fun A2 c2 A3 c3 W hu2 hd2 hu3 hd3 hG => P.answers_noS (P.impl_AllTakes_no 20000001 a b A2 A3 c2 c3 l2 l3 x1 x2 few s al L cnt nd W hu2 hd2 hu3 hd3 hG hp2 hp3 hp4))
  ·obtain rfl:=ok.hmt
   exact P.law_AllTakes_yes a b A2 c2 l2 A3 c3 l3 (mn:Int) x2 4200002 R true P.TB (fun _ _ h hb => h.below hb) w k2 hc2 k3 hc3 hT hbig hRl hRb (Nat.lt_succ_self _)
    (fun A2 c2 A3 c3 W hu2 hd2 hu3 hd3 hG => P.spec_AllTakes_yes 20000001 a b A2 A3 c2 c3 l2 l3 (mn:Int) x2 F T R ws W hu2 hd2 hu3 hd3 hask hsqs hth hl200 hsF hsT hR)
    (fun A2 c2 A3 c3 W hu2 hd2 hu3 hd3 hG => P.impl_AllTakes_yes 20000001 a b A2 A3 c2 c3 l2 l3 mn x2 s al L cnt nd F T R ws W hu2 hd2 hu3 hd3 hG ok.few ok.ok ok.hm ok.hq ok.hws hl200 ok.hF ok.hT hR)
 ·exact P.law_AllTakes_no a b A2 c2 l2 A3 c3 l3 x1 x2 w k2 hc2 k3 hc3 (by clear hbig; omega) (by clear hbig; omega) hbig
theorem joined_mk (P:Program) (f:FuncId) (fn:Func) (s:ChangeSpec) (c:OpenClaim) (k0:(c.wf (OpenSpec.ofChange s)) = true) (k1:(laidOutB P) = true) (k2:(mapsRowed P) = true) (k3:(fn.params.all (P.readableRec ·)) = true) (k4:(namedTie P c.named s.vars) = true) (k5:((c.stops == [])) = true) (k6:((P.stops == [])) = true) (k7:((c.knobs == [])) = true) (k8:((P.stopKnobs == [])) = true) (k9:((c.inPlace == P.inPlace f)) = true) (k10:((c.unfollowed == P.unfollowed f)) = true) (k11:((c.recurses == P.recurses f)) = true) (k12:((c.named == P.varsNamed f)) = true) (k13:((c.maps == (fn.params.toList ++ s.plain.varTypes P).any (P.mapsRec ·))) = true) (k14:((c.ifaces == (fn.params.toList ++ s.plain.varTypes P).any (P.ifacesRec ·))) = true) (k15:((c.mapsOut == P.mapsAmong fn.resultTypes.toList)) = true) (k16:((c.loops == (fn.params.toList ++ s.plain.varTypes P).any (P.loopsFrom ·))) = true) (k17:((c.wideKeys == (fn.params.toList ++ s.plain.varTypes P ++ fn.resultTypes.toList).any (P.wideKeysFrom ·))) = true) (k18:(s.vars.all (P.varReadable ·)) = true) (k19:(fn.resultTypes.all (fun t => P.readableRec t && decide (t < P.types.size))) = true) (k20:((c.ifacesOut == fn.resultTypes.toList.any (P.ifacesRec ·))) = true) (k21:((c.loopsOut == fn.resultTypes.toList.any (P.loopsFrom ·))) = true) (k22:((c.plainKeys == P.plainKeys)) = true) (k23:(c.shortTexts.isNone) = true) (k24:(P.stopsHeard) = true) (k25:(P.mayEnter) = true) (k26:((c.lifted == P.liftsFinal)) = true) (k27:((P.make == some c.make)) = true) (hd:c.domain.isEmpty = true) (k28:(c.kinds == []) = true) (k29:((c.pinned == c.pinnedBy)) = true) (k30:((c.veiled == (fn.params.toList ++ s.plain.varTypes P ++ fn.resultTypes.toList).any (P.veiledRec ·))) = true) (k31:(c.veiledFits P fn.params.toList (fn.params.toList ++ s.plain.varTypes P ++ fn.resultTypes.toList)) = true):joinedFacts P f fn s c = true:=by
 unfold joinedFacts
 simp only [hd,if_true,k0,k1,k2,k3,k4,k5,k6,k7,k8,k9,k10,k11,k12,k13,k14,k15,k16,k17,k18,k19,k20,k21,k22,k23,k24,k25,k26,k27,k28,k29,k30,k31,Bool.and_self]
abbrev LAID : List (String × DataW Unit) := [("math/bits.deBruijn64tab", Rows.laid_math_bits_deBruijn64tab)]
set_option maxRecDepth 100000 in
theorem lifted (os:Os) (started:os.Started) (H:Type) (enc:TypeId × Value → H) :
  ReturnsInHanded {} Tryz.checked os 5 .any (fun w args => (Rows.fnExactAllTakesSpec.pre enc Tryz.prog Tryz.f5 [] false w args ∧ laidMetH Tryz.prog LAID w) ∧ sizedMet enc Tryz.prog Tryz.f5 (OpenSpec.ofChange Rows.fnExactAllTakesSpec) false w args) (Rows.fnExactAllTakesSpec.post enc Tryz.prog Tryz.f5 false true false false):=by
 refine returnsInHanded_of_change_and (C:=Tryz.checked) (X:=fun w _ => laidMetH Tryz.prog LAID w) (fun _ _ _ hh h => h.of_heap hh) own started (by kernel_rfl) Tryz.func5 (ChangeSpec.witness_at (enc:=enc) (C:=Tryz.checked) (os:=os) (X:=fun w _ => laidMetH Tryz.prog LAID w) false (Laid.laidWorld os) #[.agg #[.int .i64 0,.int .i64 0,.slice none 0 0,.slice none 0 0],.int .i64 0,.int .i64 0] 8 rfl (by kernel_rfl) (by kernel_rfl) (by kernel_rfl) (by kernel_rfl) (by kernel_rfl) (Laid.laidWorld_met os _)) ?_
 intro W base args ds gs before hval0 hW hcnd hsz0 hL _
 have hT:P.TB W:=Laid.tb hL
 have hsz:(DataW.weightsEach Tryz.prog (Tryz.f5.params.toList ++ Rows.fnExactAllTakesSpec.plain.varTypes Tryz.prog) (ds ++ gs)).all (· ≤ reachBytes) = true:=hsz0
 have hval:∀ (j:Nat) t v,Tryz.f5.params[j]? = some t → args[j]? = some v → Value.okWide Tryz.prog W .any base t v:=hval0
 have hW':=hW
 obtain ⟨p,q,hA0,hV,rfl,hfz,hnd⟩:=hW
 have hA:DataW.TrodAll enc Tryz.prog W 0 (fun _ => true) true Tryz.f5.params.toList args.toList ds p:=hA0
 rw [Tryz.params5] at hA hval hsz
 obtain ⟨v0,vs0,d0,ds0,p0,q0,hargs,rfl,rfl,h0,r0⟩:=trodAll_cons hA
 obtain ⟨v1,vs1,d1,ds1,p1,q1,rfl,rfl,rfl,h1,r1⟩:=trodAll_cons r0
 obtain ⟨v2,vs2,d2,ds2,p2,q2,rfl,rfl,rfl,h2,r2⟩:=trodAll_cons r1
 obtain ⟨rfl,rfl,rfl⟩:=trodAll_nil r2
 obtain rfl:args = #[v0,v1,v2]:=by cases args; simp_all
 obtain ⟨rfl,rfl⟩:=trodVars_none hV
 have k0:=h0
 have lt0:∀ x ∈ p0,x.block < W.heap.size:=by obtain ⟨m,hm⟩:=k0; exact DataW.trod_lt m _ _ _ hm
 obtain ⟨x1,rfl,rfl,rfl,wf1⟩:=open_int Tryz.underlying3 (hval 1 3 v1 rfl rfl) h1
 obtain ⟨x2,rfl,rfl,rfl,wf2⟩:=open_int Tryz.underlying3 (hval 2 3 v2 rfl rfl) h2
 obtain ⟨c0,c1,c2,c3,y0,y1,y2,y3,m,rfl,rfl,rfl,hy0,hy1,hy2,hy3⟩:=open_agg4 Tryz.underlying24 (by kernel_rfl) (by kernel_rfl) (hval 0 24 v0 rfl rfl) h0
 have hsz2:(DataW.weightsEach Tryz.prog [3,3,22,22] [y0.1,y1.1,y2.1,y3.1]).all (· ≤ reachBytes) = true:=by
  rw [List.all_eq_true]
  intro n hn
  exact List.all_eq_true.1 hsz n (DataW.weights_mem_each (j:=0) (t:=24) (d:=.agg [y0.1,y1.1,y2.1,y3.1]) rfl rfl n (by simp only [DataW.weights,Tryz.underlying24]; exact hn))
 obtain ⟨a,e0,-,wa⟩:=DataW.trod_int Tryz.underlying3 hy0
 obtain ⟨b,e1,-,wb⟩:=DataW.trod_int Tryz.underlying3 hy1
 obtain ⟨a2,len2,cap2,z2,rfl,w2⟩:=opened hy2
 obtain ⟨a3,len3,cap3,z3,rfl,w3⟩:=opened hy3
 have z2_:len2 * 8 ≤ 140737488351232:=sized_ints hsz2 (j:=2) (t:=22) rfl rfl Tryz.underlying22 Tryz.underlying3 (by kernel_rfl) (by kernel_rfl) (⟨m,by simpa [Value.cells] using hy2⟩:DataW.Trod enc Tryz.prog W 0 (fun _ => true) true 22 (.slice a2 len2 cap2) y2.1 y2.2)
 have z3_:len3 * 8 ≤ 140737488351232:=sized_ints hsz2 (j:=3) (t:=22) rfl rfl Tryz.underlying22 Tryz.underlying3 (by kernel_rfl) (by kernel_rfl) (⟨m,by simpa [Value.cells] using hy3⟩:DataW.Trod enc Tryz.prog W 0 (fun _ => true) true 22 (.slice a3 len3 cap3) y3.1 y3.2)
 obtain rfl:c0 = .int .i64 a:=by simpa using e0
 obtain rfl:c1 = .int .i64 b:=by simpa using e1
 clear hA0 hval0 hsz0 hsz hsz2
 refine (walk a b a2 len2 cap2 z2 a3 len3 cap3 z3 x1 x2 W w2 w3 z2_ z3_ hT).mono fun e W' ⟨he,bel⟩ => ?_
 subst he
 exact ⟨_,rfl,_,_,_,[],_,[],hW',trodAll_mk1 (shut_bool Tryz.underlying4 _),(trodAll_cons_mk (Below.trod laidOut (by kernel_rfl) (of_decide_eq_true (by kernel_rfl)) k0 bel lt0) (trodAll_cons_mk (shut_int Tryz.underlying3 wf1) (trodAll_cons_mk (shut_int Tryz.underlying3 wf2) trodAll_mk0))),rfl,bel.frame _,fun h => by cases h⟩
theorem k0_:(Rows.fnExactAllTakesRow.wf (OpenSpec.ofChange Rows.fnExactAllTakesSpec)) = true:=by kernel_rfl
theorem k1_:(laidOutB Tryz.prog) = true:=Closed.laidOut
theorem k2_:(mapsRowed Tryz.prog) = true:=Closed.mapsRowedP
theorem k3_:(Tryz.f5.params.all (Tryz.prog.readableRec ·)) = true:=by kernel_rfl
theorem k4_:(namedTie Tryz.prog Rows.fnExactAllTakesRow.named Rows.fnExactAllTakesSpec.vars) = true:=by kernel_rfl
theorem k5_:((Rows.fnExactAllTakesRow.stops == [])) = true:=by kernel_rfl
theorem k6_:((Tryz.prog.stops == [])) = true:=Closed.noStops
theorem k7_:((Rows.fnExactAllTakesRow.knobs == [])) = true:=by kernel_rfl
theorem k8_:((Tryz.prog.stopKnobs == [])) = true:=Closed.noKnobs
theorem k9_:((Rows.fnExactAllTakesRow.inPlace == Tryz.prog.inPlace 5)) = true:=by kernel_rfl
theorem k10_:((Rows.fnExactAllTakesRow.unfollowed == Tryz.prog.unfollowed 5)) = true:=by kernel_rfl
theorem k11_:((Rows.fnExactAllTakesRow.recurses == Tryz.prog.recurses 5)) = true:=by kernel_rfl
theorem k12_:((Rows.fnExactAllTakesRow.named == Tryz.prog.varsNamed 5)) = true:=by kernel_rfl
theorem k13_:((Rows.fnExactAllTakesRow.maps == (Tryz.f5.params.toList ++ Rows.fnExactAllTakesSpec.plain.varTypes Tryz.prog).any (Tryz.prog.mapsRec ·))) = true:=by kernel_rfl
theorem k14_:((Rows.fnExactAllTakesRow.ifaces == (Tryz.f5.params.toList ++ Rows.fnExactAllTakesSpec.plain.varTypes Tryz.prog).any (Tryz.prog.ifacesRec ·))) = true:=by kernel_rfl
theorem k15_:((Rows.fnExactAllTakesRow.mapsOut == Tryz.prog.mapsAmong Tryz.f5.resultTypes.toList)) = true:=by kernel_rfl
theorem k16_:((Rows.fnExactAllTakesRow.loops == (Tryz.f5.params.toList ++ Rows.fnExactAllTakesSpec.plain.varTypes Tryz.prog).any (Tryz.prog.loopsFrom ·))) = true:=by kernel_rfl
theorem k17_:((Rows.fnExactAllTakesRow.wideKeys == (Tryz.f5.params.toList ++ Rows.fnExactAllTakesSpec.plain.varTypes Tryz.prog ++ Tryz.f5.resultTypes.toList).any (Tryz.prog.wideKeysFrom ·))) = true:=by kernel_rfl
theorem k18_:(Rows.fnExactAllTakesSpec.vars.all (Tryz.prog.varReadable ·)) = true:=by kernel_rfl
theorem k19_:(Tryz.f5.resultTypes.all (fun t => Tryz.prog.readableRec t && decide (t < Tryz.prog.types.size))) = true:=by kernel_rfl
theorem k20_:((Rows.fnExactAllTakesRow.ifacesOut == Tryz.f5.resultTypes.toList.any (Tryz.prog.ifacesRec ·))) = true:=by kernel_rfl
theorem k21_:((Rows.fnExactAllTakesRow.loopsOut == Tryz.f5.resultTypes.toList.any (Tryz.prog.loopsFrom ·))) = true:=by kernel_rfl
theorem k22_:((Rows.fnExactAllTakesRow.plainKeys == Tryz.prog.plainKeys)) = true:=by kernel_rfl
theorem k23_:(Rows.fnExactAllTakesRow.shortTexts.isNone) = true:=by kernel_rfl
theorem k24_:(Tryz.prog.stopsHeard) = true:=Closed.stopsHeard
theorem k25_:(Tryz.prog.mayEnter) = true:=Closed.mayEnter
theorem k26_:((Rows.fnExactAllTakesRow.lifted == Tryz.prog.liftsFinal)) = true:=by rw [Closed.liftsFinal]; kernel_rfl
theorem k27_:((Tryz.prog.make == some Rows.fnExactAllTakesRow.make)) = true:=by rw [Closed.make]; kernel_rfl
theorem k28_:((Rows.fnExactAllTakesRow.kinds == [])) = true:=by kernel_rfl
theorem k29_:((Rows.fnExactAllTakesRow.pinned == Rows.fnExactAllTakesRow.pinnedBy)) = true:=by kernel_rfl
theorem k30_:((Rows.fnExactAllTakesRow.veiled == (Tryz.f5.params.toList ++ Rows.fnExactAllTakesSpec.plain.varTypes Tryz.prog ++ Tryz.f5.resultTypes.toList).any (Tryz.prog.veiledRec ·))) = true:=by kernel_rfl
theorem k31_:(Rows.fnExactAllTakesRow.veiledFits Tryz.prog Tryz.f5.params.toList (Tryz.f5.params.toList ++ Rows.fnExactAllTakesSpec.plain.varTypes Tryz.prog ++ Tryz.f5.resultTypes.toList)) = true:=by kernel_rfl
theorem k99_:(Rows.fnExactAllTakesRow.domain.isEmpty) = true:=by kernel_rfl
theorem closed:joinedFacts Tryz.prog 5 Tryz.f5 Rows.fnExactAllTakesSpec Rows.fnExactAllTakesRow = true :=
 joined_mk _ _ _ _ _ k0_ k1_ k2_ k3_ k4_ k5_ k6_ k7_ k8_ k9_ k10_ k11_ k12_ k13_ k14_ k15_ k16_ k17_ k18_ k19_ k20_ k21_ k22_ k23_ k24_ k25_ k26_ k27_ k99_ k28_ k29_ k30_ k31_
theorem over:Rows.fnExactAllTakesRow.holds Tryz.pinned (OpenSpec.ofChange Rows.fnExactAllTakesSpec) :=
 OpenClaim.holds_of_wide 5 Tryz.f5 rfl rfl rfl rfl rfl rfl rfl ⟨rfl,rfl,rfl,rfl,rfl⟩ rfl rfl rfl rfl rfl (by kernel_rfl) Tryz.func5 closed
  (of_decide_eq_true (by kernel_rfl)) (by unfold Func.isWrapper; first | (rw [if_pos (by decide +kernel)]; kernel_rfl) | (rw [if_neg (by decide +kernel)]; exact ⟨rfl,rfl⟩))
  (fun os started H enc _ => lifted os started H enc)
theorem card:Rows.FnExactAllTakesCardSaid :=
 Claim7.holds_tied_plain_at .later [] [.data] true (true, "09797953e7075cab7d6d9996ecb93b1fb5fd9987416a131e5383d57410b0ea4f") false
  over (fun _ h => by cases h) (by kernel_rfl) (fun _ h => by cases h) fnExactAllTakes_row_tie rfl ⟨rfl,rfl⟩ (by kernel_rfl) rfl
  (fun f fn hf hfn => by
   obtain rfl : f = 5 := Option.some.inj ((show Tryz.prog.funcNamed "loop.example/g01233/laws.FnExactAllTakes" = some 5 by kernel_rfl).symm.trans hf) |>.symm
   obtain rfl:fn = Tryz.f5:=(Option.some.inj (Tryz.func5.symm.trans hfn)).symm
   exact ⟨by kernel_rfl,fun j t ht => by
    rw [Tryz.params5] at ht
    have h3:t = 24 ∨ t = 3 ∨ t = 4:=by
     rcases j with _ | _ | _ | _ | _ | j
     all_goals first | (left; simpa using ht.symm) | (right; left; simpa using ht.symm) | (right; right; simpa using ht.symm) | simp at ht
    rcases h3 with rfl | rfl | rfl
    ·exact (show Tryz.prog.wantsStandIn 24 = false by kernel_rfl)
    ·exact (show Tryz.prog.wantsStandIn 3 = false by kernel_rfl)
    ·exact (show Tryz.prog.wantsStandIn 4 = false by kernel_rfl)⟩)
  (by kernel_rfl)
end Go.Proofs.YtehjfaddhmdicaaGreatDoor.fnExactAllTakes
namespace Go.Proofs.YtehjfaddhmdicaaGreatDoor
theorem fnExactAllTakes_holds : Rows.FnExactAllTakesCardSaid := fnExactAllTakes.card
end Go.Proofs.YtehjfaddhmdicaaGreatDoor
