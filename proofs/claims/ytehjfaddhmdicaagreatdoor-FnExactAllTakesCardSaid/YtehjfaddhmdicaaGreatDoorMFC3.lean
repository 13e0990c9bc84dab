/- For every input the law FnExactAllTakes answers true: the program's AllTakes tells what the reference's AllTakes tells; no condition. (part 3 of the proof; the words of the kit's print tool and the texts of this seat, merged by a program) -/
import Derived.Deep.RegionLaw
import Derived.Laws.Bits64b
import Derived.Lib.TrailingZeros
import Derived.Test.YtehjfaddhmdicaaGreatDoorMFC2
namespace Go.Proofs.YtehjfaddhmdicaaGreatDoor.P
open Go.RowKit Go.Proofs.YtehjfaddhmdicaaGreatDoorW.PrintWords Go.Proofs.YtehjfaddhmdicaaGreatDoorW.PrintLast Go.Proofs.YtehjfaddhmdicaaGreatDoorW.PrintMore
attribute [local go_sem] max2_int min2_int max_two min_two max_three min_three max_four min_four   -- for this text's walks alone
set_option linter.unusedVariables false
set_option linter.unusedSimpArgs false

def impl_countOf.l0:Nat → Int → Int → List (S100) → Int → Int → Option (Int)
  | 0,_,_,_,_,_ => none
  | k + 1,x1,x5,x8,x9,x10 => if x10 < x9 then (if 0 ≤ x10 then (if x10 < (x8.length:Int) then ((impl_bit.f ((Go.bits .andNot .u64 ((rd_T100 x8 x10).f3) x1) == 0)).bind fun t263 => (impl_countOf.l0 k x1 (wrap64 (x5 + t263)) x8 x9 (wrap64 (x10 + 1)))) else (none)) else (none)) else (some x5)
def impl_countOf.f (k:Nat) (l0:List (S100)) (a1:Int):Option (Int):=impl_countOf.l0 k a1 0 l0 (l0.length:Int) 0
theorem impl_countOf.mono_l:∀ k,(∀ y0 y1 y2 y3 y4,LeO (impl_countOf.l0 k y0 y1 y2 y3 y4) (impl_countOf.l0 (k + 1) y0 y1 y2 y3 y4))
  | 0 => fun _ _ _ _ _ r h => by simp [impl_countOf.l0] at h
  | k + 1 => by
    have ih0:=impl_countOf.mono_l k
    · intro y0 y1 y2 y3 y4
      unfold impl_countOf.l0
      repeat' first | (with_reducible first | exact ih0 _ _ _ _ _ | exact LeO.refl _ | exact LeO.none _ | refine LeO.ite ?_ ?_ | refine LeO.bind ?_ (fun _ => ?_)) | exact ih0 _ _ _ _ _
theorem impl_countOf.mono:∀ a0 a1 k,LeO (impl_countOf.f k a0 a1) (impl_countOf.f (k + 1) a0 a1):=by
  intro a0 a1 k
  have ih0:=impl_countOf.mono_l k
  unfold impl_countOf.f
  repeat' first | (with_reducible first | exact ih0 _ _ _ _ _ | exact LeO.refl _ | exact LeO.none _ | refine LeO.ite ?_ ?_ | refine LeO.bind ?_ (fun _ => ?_)) | exact ih0 _ _ _ _ _
set_option maxHeartbeats 8000000 in
set_option maxRecDepth 100000 in
theorem impl_countOf.calls (k:Nat) (A0:Option Addr) (c0:Nat) (l0:List (S100)) (a1:Int) (r:Int) (w:World) (hr0:Kd.C k100 w A0 l0.length l0) (hc0:l0.length ≤ c0) (h:impl_countOf.f k l0 a1 = some r) :
    Calls Tryz.prog 61 #[.slice A0 l0.length c0,.int .u64 a1] w fun e w' => e = .returned (.int .i64 r) ∧ Below w.heap.size w w':=by
  have hu100:=Tryz.underlying100
  have HR0:=am_ hr0
  have HC0:=am_ hc0
  clear hr0 hc0
  have HB:=am_ (Below.refl w.heap.size w)
  have H:(impl_countOf.l0 k a1 0 l0 (l0.length:Int) 0) = some r:=h
  clear h
  have H':=am_ H
  clear H
  go_enter Tryz.func61,Tryz.ntmps61
  go_wp2
  go_loopg [5,10] k (fun kq v5 v10 w' => ∃ (x5_1:Int) (x10_1:Int),v5 = .int .i64 x5_1 ∧ v10 = .int .i64 x10_1 ∧ Aside0 (impl_countOf.l0 kq a1 x5_1 l0 (l0.length:Int) x10_1 = some r) ∧ Aside0 (kq ≤ k) ∧ Aside0 (Below w.heap.size w w'))
  case atStart => exact ⟨(0),(0),rs_,rs_,H',⟨Nat.le_refl _⟩,⟨bl0_ HB.out⟩⟩
  case round =>
    clear H'
    try clear p2
    obtain ⟨x5_1,x10_1,rfl,rfl,HA,HK1,HB⟩:=hrel
    cases gk with
    | zero => exact absurd HA.out (by simp [impl_countOf.l0])
    | succ k1 =>
      have H:=HA.out
      clear HA
      simp only [impl_countOf.l0] at H
      by_cases c3:x10_1 < (l0.length:Int)
      · rw [if_pos c3] at H
        have c3b0:decide (x10_1 < (l0.length:Int)) = true:=decide_eq_true c3
        clear c3
        by_cases c4:0 ≤ x10_1
        · rw [if_pos c4] at H
          have c4b0:decide (0 ≤ x10_1) = true:=decide_eq_true c4
          clear c4
          by_cases c5:x10_1 < (l0.length:Int)
          · rw [if_pos c5] at H
            have c5b0:decide (x10_1 < (l0.length:Int)) = true:=decide_eq_true c5
            clear c5
            replace H:=bi_ H
            obtain ⟨t263,A60,H⟩:=H
            replace H:(impl_countOf.l0 k1 a1 (wrap64 (x5_1 + t263)) l0 (l0.length:Int) (wrap64 (x10_1 + 1))) = some r:=H
            have A6:=am_ A60
            clear A60
            have H':=am_ H
            clear H
            have p261:0 ≤ (x10_1:Int):=of_decide_eq_true as_
            have q261:x10_1 < (l0.length:Int):=of_decide_eq_true as_
            obtain ⟨ad261,e261,hx261_0,hx261_1,hx261_2,hx261_3⟩:=at_T100 HR0.out x10_1 p261 q261
            cases e261
            replace hx261_0:=(HB.out.cell (wl_ w _ hx261_0)).trans hx261_0
            replace hx261_1:=(HB.out.cell (wl_ w _ hx261_1)).trans hx261_1
            replace hx261_2:=(HB.out.cell (wl_ w _ hx261_2)).trans hx261_2
            replace hx261_3:=(HB.out.cell (wl_ w _ hx261_3)).trans hx261_3
            replace p261:=eq_true p261
            replace q261:=eq_true q261
            go_wp2_with (first | ((with_reducible refine gate_dst (N:=7) rfl ?_); refine boxE_ (N:=7) (cs:=#[.int .i64 0,.int .i64 0,.int .i64 0,.int .u64 0]) (t:=100) ?_; intro gb262 hg w7 hbox hb; have n0_:=am_ (below_step (bl0_ HB.out) hb); have n1_:=am_ (hbox); have n2_:=am_ ((bs0_ hg HB.out:w.heap.size ≤ gb262)); have n3_:=am_ ((bs0_ hg HB.out:w.heap.size ≤ gb262)); clear HB; have HB:=n0_; have BK262:=n1_; have GW262:=n2_; have GE262:=n3_; clear n0_ n1_ n2_ n3_; clear hb hbox hg; have hcz8_0:w7.cell? ⟨gb262,0,none⟩ = some (.int .i64 0):=(bc_ BK262.out 0).trans rfl; have hcz8_1:w7.cell? ⟨gb262,1,none⟩ = some (.int .i64 0):=(bc_ BK262.out 1).trans rfl; have hcz8_2:w7.cell? ⟨gb262,2,none⟩ = some (.int .i64 0):=(bc_ BK262.out 2).trans rfl; have hcz8_3:w7.cell? ⟨gb262,3,none⟩ = some (.int .u64 0):=(bc_ BK262.out 3).trans rfl; have hfz8_0:=bz_ BK262.out 0; have hfz8_1:=bz_ BK262.out 1; have hfz8_2:=bz_ BK262.out 2; have hfz8_3:=bz_ BK262.out 3) | ((with_reducible refine gate_callee (f:=84) rfl ?_); refine goesL_ (some 20) rfl rfl Tryz.func84 (by kernel_rfl) rfl #[.bool ((Go.bits .andNot .u64 ((rd_T100 l0 x10_1).f3) a1) == 0)] rfl ob_ ?_; (with_reducible refine (impl_bit.calls ((Go.bits .andNot .u64 ((rd_T100 l0 x10_1).f3) a1) == 0) t263 _ A6.out).mono ?_); rintro e w' ⟨rfl,⟨nd,rfl⟩⟩; refine ⟨_,rfl,?_⟩))
            go_roundg k1
            case measure => have:=HK1.out; omega
            case rel => exact ⟨(wrap64 (x5_1 + t263)),(wrap64 (x10_1 + 1)),rs_,rs_,H',⟨by have:=HK1.out; omega⟩,⟨bl1_ HB.out GE262.out⟩⟩
          · rw [if_neg c5] at H
            exact absurd H (by simp)
        · rw [if_neg c4] at H
          exact absurd H (by simp)
      · rw [if_neg c3] at H
        have c3b0:decide (x10_1 < (l0.length:Int)) = false:=decide_eq_false c3
        clear c3
        obtain rfl:=Option.some.inj H
        go_wp2
        go_ret
        exact ⟨er_,bl0_ HB.out⟩


theorem countOf_l0 (L:List S100) (E:List Nat) (h:L.map (fun q => q.f3) = E.map (fun n:Nat => (n:Int))) (hl:E.length ≤ 30) (x:Nat) (hb:∀ e ∈ E,impl_bit.f ((Go.bits .andNot .u64 ((e:Nat):Int) (x:Int)) == 0) = some ((if subE e x = true then 1 else 0:Nat):Int)):∀ (d k i m:Nat),E.length - i = d → i ≤ E.length → d < k → m ≤ i →
    impl_countOf.l0 k (x:Int) (m:Int) L (L.length:Int) (i:Int) = some ((m + cntN (E.drop i) x:Nat):Int):=by
  have hlen:L.length = E.length:=by have:=congrArg List.length h; simpa using this
  intro d
  induction d with
  | zero =>
    intro k i m h1 h2 h3 h4
    obtain ⟨k,rfl⟩:∃ q,k = q + 1:=⟨k - 1,by omega⟩
    simp only [impl_countOf.l0]
    rw [if_neg (by omega),List.drop_of_length_le (by omega)]
    rfl
  | succ d ih =>
    intro k i m h1 h2 h3 h4
    obtain ⟨k,rfl⟩:∃ q,k = q + 1:=⟨k - 1,by omega⟩
    have hi:i < E.length:=by omega
    obtain ⟨hiL,hat⟩:=map_at h z100 i hi
    have hrd:(rd_T100 L (i:Int)).f3 = ((E[i]:Nat):Int):=by unfold rd_T100; rw [Int.toNat_natCast]; exact hat
    simp only [impl_countOf.l0]
    rw [if_pos (by omega),if_pos (by omega),if_pos (by omega),hrd,hb _ (List.getElem_mem hi),Option.bind_some,wrap_i1 i (by omega),List.drop_eq_getElem_cons hi,cntN_cons]
    have hq1:(if subE E[i] x = true then 1 else 0:Nat) ≤ 1:=by split <;> omega
    generalize (if subE E[i] x = true then 1 else 0:Nat) = q at hq1
    have hih:=ih k (i + 1) (m + q) (by omega) (by omega) (by omega) (by omega)
    rw [wrap_q m q (by omega) hq1,hih,Nat.add_assoc]
theorem countOf_f {L:List S100} {E:List Nat} (h:L.map (fun q => q.f3) = E.map (fun n:Nat => (n:Int))) (hE:∀ e ∈ E,e < 2 ^ 60) (hl:E.length ≤ 30) (x:Nat) (hx:x < 2 ^ 60) (k:Nat) (hk:40 ≤ k):impl_countOf.f k L (x:Int) = some ((cntN E x:Nat):Int):=by
  have q:=countOf_l0 L E h hl x (fun e he => bit_sub (hE e he) hx) E.length k 0 0 (Nat.sub_zero _) (Nat.zero_le _) (Nat.lt_of_lt_of_le (Nat.lt_of_le_of_lt hl (by decide)) hk) (Nat.le_refl _)
  rw [List.drop_zero,Nat.zero_add] at q
  exact q


def spec_sqFew.f (k:Nat) (a0_0:Int) (a0_1:Int) (l0_2:List Int) (l0_3:List Int):Option (Bool):=(spec_fiGood.f k a0_0 a0_1 l0_2 l0_3).bind fun t116 => (if t116 = true then (some (decide ((wrap64 (a0_0 * a0_1)) ≤ 9))) else (some false))
theorem spec_sqFew.mono:∀ a0 a1 a2 a3 k,LeO (spec_sqFew.f k a0 a1 a2 a3) (spec_sqFew.f (k + 1) a0 a1 a2 a3):=by
  intro a0 a1 a2 a3 k
  unfold spec_sqFew.f
  repeat' first | (with_reducible first | exact spec_fiGood.mono _ _ _ _ _ | exact LeO.refl _ | exact LeO.none _ | refine LeO.ite ?_ ?_ | refine LeO.bind ?_ (fun _ => ?_)) | exact spec_fiGood.mono _ _ _ _ _
set_option maxHeartbeats 8000000 in
set_option maxRecDepth 100000 in
theorem spec_sqFew.calls (k:Nat) (a0_0:Int) (a0_1:Int) (A0_2:Option Addr) (c0_2:Nat) (l0_2:List Int) (A0_3:Option Addr) (c0_3:Nat) (l0_3:List Int) (r:Bool) (w:World) (hr0_2:Kd.C (Kd.int .i64) w A0_2 l0_2.length l0_2) (hc0_2:l0_2.length ≤ c0_2) (hr0_3:Kd.C (Kd.int .i64) w A0_3 l0_3.length l0_3) (hc0_3:l0_3.length ≤ c0_3) (h:spec_sqFew.f k a0_0 a0_1 l0_2 l0_3 = some r) :
    Calls Tryz.prog 45 #[.agg #[.int .i64 a0_0,.int .i64 a0_1,.slice A0_2 l0_2.length c0_2,.slice A0_3 l0_3.length c0_3]] w fun e w' => e = .returned (.bool r) ∧ Below w.heap.size w w':=by
  have hu26:=Tryz.underlying26
  have HR0_2:=am_ hr0_2
  have HC0_2:=am_ hc0_2
  clear hr0_2 hc0_2
  have HR0_3:=am_ hr0_3
  have HC0_3:=am_ hc0_3
  clear hr0_3 hc0_3
  have HB:=am_ (Below.refl w.heap.size w)
  have H:((spec_fiGood.f k a0_0 a0_1 l0_2 l0_3).bind fun t116 => (if t116 = true then (some (decide ((wrap64 (a0_0 * a0_1)) ≤ 9))) else (some false))) = some r:=h
  clear h
  replace H:=bi_ H
  obtain ⟨t116,A20,H⟩:=H
  replace H:(if t116 = true then (some (decide ((wrap64 (a0_0 * a0_1)) ≤ 9))) else (some false)) = some r:=H
  have A2:=am_ A20
  clear A20
  by_cases c3:t116 = true
  · subst c3
    have H1:(some (decide ((wrap64 (a0_0 * a0_1)) ≤ 9))) = some r:=by rw [if_pos rfl] at H; exact H
    clear H
    have H:=H1
    clear H1
    obtain rfl:=Option.some.inj H
    go_enter Tryz.func45,Tryz.ntmps45
    go_wp2_with (first | ((with_reducible refine gate_dst (N:=1) rfl ?_); refine boxE_ (N:=1) (cs:=#[.int .i64 a0_0,.int .i64 a0_1,.slice A0_2 l0_2.length c0_2,.slice A0_3 l0_3.length c0_3]) (t:=26) ?_; intro gb115 hg w4 hbox hb; have n0_:=am_ (below_step (bl0_ HB.out) hb); have n1_:=am_ (hbox); have n2_:=am_ ((bs0_ hg HB.out:w.heap.size ≤ gb115)); have n3_:=am_ ((bs0_ hg HB.out:w.heap.size ≤ gb115)); clear HB; have HB:=n0_; have BK115:=n1_; have GW115:=n2_; have GE115:=n3_; clear n0_ n1_ n2_ n3_; clear hb hbox hg; have hcz5_0:w4.cell? ⟨gb115,0,none⟩ = some (.int .i64 a0_0):=(bc_ BK115.out 0).trans rfl; have hcz5_1:w4.cell? ⟨gb115,1,none⟩ = some (.int .i64 a0_1):=(bc_ BK115.out 1).trans rfl; have hcz5_2:w4.cell? ⟨gb115,2,none⟩ = some (.slice A0_2 l0_2.length c0_2):=(bc_ BK115.out 2).trans rfl; have hcz5_3:w4.cell? ⟨gb115,3,none⟩ = some (.slice A0_3 l0_3.length c0_3):=(bc_ BK115.out 3).trans rfl; have hfz5_0:=bz_ BK115.out 0; have hfz5_1:=bz_ BK115.out 1; have hfz5_2:=bz_ BK115.out 2; have hfz5_3:=bz_ BK115.out 3) | ((with_reducible refine gate_callee (f:=63) rfl ?_); refine goesL_ (some 4) rfl rfl Tryz.func63 (by kernel_rfl) rfl #[.agg #[.int .i64 a0_0,.int .i64 a0_1,.slice A0_2 l0_2.length c0_2,.slice A0_3 l0_3.length c0_3]] rfl ob_ ?_; (with_reducible refine (spec_fiGood.calls k a0_0 a0_1 _ _ l0_2 _ _ l0_3 true _ ?side1 ?side2 ?side3 ?side4 A2.out).mono ?_); (case side1 => exact kc_ (Kd.C_below HR0_2.out HB.out)); (case side2 => exact HC0_2.out); (case side3 => exact kc_ (Kd.C_below HR0_3.out HB.out)); (case side4 => exact HC0_3.out); rintro e w6 ⟨rfl,hb⟩; refine ⟨_,rfl,?_⟩; have n0_:=am_ (bb_ BK115.out hb); have n1_:=am_ (below_step (bl1_ HB.out GE115.out) hb); clear BK115; clear HB; have BK115:=n0_; have HB:=n1_; clear n0_ n1_; (try clear hb); (try clear hb2); (try clear hk); (try clear hi); have hcz7_0:w6.cell? ⟨gb115,0,none⟩ = some (.int .i64 a0_0):=(bc_ BK115.out 0).trans rfl; have hcz7_1:w6.cell? ⟨gb115,1,none⟩ = some (.int .i64 a0_1):=(bc_ BK115.out 1).trans rfl; have hcz7_2:w6.cell? ⟨gb115,2,none⟩ = some (.slice A0_2 l0_2.length c0_2):=(bc_ BK115.out 2).trans rfl; have hcz7_3:w6.cell? ⟨gb115,3,none⟩ = some (.slice A0_3 l0_3.length c0_3):=(bc_ BK115.out 3).trans rfl; have hfz7_0:=bz_ BK115.out 0; have hfz7_1:=bz_ BK115.out 1; have hfz7_2:=bz_ BK115.out 2; have hfz7_3:=bz_ BK115.out 3))
    go_ret
    exact ⟨er_,bl1_ HB.out GE115.out⟩
  · replace c3:=Bool.eq_false_iff.mpr c3
    subst c3
    have H1:(some false) = some r:=by rw [if_neg (show ¬ (false = true) by decide)] at H; exact H
    clear H
    have H:=H1
    clear H1
    obtain rfl:=Option.some.inj H
    go_enter Tryz.func45,Tryz.ntmps45
    go_wp2_with (first | ((with_reducible refine gate_dst (N:=1) rfl ?_); refine boxE_ (N:=1) (cs:=#[.int .i64 a0_0,.int .i64 a0_1,.slice A0_2 l0_2.length c0_2,.slice A0_3 l0_3.length c0_3]) (t:=26) ?_; intro gb115 hg w8 hbox hb; have n0_:=am_ (below_step (bl0_ HB.out) hb); have n1_:=am_ (hbox); have n2_:=am_ ((bs0_ hg HB.out:w.heap.size ≤ gb115)); have n3_:=am_ ((bs0_ hg HB.out:w.heap.size ≤ gb115)); clear HB; have HB:=n0_; have BK115:=n1_; have GW115:=n2_; have GE115:=n3_; clear n0_ n1_ n2_ n3_; clear hb hbox hg; have hcz9_0:w8.cell? ⟨gb115,0,none⟩ = some (.int .i64 a0_0):=(bc_ BK115.out 0).trans rfl; have hcz9_1:w8.cell? ⟨gb115,1,none⟩ = some (.int .i64 a0_1):=(bc_ BK115.out 1).trans rfl; have hcz9_2:w8.cell? ⟨gb115,2,none⟩ = some (.slice A0_2 l0_2.length c0_2):=(bc_ BK115.out 2).trans rfl; have hcz9_3:w8.cell? ⟨gb115,3,none⟩ = some (.slice A0_3 l0_3.length c0_3):=(bc_ BK115.out 3).trans rfl; have hfz9_0:=bz_ BK115.out 0; have hfz9_1:=bz_ BK115.out 1; have hfz9_2:=bz_ BK115.out 2; have hfz9_3:=bz_ BK115.out 3) | ((with_reducible refine gate_callee (f:=63) rfl ?_); refine goesL_ (some 4) rfl rfl Tryz.func63 (by kernel_rfl) rfl #[.agg #[.int .i64 a0_0,.int .i64 a0_1,.slice A0_2 l0_2.length c0_2,.slice A0_3 l0_3.length c0_3]] rfl ob_ ?_; (with_reducible refine (spec_fiGood.calls k a0_0 a0_1 _ _ l0_2 _ _ l0_3 false _ ?side1 ?side2 ?side3 ?side4 A2.out).mono ?_); (case side1 => exact kc_ (Kd.C_below HR0_2.out HB.out)); (case side2 => exact HC0_2.out); (case side3 => exact kc_ (Kd.C_below HR0_3.out HB.out)); (case side4 => exact HC0_3.out); rintro e w10 ⟨rfl,hb⟩; refine ⟨_,rfl,?_⟩; have n0_:=am_ (bb_ BK115.out hb); have n1_:=am_ (below_step (bl1_ HB.out GE115.out) hb); clear BK115; clear HB; have BK115:=n0_; have HB:=n1_; clear n0_ n1_; (try clear hb); (try clear hb2); (try clear hk); (try clear hi)))
    go_ret
    exact ⟨er_,bl1_ HB.out GE115.out⟩


def spec_moAsked.f (k:Nat) (a0_0:Int) (a0_1:Int) (l0_2:List Int) (l0_3:List Int) (a1:Int) (a2:Bool):Option (Bool):=if a2 = true then ((spec_sqFew.f k a0_0 a0_1 l0_2 l0_3).bind fun t118 => (if t118 = true then ((spec_l1In.f a1 0 2).bind fun t119 => (some t119)) else (some false))) else ((spec_sqFew.f k a0_0 a0_1 l0_2 l0_3).bind fun t120 => (if t120 = true then ((spec_l1In.f a1 0 4).bind fun t121 => (some t121)) else (some false)))
theorem spec_moAsked.mono:∀ a0 a1 a2 a3 a4 a5 k,LeO (spec_moAsked.f k a0 a1 a2 a3 a4 a5) (spec_moAsked.f (k + 1) a0 a1 a2 a3 a4 a5):=by
 intro a0 a1 a2 a3 a4 a5 k
 unfold spec_moAsked.f
 repeat' first | (with_reducible first | exact spec_sqFew.mono _ _ _ _ _ | exact LeO.refl _ | exact LeO.none _ | refine LeO.ite ?_ ?_ | refine LeO.bind ?_ (fun _ => ?_)) | exact spec_sqFew.mono _ _ _ _ _
set_option maxHeartbeats 8000000 in
set_option maxRecDepth 100000 in
theorem spec_moAsked.calls (k:Nat) (a0_0:Int) (a0_1:Int) (A0_2:Option Addr) (c0_2:Nat) (l0_2:List Int) (A0_3:Option Addr) (c0_3:Nat) (l0_3:List Int) (a1:Int) (a2:Bool) (r:Bool) (w:World) (hr0_2:Kd.C (Kd.int .i64) w A0_2 l0_2.length l0_2) (hc0_2:l0_2.length ≤ c0_2) (hr0_3:Kd.C (Kd.int .i64) w A0_3 l0_3.length l0_3) (hc0_3:l0_3.length ≤ c0_3) (h:spec_moAsked.f k a0_0 a0_1 l0_2 l0_3 a1 a2 = some r) :
  Calls Tryz.prog 34 #[.agg #[.int .i64 a0_0,.int .i64 a0_1,.slice A0_2 l0_2.length c0_2,.slice A0_3 l0_3.length c0_3],.int .i64 a1,.bool a2] w fun e w' => e = .returned (.bool r) ∧ Below w.heap.size w w':=by
 have hu26:=Tryz.underlying26
 have HR0_2:=am_ hr0_2
 have HC0_2:=am_ hc0_2
 clear hr0_2 hc0_2
 have HR0_3:=am_ hr0_3
 have HC0_3:=am_ hc0_3
 clear hr0_3 hc0_3
 have HB:=am_ (Below.refl w.heap.size w)
 have H:(if a2 = true then ((spec_sqFew.f k a0_0 a0_1 l0_2 l0_3).bind fun t118 => (if t118 = true then ((spec_l1In.f a1 0 2).bind fun t119 => (some t119)) else (some false))) else ((spec_sqFew.f k a0_0 a0_1 l0_2 l0_3).bind fun t120 => (if t120 = true then ((spec_l1In.f a1 0 4).bind fun t121 => (some t121)) else (some false)))) = some r:=h
 clear h
 by_cases c4:a2 = true
 ·subst c4
  have H1:((spec_sqFew.f k a0_0 a0_1 l0_2 l0_3).bind fun t118 => (if t118 = true then ((spec_l1In.f a1 0 2).bind fun t119 => (some t119)) else (some false))) = some r:=by rw [if_pos rfl] at H; exact H
  clear H
  have H:=H1
  clear H1
  replace H:=bi_ H
  obtain ⟨t118,A50,H⟩:=H
  replace H:(if t118 = true then ((spec_l1In.f a1 0 2).bind fun t119 => (some t119)) else (some false)) = some r:=H
  have A5:=am_ A50
  clear A50
  by_cases c6:t118 = true
  ·subst c6
   have H1:((spec_l1In.f a1 0 2).bind fun t119 => (some t119)) = some r:=by rw [if_pos rfl] at H; exact H
   clear H
   have H:=H1
   clear H1
   replace H:=bi_ H
   obtain ⟨t119,A70,H⟩:=H
   replace H:(some t119) = some r:=H
   have A7:=am_ A70
   clear A70
   obtain rfl:=Option.some.inj H
   go_enter Tryz.func34,Tryz.ntmps34
   go_wp2_with (first | ((with_reducible refine gate_dst (N:=3) rfl ?_); refine boxE_ (N:=3) (cs:=#[.int .i64 a0_0,.int .i64 a0_1,.slice A0_2 l0_2.length c0_2,.slice A0_3 l0_3.length c0_3]) (t:=26) ?_; intro gb117 hg w8 hbox hb; have n0_:=am_ (below_step (bl0_ HB.out) hb); have n1_:=am_ (hbox); have n2_:=am_ ((bs0_ hg HB.out:w.heap.size ≤ gb117)); have n3_:=am_ ((bs0_ hg HB.out:w.heap.size ≤ gb117)); clear HB; have HB:=n0_; have BK117:=n1_; have GW117:=n2_; have GE117:=n3_; clear n0_ n1_ n2_ n3_; clear hb hbox hg; have hcz9_0:w8.cell? ⟨gb117,0,none⟩ = some (.int .i64 a0_0):=(bc_ BK117.out 0).trans rfl; have hcz9_1:w8.cell? ⟨gb117,1,none⟩ = some (.int .i64 a0_1):=(bc_ BK117.out 1).trans rfl; have hcz9_2:w8.cell? ⟨gb117,2,none⟩ = some (.slice A0_2 l0_2.length c0_2):=(bc_ BK117.out 2).trans rfl; have hcz9_3:w8.cell? ⟨gb117,3,none⟩ = some (.slice A0_3 l0_3.length c0_3):=(bc_ BK117.out 3).trans rfl; have hfz9_0:=bz_ BK117.out 0; have hfz9_1:=bz_ BK117.out 1; have hfz9_2:=bz_ BK117.out 2; have hfz9_3:=bz_ BK117.out 3) | ((with_reducible refine gate_callee (f:=45) rfl ?_); refine goesL_ (some 10) rfl rfl Tryz.func45 (by kernel_rfl) rfl #[.agg #[.int .i64 a0_0,.int .i64 a0_1,.slice A0_2 l0_2.length c0_2,.slice A0_3 l0_3.length c0_3]] rfl ob_ ?_; (with_reducible refine (spec_sqFew.calls k a0_0 a0_1 _ _ l0_2 _ _ l0_3 true _ ?side1 ?side2 ?side3 ?side4 A5.out).mono ?_); (case side1 => exact kc_ (Kd.C_below HR0_2.out HB.out)); (case side2 => exact HC0_2.out); (case side3 => exact kc_ (Kd.C_below HR0_3.out HB.out)); (case side4 => exact HC0_3.out); rintro e w10 ⟨rfl,hb⟩; refine ⟨_,rfl,?_⟩; have n0_:=am_ (bb_ BK117.out hb); have n1_:=am_ (below_step (bl1_ HB.out GE117.out) hb); clear BK117; clear HB; have BK117:=n0_; have HB:=n1_; clear n0_ n1_; (try clear hb); (try clear hb2); (try clear hk); (try clear hi)) | (go_at_call 46; (with_reducible refine (spec_l1In.calls a1 0 2 t119 _ A7.out).mono ?_); rintro e w' ⟨rfl,⟨nd,rfl⟩⟩))
   go_ret
   exact ⟨er_,bl1_ HB.out GE117.out⟩
  ·replace c6:=Bool.eq_false_iff.mpr c6
   subst c6
   have H1:(some false) = some r:=by rw [if_neg (show ¬ (false = true) by decide)] at H; exact H
   clear H
   have H:=H1
   clear H1
   obtain rfl:=Option.some.inj H
   go_enter Tryz.func34,Tryz.ntmps34
   go_wp2_with (first | ((with_reducible refine gate_dst (N:=3) rfl ?_); refine boxE_ (N:=3) (cs:=#[.int .i64 a0_0,.int .i64 a0_1,.slice A0_2 l0_2.length c0_2,.slice A0_3 l0_3.length c0_3]) (t:=26) ?_; intro gb117 hg w11 hbox hb; have n0_:=am_ (below_step (bl0_ HB.out) hb); have n1_:=am_ (hbox); have n2_:=am_ ((bs0_ hg HB.out:w.heap.size ≤ gb117)); have n3_:=am_ ((bs0_ hg HB.out:w.heap.size ≤ gb117)); clear HB; have HB:=n0_; have BK117:=n1_; have GW117:=n2_; have GE117:=n3_; clear n0_ n1_ n2_ n3_; clear hb hbox hg; have hcz12_0:w11.cell? ⟨gb117,0,none⟩ = some (.int .i64 a0_0):=(bc_ BK117.out 0).trans rfl; have hcz12_1:w11.cell? ⟨gb117,1,none⟩ = some (.int .i64 a0_1):=(bc_ BK117.out 1).trans rfl; have hcz12_2:w11.cell? ⟨gb117,2,none⟩ = some (.slice A0_2 l0_2.length c0_2):=(bc_ BK117.out 2).trans rfl; have hcz12_3:w11.cell? ⟨gb117,3,none⟩ = some (.slice A0_3 l0_3.length c0_3):=(bc_ BK117.out 3).trans rfl; have hfz12_0:=bz_ BK117.out 0; have hfz12_1:=bz_ BK117.out 1; have hfz12_2:=bz_ BK117.out 2; have hfz12_3:=bz_ BK117.out 3) | ((with_reducible refine gate_callee (f:=45) rfl ?_); refine goesL_ (some 10) rfl rfl Tryz.func45 (by kernel_rfl) rfl #[.agg #[.int .i64 a0_0,.int .i64 a0_1,.slice A0_2 l0_2.length c0_2,.slice A0_3 l0_3.length c0_3]] rfl ob_ ?_; (with_reducible refine (spec_sqFew.calls k a0_0 a0_1 _ _ l0_2 _ _ l0_3 false _ ?side1 ?side2 ?side3 ?side4 A5.out).mono ?_); (case side1 => exact kc_ (Kd.C_below HR0_2.out HB.out)); (case side2 => exact HC0_2.out); (case side3 => exact kc_ (Kd.C_below HR0_3.out HB.out)); (case side4 => exact HC0_3.out); rintro e w13 ⟨rfl,hb⟩; refine ⟨_,rfl,?_⟩; have n0_:=am_ (bb_ BK117.out hb); have n1_:=am_ (below_step (bl1_ HB.out GE117.out) hb); clear BK117; clear HB; have BK117:=n0_; have HB:=n1_; clear n0_ n1_; (try clear hb); (try clear hb2); (try clear hk); (try clear hi)))
   go_ret
   exact ⟨er_,bl1_ HB.out GE117.out⟩
 ·replace c4:=Bool.eq_false_iff.mpr c4
  subst c4
  have H1:((spec_sqFew.f k a0_0 a0_1 l0_2 l0_3).bind fun t120 => (if t120 = true then ((spec_l1In.f a1 0 4).bind fun t121 => (some t121)) else (some false))) = some r:=by rw [if_neg (show ¬ (false = true) by decide)] at H; exact H
  clear H
  have H:=H1
  clear H1
  replace H:=bi_ H
  obtain ⟨t120,A140,H⟩:=H
  replace H:(if t120 = true then ((spec_l1In.f a1 0 4).bind fun t121 => (some t121)) else (some false)) = some r:=H
  have A14:=am_ A140
  clear A140
  by_cases c15:t120 = true
  ·subst c15
   have H1:((spec_l1In.f a1 0 4).bind fun t121 => (some t121)) = some r:=by rw [if_pos rfl] at H; exact H
   clear H
   have H:=H1
   clear H1
   replace H:=bi_ H
   obtain ⟨t121,A160,H⟩:=H
   replace H:(some t121) = some r:=H
   have A16:=am_ A160
   clear A160
   obtain rfl:=Option.some.inj H
   go_enter Tryz.func34,Tryz.ntmps34
   go_wp2_with (first | ((with_reducible refine gate_dst (N:=3) rfl ?_); refine boxE_ (N:=3) (cs:=#[.int .i64 a0_0,.int .i64 a0_1,.slice A0_2 l0_2.length c0_2,.slice A0_3 l0_3.length c0_3]) (t:=26) ?_; intro gb117 hg w17 hbox hb; have n0_:=am_ (below_step (bl0_ HB.out) hb); have n1_:=am_ (hbox); have n2_:=am_ ((bs0_ hg HB.out:w.heap.size ≤ gb117)); have n3_:=am_ ((bs0_ hg HB.out:w.heap.size ≤ gb117)); clear HB; have HB:=n0_; have BK117:=n1_; have GW117:=n2_; have GE117:=n3_; clear n0_ n1_ n2_ n3_; clear hb hbox hg; have hcz18_0:w17.cell? ⟨gb117,0,none⟩ = some (.int .i64 a0_0):=(bc_ BK117.out 0).trans rfl; have hcz18_1:w17.cell? ⟨gb117,1,none⟩ = some (.int .i64 a0_1):=(bc_ BK117.out 1).trans rfl; have hcz18_2:w17.cell? ⟨gb117,2,none⟩ = some (.slice A0_2 l0_2.length c0_2):=(bc_ BK117.out 2).trans rfl; have hcz18_3:w17.cell? ⟨gb117,3,none⟩ = some (.slice A0_3 l0_3.length c0_3):=(bc_ BK117.out 3).trans rfl; have hfz18_0:=bz_ BK117.out 0; have hfz18_1:=bz_ BK117.out 1; have hfz18_2:=bz_ BK117.out 2; have hfz18_3:=bz_ BK117.out 3) | ((with_reducible refine gate_callee (f:=45) rfl ?_); refine goesL_ (some 10) rfl rfl Tryz.func45 (by kernel_rfl) rfl #[.agg #[.int .i64 a0_0,.int .i64 a0_1,.slice A0_2 l0_2.length c0_2,.slice A0_3 l0_3.length c0_3]] rfl ob_ ?_; (with_reducible refine (spec_sqFew.calls k a0_0 a0_1 _ _ l0_2 _ _ l0_3 true _ ?side1 ?side2 ?side3 ?side4 A14.out).mono ?_); (case side1 => exact kc_ (Kd.C_below HR0_2.out HB.out)); (case side2 => exact HC0_2.out); (case side3 => exact kc_ (Kd.C_below HR0_3.out HB.out)); (case side4 => exact HC0_3.out); rintro e w19 ⟨rfl,hb⟩; refine ⟨_,rfl,?_⟩; have n0_:=am_ (bb_ BK117.out hb); have n1_:=am_ (below_step (bl1_ HB.out GE117.out) hb); clear BK117; clear HB; have BK117:=n0_; have HB:=n1_; clear n0_ n1_; (try clear hb); (try clear hb2); (try clear hk); (try clear hi)) | (go_at_call 46; (with_reducible refine (spec_l1In.calls a1 0 4 t121 _ A16.out).mono ?_); rintro e w' ⟨rfl,⟨nd,rfl⟩⟩))
   go_ret
   exact ⟨er_,bl1_ HB.out GE117.out⟩
  ·replace c15:=Bool.eq_false_iff.mpr c15
   subst c15
   have H1:(some false) = some r:=by rw [if_neg (show ¬ (false = true) by decide)] at H; exact H
   clear H
   have H:=H1
   clear H1
   obtain rfl:=Option.some.inj H
   go_enter Tryz.func34,Tryz.ntmps34
   go_wp2_with (first | ((with_reducible refine gate_dst (N:=3) rfl ?_); refine boxE_ (N:=3) (cs:=#[.int .i64 a0_0,.int .i64 a0_1,.slice A0_2 l0_2.length c0_2,.slice A0_3 l0_3.length c0_3]) (t:=26) ?_; intro gb117 hg w20 hbox hb; have n0_:=am_ (below_step (bl0_ HB.out) hb); have n1_:=am_ (hbox); have n2_:=am_ ((bs0_ hg HB.out:w.heap.size ≤ gb117)); have n3_:=am_ ((bs0_ hg HB.out:w.heap.size ≤ gb117)); clear HB; have HB:=n0_; have BK117:=n1_; have GW117:=n2_; have GE117:=n3_; clear n0_ n1_ n2_ n3_; clear hb hbox hg; have hcz21_0:w20.cell? ⟨gb117,0,none⟩ = some (.int .i64 a0_0):=(bc_ BK117.out 0).trans rfl; have hcz21_1:w20.cell? ⟨gb117,1,none⟩ = some (.int .i64 a0_1):=(bc_ BK117.out 1).trans rfl; have hcz21_2:w20.cell? ⟨gb117,2,none⟩ = some (.slice A0_2 l0_2.length c0_2):=(bc_ BK117.out 2).trans rfl; have hcz21_3:w20.cell? ⟨gb117,3,none⟩ = some (.slice A0_3 l0_3.length c0_3):=(bc_ BK117.out 3).trans rfl; have hfz21_0:=bz_ BK117.out 0; have hfz21_1:=bz_ BK117.out 1; have hfz21_2:=bz_ BK117.out 2; have hfz21_3:=bz_ BK117.out 3) | ((with_reducible refine gate_callee (f:=45) rfl ?_); refine goesL_ (some 10) rfl rfl Tryz.func45 (by kernel_rfl) rfl #[.agg #[.int .i64 a0_0,.int .i64 a0_1,.slice A0_2 l0_2.length c0_2,.slice A0_3 l0_3.length c0_3]] rfl ob_ ?_; (with_reducible refine (spec_sqFew.calls k a0_0 a0_1 _ _ l0_2 _ _ l0_3 false _ ?side1 ?side2 ?side3 ?side4 A14.out).mono ?_); (case side1 => exact kc_ (Kd.C_below HR0_2.out HB.out)); (case side2 => exact HC0_2.out); (case side3 => exact kc_ (Kd.C_below HR0_3.out HB.out)); (case side4 => exact HC0_3.out); rintro e w22 ⟨rfl,hb⟩; refine ⟨_,rfl,?_⟩; have n0_:=am_ (bb_ BK117.out hb); have n1_:=am_ (below_step (bl1_ HB.out GE117.out) hb); clear BK117; clear HB; have BK117:=n0_; have HB:=n1_; clear n0_ n1_; (try clear hb); (try clear hb2); (try clear hk); (try clear hi)))
   go_ret
   exact ⟨er_,bl1_ HB.out GE117.out⟩


def spec_moSquares.f (a0:Int):Option (Bool):=(spec_l1In.f a0 0 100).bind fun t122 => (some t122)
set_option maxHeartbeats 8000000 in
set_option maxRecDepth 100000 in
theorem spec_moSquares.calls (a0:Int) (r:Bool) (w:World) (h:spec_moSquares.f a0 = some r) :
    Calls Tryz.prog 35 #[.int .i64 a0] w fun e w' => e = .returned (.bool r) ∧ Drawn0 w w':=by
  have H:((spec_l1In.f a0 0 100).bind fun t122 => (some t122)) = some r:=h
  clear h
  replace H:=bi_ H
  obtain ⟨t122,A20,H⟩:=H
  replace H:(some t122) = some r:=H
  have A2:=am_ A20
  clear A20
  obtain rfl:=Option.some.inj H
  go_enter Tryz.func35,Tryz.ntmps35
  go_wp2_with (first | ((with_reducible refine gate_callee (f:=46) rfl ?_); refine goesL_ (some 4) rfl rfl Tryz.func46 (by kernel_rfl) rfl #[.int .i64 a0,.int .i64 0,.int .i64 100] rfl ob_ ?_; (with_reducible refine (spec_l1In.calls a0 0 100 t122 _ A2.out).mono ?_); rintro e w' ⟨rfl,⟨nd,rfl⟩⟩; refine ⟨_,rfl,?_⟩))
  go_ret
  exact ⟨by first | rfl | (simp; done) | (simp [*]; done),by repeat (first | exact Drawn0.refl _ | apply Drawn0.step)⟩


def spec_moBits.l0:Nat → Int → Int → List Int → Int → Option (List Int)
  | 0,_,_,_,_ => none
  | k + 1,x0,x1,x5,x6 => if x6 < (wrap64 ((wrap64 ((wrap64 ((wrap64 (2 * x0)) * x1)) + x0)) + x1)) then (if 0 ≤ x6 then (if x5.length < 17592186044416 then (spec_moBits.l0 k x0 x1 (x5 ++ [shl .i64 1 x6]) (wrap64 (x6 + 1))) else (none)) else (none)) else (some x5)
def spec_moBits.f (k:Nat) (a0:Int) (a1:Int):Option (List Int):=spec_moBits.l0 k a0 a1 ([]:List Int) 0
theorem spec_moBits.mono_l:∀ k,(∀ y0 y1 y2 y3,LeO (spec_moBits.l0 k y0 y1 y2 y3) (spec_moBits.l0 (k + 1) y0 y1 y2 y3))
  | 0 => fun _ _ _ _ r h => by simp [spec_moBits.l0] at h
  | k + 1 => by
    have ih0:=spec_moBits.mono_l k
    · intro y0 y1 y2 y3
      unfold spec_moBits.l0
      repeat' first | (with_reducible first | exact ih0 _ _ _ _ | exact LeO.refl _ | exact LeO.none _ | refine LeO.ite ?_ ?_ | refine LeO.bind ?_ (fun _ => ?_)) | exact ih0 _ _ _ _
theorem spec_moBits.mono:∀ a0 a1 k,LeO (spec_moBits.f k a0 a1) (spec_moBits.f (k + 1) a0 a1):=by
  intro a0 a1 k
  have ih0:=spec_moBits.mono_l k
  unfold spec_moBits.f
  repeat' first | (with_reducible first | exact ih0 _ _ _ _ | exact LeO.refl _ | exact LeO.none _ | refine LeO.ite ?_ ?_ | refine LeO.bind ?_ (fun _ => ?_)) | exact ih0 _ _ _ _
set_option maxHeartbeats 8000000 in
set_option maxRecDepth 100000 in
theorem spec_moBits.calls (k:Nat) (a0:Int) (a1:Int) (r:List Int) (w:World) (h:spec_moBits.f k a0 a1 = some r) :
    Calls Tryz.prog 66 #[.int .i64 a0,.int .i64 a1] w fun e w' => ∃ v0_:Value,e = .returned (v0_) ∧ Kd.R (Kd.int .i64) 3 w' w.heap.size (fun _ => True) v0_ r ∧ Below w.heap.size w w':=by
  have HB:=am_ (Below.refl w.heap.size w)
  have H:(spec_moBits.l0 k a0 a1 ([]:List Int) 0) = some r:=h
  clear h
  have H':=am_ H
  clear H
  go_enter Tryz.func66,Tryz.ntmps66
  go_wp2
  go_loopg [5,6] k (fun kq v5 v6 w' => ∃ (x5_1:List Int) (x6_1:Int),v6 = .int .i64 x6_1 ∧ Aside0 (spec_moBits.l0 kq a0 a1 x5_1 x6_1 = some r) ∧ Aside0 (kq ≤ k) ∧ Aside0 (Kd.R (Kd.int .i64) 3 w' w.heap.size (fun _ => True) v5 x5_1) ∧ Aside0 (Below w.heap.size w w'))
  case atStart => exact ⟨(([]:List Int)),(0),rs_,H',⟨Nat.le_refl _⟩,⟨by first | exact Kd.R_nil _ _ _ _ _ | exact Kd.N_nil _ _ _ _ _ | exact Kd.V_nil _ _ _ _ _ | exact Kd.Q_nil _ _ _ _ _ | exact Kd.S_nil _ _ _ _ _⟩,⟨bl0_ HB.out⟩⟩
  case round =>
    clear H'
    try clear p2
    obtain ⟨x5_1,x6_1,rfl,HA,HK1,HO_5,HB⟩:=hrel
    cases gk with
    | zero => exact absurd HA.out (by simp [spec_moBits.l0])
    | succ k1 =>
      have H:=HA.out
      clear HA
      simp only [spec_moBits.l0] at H
      by_cases c3:x6_1 < (wrap64 ((wrap64 ((wrap64 ((wrap64 (2 * a0)) * a1)) + a0)) + a1))
      · rw [if_pos c3] at H
        have c3b0:decide (x6_1 < (wrap64 ((wrap64 ((wrap64 ((wrap64 (2 * a0)) * a1)) + a0)) + a1))) = true:=decide_eq_true c3
        clear c3
        by_cases c4:0 ≤ x6_1
        · rw [if_pos c4] at H
          have c4b0:=eq_true c4
          have c4b1:decide (0 ≤ x6_1) = true:=decide_eq_true c4
          clear c4
          obtain ⟨ji5,hji5⟩:∃ j_:Int,(shl .i64 1 x6_1) = j_:=⟨_,rfl⟩
          replace H:(if x5_1.length < 17592186044416 then (spec_moBits.l0 k1 a0 a1 (x5_1 ++ [ji5]) (wrap64 (x6_1 + 1))) else (none)) = some r:=by first | (rw [hji5] at H; exact H) | (simp only [hji5] at H ⊢; exact H)
          have hji5_:(IntKind.i64.wrap (1 * 2 ^ min x6_1.toNat 64)) = ji5:=hji5
          have hji5z:x6_1 ≤ 64 → (IntKind.i64.wrap (1 * 2 ^ x6_1.toNat)) = ji5:=shl_small hji5
          have hji5u:(IntKind.i64.wrap (2 ^ min x6_1.toNat 64)) = ji5:=by have h_:=hji5_; rw [Int.one_mul] at h_; exact h_
          have hji5v:x6_1 ≤ 64 → (IntKind.i64.wrap (2 ^ x6_1.toNat)) = ji5:=fun hle_ => by have h_:=hji5z hle_; rw [Int.one_mul] at h_; exact h_
          have hji5y:(wrap64 (1 * 2 ^ min x6_1.toNat 64)) = ji5:=(i64_w _).symm.trans hji5_
          have hji5x:x6_1 ≤ 64 → (wrap64 (1 * 2 ^ x6_1.toNat)) = ji5:=fun h_ => (i64_w _).symm.trans (hji5z h_)
          by_cases c6:x5_1.length < 17592186044416
          · rw [if_pos c6] at H
            have LMc6:=am_ c6
            clear c6
            obtain ⟨y136,hy136⟩:∃ y_:List Int,y_ = (x5_1 ++ [ji5]):=⟨_,rfl⟩
            replace H:(spec_moBits.l0 k1 a0 a1 y136 (wrap64 (x6_1 + 1))) = some r:=by first | (rw [hy136]; with_reducible exact H) | (have H2_:=(Option.bind_some _ _).symm.trans H; rw [hy136]; with_reducible exact H2_) | (have H2_:=(Option.bind_some _ _).symm.trans H; with_reducible exact H2_) | with_reducible exact H | (rw [hy136]; exact H) | exact H
            have Ny136:=am_ hy136
            clear hy136
            have H':=am_ H
            clear H
            go_wp2_with (first | ((with_reducible refine gate_builtin (b:=.append) (xs:=#[.tmp 19,.tmp 22]) rfl ?_); at_builtin; refine Kd.R_append (Kd.int .i64) (w0:=w) w.heap.size rfl (.tmp 19) (.tmp 22) 22 3 (.int .i64 0) 8 rfl Tryz.underlying22 info3 rfl (by decide) (by omega) u5 x5_1 ji5 [.int .i64 ji5] (fun _ => True) (fun _ => False) rfl rfl ?aP (fun _ hk => hk.elim) ?aF ?aO ?aB ?aS ?aL ?_; (case aP => exact rfl); (case aB => exact (bl0_ HB.out)); (case aF => exact (fun _ _ => trivial)); (case aO => exact (kr_ HO_5.out)); (case aS => exact (below_size (bl0_ HB.out))); (case aL => have:=LMc6.out; omega); intro v137 w7 ho hb hg hat; rw [← Ny136.out] at ho; have n0_:=am_ (hb); have n1_:=am_ (ho); clear HB; clear HO_5; have HB:=n0_; have HO138:=n1_; clear n0_ n1_; clear ho hb hg hat))
            go_roundg k1
            case measure => have:=HK1.out; omega
            case rel => exact ⟨(y136),(wrap64 (x6_1 + 1)),rs_,H',⟨by have:=HK1.out; omega⟩,⟨kr_ HO138.out⟩,⟨bl0_ HB.out⟩⟩
          · rw [if_neg c6] at H
            exact absurd H (by simp)
        · rw [if_neg c4] at H
          exact absurd H (by simp)
      · rw [if_neg c3] at H
        have c3b0:decide (x6_1 < (wrap64 ((wrap64 ((wrap64 ((wrap64 (2 * a0)) * a1)) + a0)) + a1))) = false:=decide_eq_false c3
        clear c3
        obtain rfl:=Option.some.inj H
        go_wp2
        go_ret
        exact ⟨_,er_,by (with_reducible repeat (first | apply Kd.R_alloc | apply Kd.R_drewN | apply Kd.R_drew)); exact HO_5.out,bl0_ HB.out⟩


structure FrameBut (O:Nat → Prop) (w w':World):Prop where
  os:w'.os = w.os
  tape:w'.tape = w.tape
  output:w'.output = w.output
  size:w.heap.size ≤ w'.heap.size
  block:∀ k,k < w.heap.size → ¬ O k → w'.heap[k]? = w.heap[k]?
theorem FrameBut.refl (O:Nat → Prop) (w:World):FrameBut O w w:=⟨rfl,rfl,rfl,Nat.le_refl _,fun _ _ _ => rfl⟩
theorem FrameBut.trans {O O1:Nat → Prop} {w w1 w2:World} (h:FrameBut O w w1) (k:FrameBut O1 w1 w2) (hO:∀ k,O1 k → O k ∨ w.heap.size ≤ k):FrameBut O w w2 :=
  ⟨k.os.trans h.os,k.tape.trans h.tape,k.output.trans h.output,Nat.le_trans h.size k.size,fun i hi hn => (k.block i (Nat.lt_of_lt_of_le hi h.size) (fun h1 => (hO i h1).elim hn (fun h2 => absurd hi (Nat.not_lt.2 h2)))).trans (h.block i hi hn)⟩
theorem FrameBut.mono {O O1:Nat → Prop} {w w1:World} (h:FrameBut O w w1) (hO:∀ k,k < w.heap.size → O k → O1 k):FrameBut O1 w w1 :=
  ⟨h.os,h.tape,h.output,h.size,fun i hi hn => h.block i hi (fun h1 => hn (hO i hi h1))⟩
theorem FrameBut.of_below {O:Nat → Prop} {w w1:World} (h:Below w.heap.size w w1):FrameBut O w w1:=⟨h.os,h.tape,h.output,h.size,fun i hi _ => h.block i hi⟩
theorem FrameBut.below {O:Nat → Prop} {w w1 w2:World} (h:FrameBut O w w1) (k:Below w1.heap.size w1 w2):FrameBut O w w2:=h.trans (FrameBut.of_below (O:=O) k) (fun _ h => .inl h)
theorem FrameBut.alloc {O:Nat → Prop} {w w1:World} (h:FrameBut O w w1) (o:Obj):FrameBut O w (w1.alloc o):=h.below (below_alloc (Below.refl _ _) o)
theorem FrameBut.drew {O:Nat → Prop} {w w1:World} (h:FrameBut O w w1):FrameBut O w w1.drew:=h.below (below_drew (Below.refl _ _))
theorem FrameBut.drewN {O:Nat → Prop} {w w1:World} (h:FrameBut O w w1) (n:Nat):FrameBut O w (w1.drewN n):=h.below (pw_below_drewN (Below.refl _ _) n)
theorem FrameBut.grown {O:Nat → Prop} {w w1 w2:World} {row:Option Nat} (h:FrameBut O w w1) (hg:w1.grownBy w2 row) (hr:∀ k,row = some k → O k ∨ w.heap.size ≤ k):FrameBut O w w2 :=
  h.trans (O1:=fun k => row = some k) ⟨hg.os,hg.tape,hg.output,hg.size,fun k hk hn => hg.block k hk (fun e => hn e.symm)⟩ hr
theorem FrameBut.setCell {O:Nat → Prop} {w w1:World} (h:FrameBut O w w1) {p:Addr} (hp:O p.block ∨ w.heap.size ≤ p.block) (u:Value):FrameBut O w (w1.setCell p u) :=
  h.trans (O1:=fun k => k = p.block) ⟨rfl,rfl,rfl,by simp [World.setCell],fun k _ hn => Below.heap_setCell _ _ _ _ hn⟩ (fun k e => by rw [e]; exact hp)
theorem FrameBut.toBelow {O:Nat → Prop} {w w1:World} {B:Nat} (h:FrameBut O w w1) (hB:B ≤ w.heap.size) (hO:∀ k,k < B → ¬ O k):Below B w w1 :=
  ⟨h.os,h.tape,h.output,h.size,fun k hk => h.block k (Nat.lt_of_lt_of_le hk hB) (hO k hk)⟩
theorem FrameBut.cell {O:Nat → Prop} {w w1:World} (h:FrameBut O w w1) {b i:Nat} {v:Value} (hc:w.cell? ⟨b,i,none⟩ = some v) (hn:¬ O b):w1.cell? ⟨b,i,none⟩ = some v :=
  (World.cell?_of_block (w:=w) (a:=⟨b,i,none⟩) (h.block b (wl_ w _ hc) hn)).trans hc
structure CB (P:Program) (g:Nat) (lb:Array Value) {α:Type} (en:α → Value) (good:α → Prop) (max:Nat) (Inv:List α → (Nat → Prop) → World → Prop):Prop where
  call:∀ acc O W x,acc.length < max → good x → Inv acc O W → Calls P g (#[en x] ++ lb) W fun e w' => e = .returned (.tuple #[]) ∧ ∃ O',Inv (acc ++ [x]) O' w' ∧ FrameBut O W w' ∧ ∀ k,O' k → O k ∨ W.heap.size ≤ k
  move:∀ acc O W W',Inv acc O W → W.heap.size ≤ W'.heap.size → W'.os = W.os → W'.tape = W.tape → W'.output = W.output → (∀ k,O k → W'.heap[k]? = W.heap[k]?) → Inv acc O W'
  lt:∀ acc O W,Inv acc O W → ∀ k,O k → k < W.heap.size
theorem CB.frame {P:Program} {g:Nat} {lb:Array Value} {α:Type} {en:α → Value} {good:α → Prop} {max:Nat} {Inv:List α → (Nat → Prop) → World → Prop} (C:CB P g lb en good max Inv) {acc:List α} {O O1:Nat → Prop} {W W':World}
    (h:Inv acc O W) (hf:FrameBut O1 W W') (hd:∀ k,O k → ¬ O1 k):Inv acc O W':=C.move acc O W W' h hf.size hf.os hf.tape hf.output (fun k hk => hf.block k (C.lt acc O W h k hk) (hd k hk))
theorem CB.below {P:Program} {g:Nat} {lb:Array Value} {α:Type} {en:α → Value} {good:α → Prop} {max:Nat} {Inv:List α → (Nat → Prop) → World → Prop} (C:CB P g lb en good max Inv) {acc:List α} {O:Nat → Prop} {W W':World}
    (h:Inv acc O W) (hb:Below W.heap.size W W'):Inv acc O W':=C.move acc O W W' h hb.size hb.os hb.tape hb.output (fun k hk => hb.block k (C.lt acc O W h k hk))


def RowIn (w0:World) (Kp:Nat → Prop) (A:Option Addr) (l:List Int):Prop:=∀ W:World,(∀ k,Kp k → W.heap[k]? = w0.heap[k]?) → Kd.C (Kd.int .i64) W A l.length l
def ChInv (Bo base:Nat) (acc:List Int) (O:Nat → Prop) (W:World):Prop :=
  ∃ v,W.cell? ⟨Bo,0,none⟩ = some v ∧ W.frozen? ⟨Bo,0,none⟩ = false ∧ Kd.R (Kd.int .i64) 3 W base (fun k => k ≠ Bo) v acc ∧ ∀ k,O k ↔ k = Bo ∨ some k = v.ownBlock
theorem ChInv.move {Bo base:Nat} {acc:List Int} {O:Nat → Prop} {W W':World} (hI:ChInv Bo base acc O W) (hk:∀ k,O k → W'.heap[k]? = W.heap[k]?):ChInv Bo base acc O W':=by
  obtain ⟨v,c1,f1,hR,hO⟩:=hI
  have hm:=hk Bo ((hO Bo).2 (.inl rfl))
  exact ⟨v,(World.cell?_of_block (w:=W) (a:=⟨Bo,0,none⟩) hm).trans c1,(World.frozen?_of_block (w:=W) (a:=⟨Bo,0,none⟩) hm).trans f1,Kd.R_mono (Kd.R_move (Kd.R_tight rfl hR) (fun k h => hk k ((hO k).2 (.inr h)))) (fun k h => hR.1 k h.symm),hO⟩
theorem ChInv.lt {Bo base:Nat} {acc:List Int} {O:Nat → Prop} {W:World} (hI:ChInv Bo base acc O W) (k:Nat) (hk:O k):k < W.heap.size:=by
  obtain ⟨v,c1,f1,hR,hO⟩:=hI
  rcases (hO k).1 hk with rfl | h
  · exact wl_ W _ c1
  · exact Kd.R_lt hR k h.symm


def chooseGo (F:List Int → Int → List Int):List Int → Int → List Int
 | [],_ => []
 | x :: l,c => F l (Go.bits .or .i64 c x) ++ chooseGo F l c
def chooseI:Nat → List Int → Int → List Int
 | 0,_,c => [c]
 | m + 1,l,c => chooseGo (chooseI m) l c
theorem chooseI_len:∀ (m:Nat) (l:List Int) (c:Int),(chooseI m l c).length ≤ l.length ^ m
 | 0,_,_ => by simp [chooseI]
 | m + 1,[],_ => by simp [chooseI,chooseGo]
 | m + 1,x :: l,c => by
  have h1:=chooseI_len m l (Go.bits .or .i64 c x)
  have h2:=chooseI_len (m + 1) l c
  have h3:l.length ^ m ≤ (l.length + 1) ^ m:=Nat.pow_le_pow_left (by omega) m
  show (chooseI m l (Go.bits .or .i64 c x) ++ chooseI (m + 1) l c).length ≤ (l.length + 1) ^ (m + 1)
  rw [List.length_append,Nat.pow_succ (l.length + 1) m,Nat.mul_succ]
  rw [Nat.pow_succ] at h2
  have h4:l.length ^ m * l.length ≤ (l.length + 1) ^ m * l.length:=Nat.mul_le_mul_right _ h3
  omega
def ChPost (Bo base:Nat) (acc ws:List Int) (O:Nat → Prop) (w:World) (e:Ending) (w':World):Prop :=
 e = .returned (.tuple #[]) ∧ ∃ O',ChInv Bo base (acc ++ ws) O' w' ∧ FrameBut O w w' ∧ ∀ k,O' k → O k ∨ w.heap.size ≤ k
set_option maxRecDepth 100000 in
set_option maxHeartbeats 4000000 in
theorem moChoose_zero (Bo base:Nat) (hbo:base ≤ Bo) (A:Option Addr) (n c:Nat) (ch:Int) (acc:List Int) (O:Nat → Prop) (w:World) (hlen:acc.length < 1000000000) (hI:ChInv Bo base acc O w) :
  Calls Tryz.prog 67 #[.slice A n c,.int .i64 0,.int .i64 ch,.pointer (some ⟨Bo,0,none⟩)] w (ChPost Bo base acc [ch] O w):=by
 obtain ⟨v,c1,f1,hR,hO⟩:=hI
 have b1:Bo < w.heap.size:=wl_ w _ c1
 have hnv:some Bo ≠ v.ownBlock:=fun h => hR.1 Bo h.symm rfl
 obtain ⟨A0,d0,rfl⟩:=Kd.R_slice hR
 have HR:=am_ hR
 have HO:=am_ hO
 have HL:=am_ hlen
 have HLN:Aside0 ((acc ++ [ch]).length = acc.length + 1):=⟨by simp⟩
 have HBW:Aside0 (base ≤ w.heap.size):=⟨by omega⟩
 have HBA:Aside0 (∀ o,Bo < (w.alloc o).heap.size):=⟨fun o => by simp; omega⟩
 have hi5:(Tryz.prog.info? 3).map (fun i => (i.zero,i.size,i.bytes)) = some (some (.int .i64 0),1,8):=by kernel_rfl
 clear hR hO hlen
 go_enter Tryz.func67,Tryz.ntmps67
 go_wp2_with ((at_builtin; refine Kd.R_append_row (w0:=w) (h1:=fun _ => rfl) (Value.int .i64) (0:Int) base rfl _ _ _ _ _ 8 rfl Tryz.underlying22 hi5 rfl (by decide) (.slice A0 acc.length d0) acc [ch] _ 1 _ (fun k => k ≠ Bo) rfl rfl ?xF ?xA ?xB ?xC ?xD ?xE ?_; (case xF => exact fun k hk => by simp at hk; omega); (case xA => exact Kd.R_alloc HR.out _); (case xB => exact lit1_C (Value.int .i64) (fun _ => rfl) 3 w ch); (case xC => exact (below_alloc (Below.refl w.heap.size w) _).mono HBW.out); (case xD => simp; omega); (case xE => have h_:=HL.out; omega); intro v1 w1 ho hb hg hat; obtain ⟨A1,d1,rfl⟩:=Kd.R_slice ho; have cx:w1.cell? ⟨Bo,0,none⟩ = some (.slice A0 acc.length d0):=YtehjfaddhmdicaaGreatDoorW.PrintWords.cell_grown hg ((World.cell?_alloc_lt _ _ _ b1).trans c1) hnv; have fx:w1.frozen? ⟨Bo,0,none⟩ = false:=(World.frozen?_of_block (a:=⟨Bo,0,none⟩) (hg.block Bo (HBA.out _) hnv)).trans ((World.frozen?_of_block (w:=w) (a:=⟨Bo,0,none⟩) (Below.heap_alloc _ _ _ b1)).trans f1); have HO1:=am_ ho; have HB1:=am_ hb; have HG1:=am_ hg; have HA1:=am_ hat; clear ho hb hg hat))
 refine bodyPost_ret (v:=.tuple #[]) (by simp [results,Tryz.results67,go_sem]) rfl ⟨rfl,fun k => k = Bo ∨ some k = (Value.slice A1 (acc ++ [ch]).length d1).ownBlock,⟨_,?_,?_,?_,fun k => Iff.rfl⟩,?_,fun k hk => ?_⟩
 ·rw [HLN.out]; apply World.cell?_setCell_same; exact cx
 ·rw [World.frozen?_setCell]; exact fx
 ·exact Kd.R_far (p:=⟨Bo,0,none⟩) HO1.out (fun k hk => hk) _
 ·exact ((((FrameBut.refl O w).alloc _).grown HG1.out (fun k hk => .inl ((HO.out k).2 (.inr hk.symm)))).setCell (.inl ((HO.out Bo).2 (.inl rfl))) _)
 ·rcases hk with hk | hk
  ·exact .inl ((HO.out k).2 (.inl hk))
  ·rcases HA1.out with h | ⟨b,h,hb⟩
   ·exact .inl ((HO.out k).2 (.inr (hk.trans h)))
   ·rw [h] at hk
    cases hk
    exact .inr (by simp at hb; omega)
def ChMid (Bo base:Nat) (acc:List Int) (m:Nat) (l:List Int) (ch:Int) (O:Nat → Prop) (W0:World) (i:Nat) (wr:World):Prop :=
 ∃ D O',chooseI (m + 1) l ch = D ++ chooseI (m + 1) (l.drop i) ch ∧ ChInv Bo base (acc ++ D) O' wr ∧ FrameBut O W0 wr ∧ ∀ k,O' k → O k ∨ W0.heap.size ≤ k
set_option maxRecDepth 100000 in
set_option maxHeartbeats 8000000 in
theorem moChoose_succ (Bo base:Nat) (w0:World) (Kp:Nat → Prop) (hKp:∀ k,Kp k → k < w0.heap.size) (m:Nat) (hm:m ≤ 64) (max:Nat)
  (ih:∀ (l:List Int) (A:Option Addr) (c:Nat) (ch:Int) (acc:List Int) (O:Nat → Prop) (w:World),RowIn w0 Kp A l → l.length ≤ c → l.length ≤ 64 → ChInv Bo base acc O w → w0.heap.size ≤ w.heap.size → (∀ k,Kp k → w.heap[k]? = w0.heap[k]?) → (∀ k,O k → ¬ Kp k) → acc.length + (chooseI m l ch).length ≤ max →
   Calls Tryz.prog 67 #[.slice A l.length c,.int .i64 (m:Int),.int .i64 ch,.pointer (some ⟨Bo,0,none⟩)] w (ChPost Bo base acc (chooseI m l ch) O w))
  (l:List Int) (A:Option Addr) (c:Nat) (ch:Int) (acc:List Int) (O:Nat → Prop) (w:World) (hrow:RowIn w0 Kp A l) (hc:l.length ≤ c) (hl64:l.length ≤ 64) (hI:ChInv Bo base acc O w) (hz:w0.heap.size ≤ w.heap.size) (hsame:∀ k,Kp k → w.heap[k]? = w0.heap[k]?) (hO:∀ k,O k → ¬ Kp k) (hmax:acc.length + (chooseI (m + 1) l ch).length ≤ max) :
  Calls Tryz.prog 67 #[.slice A l.length c,.int .i64 ((m:Int) + 1),.int .i64 ch,.pointer (some ⟨Bo,0,none⟩)] w (ChPost Bo base acc (chooseI (m + 1) l ch) O w):=by
 have hl1:(((m:Int) + 1) == 0) = false:=by rw [beq_eq_false_iff_ne]; omega
 have e2:IntKind.i64.wrap (m:Int) = (m:Int):=IntWalk.i64_in _ (by omega)
 have HROW:=am_ hrow
 have HS:=am_ hsame
 have HO:=am_ hO
 have IH:=am_ ih
 have HKP:=am_ hKp
 have HMX:=am_ hmax
 have H0:Aside0 (ChMid Bo base acc m l ch O w 0 w):=⟨[],O,rfl,by rw [List.append_nil]; exact hI,FrameBut.refl _ _,fun k hk => .inl hk⟩
 clear hrow hsame hO ih hKp hmax hI
 generalize hn:l.length = n at hc hl64
 have HN:=am_ hn
 clear hn
 go_enter Tryz.func67,Tryz.ntmps67
 go_wp2_with fail
 go_loopg [8,9,22] (n + 1) (fun gg _ _ u22 wr => ∃ i:Nat,i ≤ n ∧ n + 1 - i ≤ gg ∧ u22 = .int .i64 i ∧ Aside0 (ChMid Bo base acc m l ch O w i wr))
 case atStart => exact ⟨0,Nat.zero_le _,by omega,rfl,H0⟩
 case round =>
  clear H0
  obtain ⟨i,hil,hgg,rfl,HMid⟩:=hrel
  obtain ⟨D,O',hD,hI,hF,hO'⟩:=HMid.out
  by_cases hlt:i < n
  ·have hltz:(i:Int) < (n:Int):=by omega
   have hi:i < l.length:=by rw [HN.out]; exact hlt
   have nO:∀ k,Kp k → ¬ O' k:=fun k hk h => (hO' k h).elim (fun h => HO.out k h hk) (fun h => absurd (HKP.out k hk) (by omega))
   have hsm:∀ k,Kp k → wr.heap[k]? = w0.heap[k]?:=fun k hk => (hF.block k (Nat.lt_of_lt_of_le (HKP.out k hk) hz) (fun h => HO.out k h hk)).trans (HS.out k hk)
   obtain ⟨ad,eA,hcell⟩:=Kd.at_int (HROW.out wr hsm) (i:Int) (by omega) (by omega)
   obtain ⟨x,hx⟩:∃ x,l[i]? = some x:=⟨l[i],List.getElem?_eq_getElem hi⟩
   have hdrop:l.drop i = x :: l.drop (i + 1):=by
    rw [List.drop_eq_getElem_cons hi]
    rw [List.getElem?_eq_getElem hi] at hx
    injection hx with hx
    rw [hx]
   have hrd:rd l (i:Int) = x:=by
    unfold rd
    rw [Int.toNat_natCast,List.getD_eq_getElem?_getD,hx]; rfl
   rw [hrd,Int.toNat_natCast] at hcell
   have hg:chooseI (m + 1) (l.drop i) ch = chooseI m (l.drop (i + 1)) (Go.bits .or .i64 ch x) ++ chooseI (m + 1) (l.drop (i + 1)) ch:=by rw [hdrop]; rfl
   have hD2:chooseI (m + 1) l ch = (D ++ chooseI m (l.drop (i + 1)) (Go.bits .or .i64 ch x)) ++ chooseI (m + 1) (l.drop (i + 1)) ch:=by rw [hD,hg,List.append_assoc]
   obtain ⟨A',hrun,hrd',hcl⟩:=print_drop_of (P:=Tryz.prog) (Value.int .i64) (0:Int) 22 3 .i64 Tryz.underlying22 (i:=((Tryz.prog.info? 3).getD default)) (by kernel_rfl) (by kernel_rfl) A c l ((i:Int) + 1) (by omega) (by omega) (by rw [HN.out]; exact hc)
   rw [show ((i:Int) + 1).toNat = i + 1 by omega] at hrun hrd' hcl
   have hrow':RowIn w0 Kp A' (l.drop (i + 1)):=fun W hW => Kd.C_of_reads (d:=(0:Int)) (h1:=fun _ => rfl) (hrd' W (Kd.reads_of_C (d:=(0:Int)) (HROW.out W hW)))
   have hlen1:(l.drop (i + 1)).length ≤ 64:=by rw [List.length_drop]; have:=HN.out; omega
   have HC:Aside0 (Calls Tryz.prog 67 #[.slice A' (l.drop (i + 1)).length (c - (i + 1)),.int .i64 (m:Int),.int .i64 (Go.bits .or .i64 ch x),.pointer (some ⟨Bo,0,none⟩)] wr (ChPost Bo base (acc ++ D) (chooseI m (l.drop (i + 1)) (Go.bits .or .i64 ch x)) O' wr)) :=
    ⟨IH.out (l.drop (i + 1)) A' _ _ (acc ++ D) O' wr hrow' hcl hlen1 hI (Nat.le_trans hz hF.size) hsm (fun k hk h => nO k h hk) (by
     have:=HMX.out
     rw [hD2] at this
     simp only [List.length_append] at this ⊢
     omega)⟩
   have HD2:=am_ hD2
   have HF:=am_ hF
   have HO':=am_ hO'
   have HRUN:∀ W,(Instr.slice 22 (.slice A n c) (some (.int .i64 ((i:Int) + 1))) none none).run Tryz.prog W = .ok (.slice A' (l.drop (i + 1)).length (c - (i + 1))) W:=fun W => by rw [← HN.out]; exact hrun W
   clear hD2 hF hO' hD hI nO hsm hg hx hrd hdrop hrd' hcl hrow' hrun hlen1 HMid hi
   subst eA
   generalize chooseI m (l.drop (i + 1)) (Go.bits .or .i64 ch x) = PW at HC HD2
   generalize (l.drop (i + 1)).length = n1 at HC HRUN
   obtain ⟨E,hE⟩:∃ E,Go.bits .or .i64 ch x = E:=⟨_,rfl⟩
   rw [hE] at HC
   generalize c - (i + 1) = c1 at HC HRUN
   go_wp2_with ((go_at_call 67; (with_reducible refine HC.out.mono ?_); rintro e w9 ⟨rfl,O9,hI9,hF9,hO9⟩; have I9:=am_ hI9; have HF9:=am_ hF9; have HO9:=am_ hO9; clear hI9 hF9 hO9))
   go_roundg (n + 1 - (i + 1))
   case measure => omega
   case rel => exact ⟨i + 1,by omega,by omega,by go_num,⟨_,O9,HD2.out,by rw [← List.append_assoc]; exact I9.out,HF.out.trans HF9.out (fun k h => HO'.out k h),fun k hk => (HO9.out k hk).elim (fun h => HO'.out k h) (fun h => .inr (by have:=HF.out.size; omega))⟩⟩
  ·have hltz:¬ (i:Int) < (n:Int):=by omega
   have hnil:chooseI (m + 1) (l.drop i) ch = []:=by rw [List.drop_of_length_le (by have:=HN.out; omega)]; rfl
   have HR:Aside0 (ChPost Bo base acc (chooseI (m + 1) l ch) O w (.returned (.tuple #[])) wr):=⟨rfl,O',by rw [hD,hnil,List.append_nil]; exact hI,hF,hO'⟩
   clear hD hI hF hO' hnil HMid
   go_wp2_with fail
   exact bodyPost_end (v:=.tuple #[]) (by simp [results,Tryz.results67,go_sem]) rfl HR.out
theorem moChoose_any (Bo base:Nat) (hbo:base ≤ Bo) (w0:World) (Kp:Nat → Prop) (hKp:∀ k,Kp k → k < w0.heap.size):∀ (m:Nat),m ≤ 64 →
  ∀ (l:List Int) (A:Option Addr) (c:Nat) (ch:Int) (acc:List Int) (O:Nat → Prop) (w:World),RowIn w0 Kp A l → l.length ≤ c → l.length ≤ 64 → ChInv Bo base acc O w → w0.heap.size ≤ w.heap.size → (∀ k,Kp k → w.heap[k]? = w0.heap[k]?) → (∀ k,O k → ¬ Kp k) → acc.length + (chooseI m l ch).length ≤ 1000000000 →
   Calls Tryz.prog 67 #[.slice A l.length c,.int .i64 (m:Int),.int .i64 ch,.pointer (some ⟨Bo,0,none⟩)] w (ChPost Bo base acc (chooseI m l ch) O w)
 | 0,_,l,A,c,ch,acc,O,w,_,_,_,hI,_,_,_,hmax => moChoose_zero Bo base hbo A l.length c ch acc O w (by simp [chooseI] at hmax; omega) hI
 | m + 1,hm,l,A,c,ch,acc,O,w,h1,h2,h3,h4,h5,h6,h7,h8 => by
  have ih:=moChoose_any Bo base hbo w0 Kp hKp m (by omega)
  exact moChoose_succ Bo base w0 Kp hKp m (by omega) 1000000000 ih l A c ch acc O w h1 h2 h3 h4 h5 h6 h7 h8


def madeL (mask:Int) (bs:List Int) (m:Nat) (put:Bool):List Int :=
 if put then (chooseI m (bs.filter fun b => Go.bits .and .i64 mask b != 0) 0).flatMap fun a => (chooseI m (bs.filter fun b => !(Go.bits .and .i64 mask b != 0)) 0).map fun b => Go.bits .or .i64 (Go.bits .andNot .i64 mask a) b
 else (chooseI m (bs.filter fun b => Go.bits .and .i64 mask b != 0) 0).map fun a => Go.bits .andNot .i64 mask a
def spec_moMade.f (k:Nat) (a0_0:Int) (a0_1:Int) (l0_2:List Int) (l0_3:List Int) (a1:Int) (a2:Bool):Option (List Int) :=
 (spec_sqMask.f k a0_0 a0_1 l0_2 l0_3).bind fun mask => (spec_moBits.f k a0_0 a0_1).bind fun bs => if 0 ≤ a1 ∧ a1 ≤ (if a2 then 2 else 4) ∧ bs.length ≤ 64 then some (madeL mask bs a1.toNat a2) else none
theorem spec_moMade.mono:∀ a0 a1 a2 a3 a4 a5 k,LeO (spec_moMade.f k a0 a1 a2 a3 a4 a5) (spec_moMade.f (k + 1) a0 a1 a2 a3 a4 a5):=by
 intro a0 a1 a2 a3 a4 a5 k
 unfold spec_moMade.f
 exact LeO.bind (spec_sqMask.mono _ _ _ _ _) (fun _ => LeO.bind (spec_moBits.mono _ _ _) (fun _ => LeO.refl _))
theorem fil_step {p:Int → Bool} {l:List Int} {i:Nat} {x:Int} (hx:l[i]? = some x):(l.take (i + 1)).filter p = if p x = true then (l.take i).filter p ++ [x] else (l.take i).filter p:=by
 rw [List.take_add_one,hx,List.filter_append]
 by_cases h:p x = true
 ·rw [if_pos h]; simp [h]
 ·rw [if_neg h]; simp [h]
theorem RowIn_of_R {w:World} {base e:Nat} {ok:Nat → Prop} {A:Option Addr} {c:Nat} {l:List Int} (h:Kd.R (Kd.int .i64) e w base ok (.slice A l.length c) l):RowIn w (fun k => k < w.heap.size) A l:=fun W hW =>
 (Kd.R_reads' (Kd.R_move (Kd.R_bound h) (fun k hk => hW k hk.2.2.1))).2.2
theorem moChoose_new (m:Nat) (hm:m ≤ 4) (l:List Int) (A:Option Addr) (c:Nat) (w:World) (hr:RowIn w (fun k => k < w.heap.size) A l) (hc:l.length ≤ c) (hl:l.length ≤ 64) (Bo:Nat) (W:World) (hB:Below w.heap.size w W) (hBo:w.heap.size ≤ Bo) (co:W.cell? ⟨Bo,0,none⟩ = some (.slice none 0 0)) (fo:W.frozen? ⟨Bo,0,none⟩ = false) :
  Calls Tryz.prog 67 #[.slice A l.length c,.int .i64 (m:Int),.int .i64 0,.pointer (some ⟨Bo,0,none⟩)] W fun e w' => e = .returned (.tuple #[]) ∧ ∃ A' c',w'.cell? ⟨Bo,0,none⟩ = some (.slice A' (chooseI m l 0).length c') ∧ Kd.R (Kd.int .i64) 3 w' w.heap.size (fun _ => True) (.slice A' (chooseI m l 0).length c') (chooseI m l 0) ∧ Below w.heap.size w w':=by
 refine (moChoose_any Bo w.heap.size hBo w (fun k => k < w.heap.size) (fun _ h => h) m (by omega) l A c 0 [] (fun k => k = Bo) W hr hc hl ⟨_,co,fo,Kd.R_nil _ _ _ _ _,fun k => by simp [Value.ownBlock]⟩ hB.size (fun k hk => hB.block k hk) (fun k hk h => by omega) ?_).mono ?_
 ·have h1:=chooseI_len m l 0
  have h2:l.length ^ m ≤ 64 ^ m:=Nat.pow_le_pow_left hl m
  have h3:64 ^ m ≤ 64 ^ 4:=Nat.pow_le_pow_right (by omega) hm
  rw [List.length_nil,Nat.zero_add]
  omega
 ·rintro e w' ⟨rfl,O',⟨v,c1,_,hR,_⟩,hF,_⟩
  rw [List.nil_append] at hR
  obtain ⟨A',c',rfl⟩:=Kd.R_slice hR
  exact ⟨rfl,A',c',c1,Kd.R_mono hR (fun _ _ => trivial),hB.trans (hF.toBelow hB.size (fun k hk h => by omega))⟩
theorem chooseI_len64 {m q:Nat} (hm:m ≤ q) {l:List Int} (hl:l.length ≤ 64) (c:Int):(chooseI m l c).length ≤ 64 ^ q :=
 Nat.le_trans (chooseI_len m l c) (Nat.le_trans (Nat.pow_le_pow_left hl m) (Nat.pow_le_pow_right (by omega) hm))
set_option maxRecDepth 100000 in
set_option maxHeartbeats 16000000 in
theorem moMade_any (k:Nat) (a0_0:Int) (a0_1:Int) (A0_2:Option Addr) (c0_2:Nat) (l0_2:List Int) (A0_3:Option Addr) (c0_3:Nat) (l0_3:List Int) (m:Nat) (hm:m ≤ 4) (put:Bool) (hm2:put = true → m ≤ 2) (mask:Int) (bs:List Int) (w:World) (hr0_2:Kd.C (Kd.int .i64) w A0_2 l0_2.length l0_2) (hc0_2:l0_2.length ≤ c0_2) (hr0_3:Kd.C (Kd.int .i64) w A0_3 l0_3.length l0_3) (hc0_3:l0_3.length ≤ c0_3)
  (hmask:spec_sqMask.f k a0_0 a0_1 l0_2 l0_3 = some mask) (hbs:spec_moBits.f k a0_0 a0_1 = some bs) (hb64:bs.length ≤ 64) :
  Calls Tryz.prog 48 #[.agg #[.int .i64 a0_0,.int .i64 a0_1,.slice A0_2 l0_2.length c0_2,.slice A0_3 l0_3.length c0_3],.int .i64 (m:Int),.bool put] w fun e w' => ∃ v0_:Value,e = .returned v0_ ∧ Kd.R (Kd.int .i64) 3 w' w.heap.size (fun _ => True) v0_ (madeL mask bs m put) ∧ Below w.heap.size w w':=by
 have hi5:(Tryz.prog.info? 3).map (fun i => (i.zero,i.size,i.bytes)) = some (some (.int .i64 0),1,8):=by kernel_rfl
 have HR2:=am_ hr0_2
 have HR3:=am_ hr0_3
 have HQ2:=am_ hc0_2
 have HQ3:=am_ hc0_3
 have HMASK:=am_ hmask
 have HBS:=am_ hbs
 have HM:=am_ hm
 have HMP:=am_ hm2
 clear hr0_2 hr0_3 hc0_2 hc0_3 hmask hbs hm hm2
 generalize hn:bs.length = n at hb64
 have HN:=am_ hn
 have HN64:Aside0 (bs.length ≤ 64):=⟨by omega⟩
 clear hn
 go_enter Tryz.func48,Tryz.ntmps48
 go_wp2_with fail
 go_at_call 65
 refine (spec_sqMask.calls k a0_0 a0_1 A0_2 c0_2 l0_2 A0_3 c0_3 l0_3 mask _ (Kd.C_alloc HR2.out _) HQ2.out (Kd.C_alloc HR3.out _) HQ3.out HMASK.out).mono ?_
 rintro e w1 ⟨rfl,hb⟩
 have Q0:w1.heap[w.heap.size]? = some (.cells #[.int .i64 a0_0,.int .i64 a0_1,.slice A0_2 l0_2.length c0_2,.slice A0_3 l0_3.length c0_3] 26 (0,0)):=blk_keep (heap_alloc_new w _) hb
 have p0:w1.cell? ⟨w.heap.size,0,none⟩ = some (.int .i64 a0_0):=(bc_ Q0 0).trans rfl
 have p1:w1.cell? ⟨w.heap.size,1,none⟩ = some (.int .i64 a0_1):=(bc_ Q0 1).trans rfl
 have HB:=am_ (below_step (below_alloc (Below.refl w.heap.size w) _) hb)
 clear hb Q0
 go_wp2_with fail
 go_at_call 66
 refine (spec_moBits.calls k a0_0 a0_1 bs _ HBS.out).mono ?_
 rintro e w2 ⟨vb,rfl,hr,hb⟩
 obtain ⟨Ab,cb,rfl⟩:=Kd.R_slice hr
 rw [HN.out]
 have HRB:Aside0 (Kd.R (Kd.int .i64) 3 w2 w.heap.size (fun _ => True) (.slice Ab n cb) bs):=⟨by have h:=Kd.R_lower hr HB.out.size; rw [HN.out] at h; exact h⟩
 have HB2:=am_ (below_step HB.out hb)
 clear hr hb p0 p1 HB
 go_wp2_with fail
 go_loopg [8,9,11,29] n (fun gg u8 u9 _ u29 wr => ∃ i:Nat,i ≤ n ∧ n - i ≤ gg ∧ u29 = .int .i64 i ∧ Aside0 (Kd.R (Kd.int .i64) 3 wr w2.heap.size (fun k => some k ≠ u9.ownBlock) u8 ((bs.take i).filter fun b => Go.bits .and .i64 mask b != 0)) ∧ Aside0 (Kd.R (Kd.int .i64) 3 wr w2.heap.size (fun _ => True) u9 ((bs.take i).filter fun b => !(Go.bits .and .i64 mask b != 0))) ∧ Aside0 (Below w2.heap.size w2 wr))
 case atStart => exact ⟨0,Nat.zero_le _,by omega,rfl,⟨Kd.R_nil _ _ _ _ _⟩,⟨Kd.R_nil _ _ _ _ _⟩,⟨Below.refl _ _⟩⟩
 case round =>
  obtain ⟨i,hil,hgg,rfl,H8,H9,HW⟩:=hrel
  by_cases hlt:i < n
  ·have hltz:(i:Int) < (n:Int):=by omega
   obtain ⟨x,hx⟩:∃ x,bs[i]? = some x:=⟨bs[i]'(by have:=HN.out; omega),List.getElem?_eq_getElem _⟩
   obtain ⟨ad,eA,hcell⟩:=Kd.at_int (Kd.R_reads' (Kd.R_below HRB.out HW.out)).2.2 (i:Int) (by omega) (by have:=HN.out; omega)
   have hrd:rd bs (i:Int) = x:=by
    unfold rd
    rw [Int.toNat_natCast,List.getD_eq_getElem?_getD,hx]; rfl
   rw [hrd,Int.toNat_natCast] at hcell
   have F1:=am_ (fil_step (p:=fun b => Go.bits .and .i64 mask b != 0) hx)
   have F2:=am_ (fil_step (p:=fun b => !(Go.bits .and .i64 mask b != 0)) hx)
   have HF8:Aside0 (((bs.take i).filter fun b => Go.bits .and .i64 mask b != 0).length ≤ 64):=⟨Nat.le_trans (List.length_filter_le _ _) (by rw [List.length_take]; omega)⟩
   have HF9:Aside0 (((bs.take i).filter fun b => !(Go.bits .and .i64 mask b != 0)).length ≤ 64):=⟨Nat.le_trans (List.length_filter_le _ _) (by rw [List.length_take]; omega)⟩
   clear hx hrd
   subst eA
   obtain ⟨A8,d8,rfl⟩:=Kd.R_slice H8.out
   obtain ⟨A9,d9,rfl⟩:=Kd.R_slice H9.out
   cases hp:(Go.bits .and .i64 mask x != 0) with
   | true =>
    have G1:Aside0 (((bs.take (i + 1)).filter fun b => Go.bits .and .i64 mask b != 0) = ((bs.take i).filter fun b => Go.bits .and .i64 mask b != 0) ++ [x]):=⟨by rw [F1.out,if_pos hp]⟩
    have G2:Aside0 (((bs.take (i + 1)).filter fun b => !(Go.bits .and .i64 mask b != 0)) = ((bs.take i).filter fun b => !(Go.bits .and .i64 mask b != 0))):=⟨by rw [F2.out,if_neg (by simp [hp])]⟩
    clear F1 F2
    generalize ((bs.take i).filter fun b => Go.bits .and .i64 mask b != 0) = X8 at H8 HF8 G1
    generalize ((bs.take i).filter fun b => !(Go.bits .and .i64 mask b != 0)) = X9 at H8 H9 HF9 G2
    go_wp2_with ((at_builtin; refine Kd.R_append_row (w0:=w2) (h1:=fun _ => rfl) (Value.int .i64) (0:Int) w2.heap.size rfl _ _ _ _ _ 8 rfl Tryz.underlying22 hi5 rfl (by decide) (.slice A8 X8.length d8) X8 [x] _ 1 _ (fun k => some k ≠ (Value.slice A9 X9.length d9).ownBlock) rfl rfl ?xF ?xA ?xB ?xC ?xD ?xE ?_; (case xF => exact fun k hk h => by have h_:=Kd.R_lt H9.out k h.symm; simp at hk; omega); (case xA => exact Kd.R_alloc H8.out _); (case xB => exact lit1_C (Value.int .i64) (fun _ => rfl) 3 _ _); (case xC => exact below_alloc HW.out _); (case xD => have h_:=(HW.out).size; simp; omega); (case xE => have h_:=HF8.out; omega); intro v1 w1 ho hb hg hat; obtain ⟨A1,d1,rfl⟩:=Kd.R_slice ho; simp only [List.length_append,List.length_cons,List.length_nil,Nat.zero_add] at ho hat; have N8:=am_ ho; have N9:=am_ (Kd.R_grown2 (Kd.R_alloc H9.out _) rfl hg (fun k hk => H8.out.1 k hk)); have NB:=am_ hb; clear ho hb hg hat H8 H9 HW))
    go_roundg (n - (i + 1))
    case measure => omega
    case rel => exact ⟨i + 1,by omega,by omega,by go_num,⟨by rw [G1.out]; exact N8.out⟩,⟨by rw [G2.out]; exact N9.out⟩,NB⟩
   | false =>
    have G1:Aside0 (((bs.take (i + 1)).filter fun b => Go.bits .and .i64 mask b != 0) = ((bs.take i).filter fun b => Go.bits .and .i64 mask b != 0)):=⟨by rw [F1.out,if_neg (by simp [hp])]⟩
    have G2:Aside0 (((bs.take (i + 1)).filter fun b => !(Go.bits .and .i64 mask b != 0)) = ((bs.take i).filter fun b => !(Go.bits .and .i64 mask b != 0)) ++ [x]):=⟨by rw [F2.out,if_pos (by simp [hp])]⟩
    clear F1 F2
    generalize ((bs.take i).filter fun b => Go.bits .and .i64 mask b != 0) = X8 at H8 HF8 G1
    generalize ((bs.take i).filter fun b => !(Go.bits .and .i64 mask b != 0)) = X9 at H8 H9 HF9 G2
    go_wp2_with ((at_builtin; refine Kd.R_append_row (w0:=w2) (h1:=fun _ => rfl) (Value.int .i64) (0:Int) w2.heap.size rfl _ _ _ _ _ 8 rfl Tryz.underlying22 hi5 rfl (by decide) (.slice A9 X9.length d9) X9 [x] _ 1 _ (fun _ => True) rfl rfl ?xF ?xA ?xB ?xC ?xD ?xE ?_; (case xF => exact fun _ _ => trivial); (case xA => exact Kd.R_alloc H9.out _); (case xB => exact lit1_C (Value.int .i64) (fun _ => rfl) 3 _ _); (case xC => exact below_alloc HW.out _); (case xD => have h_:=(HW.out).size; simp; omega); (case xE => have h_:=HF9.out; omega); intro v1 w1 ho hb hg hat; obtain ⟨A1,d1,rfl⟩:=Kd.R_slice ho; simp only [List.length_append,List.length_cons,List.length_nil,Nat.zero_add] at ho hat; have N9:=am_ ho; have N8:=am_ (Kd.R_reok (ok:=fun k => some k ≠ (Value.slice A1 (X9.length + 1) d1).ownBlock) rfl (Kd.R_grown2 (Kd.R_alloc H8.out _) rfl hg (fun k hk h => H8.out.1 k h.symm hk.symm)) (fun k hk h => hat.elim (fun h2 => H8.out.1 k hk (h.trans h2)) (fun ⟨b,h2,hb2⟩ => by rw [h2] at h; cases h; have h3:=Kd.R_lt H8.out _ hk; simp at hb2; omega))); have NB:=am_ hb; clear ho hb hg hat H8 H9 HW))
    go_roundg (n - (i + 1))
    case measure => omega
    case rel => exact ⟨i + 1,by omega,by omega,by go_num,⟨by rw [G1.out]; exact N8.out⟩,⟨by rw [G2.out]; exact N9.out⟩,NB⟩
  ·obtain rfl:i = n:=by omega
   have e1:bs.take i = bs:=List.take_of_length_le (by have:=HN.out; omega)
   rw [e1] at H8 H9
   have hl8:(bs.filter fun b => Go.bits .and .i64 mask b != 0).length ≤ 64:=Nat.le_trans (List.length_filter_le _ _) HN64.out
   have hl9:(bs.filter fun b => !(Go.bits .and .i64 mask b != 0)).length ≤ 64:=Nat.le_trans (List.length_filter_le _ _) HN64.out
   have HMADE:Aside0 (madeL mask bs m put = if put then (chooseI m (bs.filter fun b => Go.bits .and .i64 mask b != 0) 0).flatMap fun a => (chooseI m (bs.filter fun b => !(Go.bits .and .i64 mask b != 0)) 0).map fun b => Go.bits .or .i64 (Go.bits .andNot .i64 mask a) b
    else (chooseI m (bs.filter fun b => Go.bits .and .i64 mask b != 0) 0).map fun a => Go.bits .andNot .i64 mask a):=⟨rfl⟩
   generalize (bs.filter fun b => Go.bits .and .i64 mask b != 0) = X8 at H8 hl8 HMADE
   generalize (bs.filter fun b => !(Go.bits .and .i64 mask b != 0)) = X9 at H8 H9 hl9 HMADE
   obtain ⟨A8,d8,rfl⟩:=Kd.R_slice H8.out
   obtain ⟨A9,d9,rfl⟩:=Kd.R_slice H9.out
   have HBW:=am_ (HB2.out.trans (HW.out.mono HB2.out.size))
   have HL9:=am_ hl9
   have HC1:=am_ (fun W => moChoose_new m HM.out X8 A8 d8 wr (RowIn_of_R H8.out) (Kd.R_reads' H8.out).2.1 hl8 wr.heap.size W)
   have HT64:=am_ (chooseI_len64 HM.out hl8 0)
   have HT2:Aside0 (put = true → (chooseI m X8 0).length ≤ 64 ^ 2):=⟨fun h => chooseI_len64 (HMP.out h) hl8 0⟩
   generalize hT:chooseI m X8 0 = T at HC1 HMADE HT64 HT2
   clear hT hl8 hl9 e1 HRB H8 HW hgg
   generalize hnT:T.length = nT at HC1 HT64 HT2
   have HNT:=am_ hnT
   have hnT4:nT ≤ 16777216:=HT64.out
   clear hnT
   go_wp2_with fail
   go_at_call 67
   refine (HC1.out _ ?xb (Nat.le_refl _) ?xc ?xf).mono ?_
   ·exact below_alloc (Below.refl _ _) _
   ·exact World.cell?_alloc_at _ _ _ _ rfl
   ·go_simp
   rintro e w4 ⟨rfl,A4,c4,co4,hr4,hb4⟩
   have HR4:=am_ hr4
   have HB4:=am_ hb4
   have HBW4:=am_ (HBW.out.trans (hb4.mono HBW.out.size))
   clear hr4 HC1
   obtain ⟨wo,rfl⟩:∃ wo:World,wo = wr:=⟨_,rfl⟩
   cases put with
   | false =>
    have HM2:Aside0 (madeL mask bs m false = T.map fun a => Go.bits .andNot .i64 mask a):=⟨by rw [HMADE.out]; rfl⟩
    clear HMADE hb4 H9
    go_wp2_with fail
    go_loopg [13,15,53] nT (fun gg u13 _ u53 wr => ∃ j:Nat,j ≤ nT ∧ nT - j ≤ gg ∧ u53 = .int .i64 j ∧ Aside0 (Kd.R (Kd.int .i64) 3 wr w4.heap.size (fun _ => True) u13 ((T.take j).map fun a => Go.bits .andNot .i64 mask a)) ∧ Aside0 (Below w4.heap.size w4 wr))
    case atStart => exact ⟨0,Nat.zero_le _,by omega,rfl,⟨Kd.R_nil _ _ _ _ _⟩,⟨Below.refl _ _⟩⟩
    case round =>
     obtain ⟨j,hjl,hgg,rfl,HO,HW⟩:=hrel
     by_cases hlt2:j < nT
     ·have hltz:(j:Int) < (nT:Int):=by omega
      obtain ⟨x,hx⟩:∃ x,T[j]? = some x:=⟨T[j]'(by have:=HNT.out; omega),List.getElem?_eq_getElem _⟩
      obtain ⟨ad,eA,hcell⟩:=Kd.at_int (Kd.R_reads' (Kd.R_below HR4.out HW.out)).2.2 (j:Int) (by omega) (by have:=HNT.out; omega)
      have hrd:rd T (j:Int) = x:=by
       unfold rd
       rw [Int.toNat_natCast,List.getD_eq_getElem?_getD,hx]; rfl
      rw [hrd,Int.toNat_natCast] at hcell
      have G1:Aside0 (((T.take (j + 1)).map fun a => Go.bits .andNot .i64 mask a) = ((T.take j).map fun a => Go.bits .andNot .i64 mask a) ++ [Go.bits .andNot .i64 mask x]):=⟨by rw [List.take_add_one,hx,List.map_append]; rfl⟩
      have HF8:Aside0 (((T.take j).map fun a => Go.bits .andNot .i64 mask a).length ≤ 64 ^ 4):=⟨by rw [List.length_map,List.length_take]; have:=HT64.out; omega⟩
      generalize ((T.take j).map fun a => Go.bits .andNot .i64 mask a) = Y at HO HF8 G1
      clear hx hrd
      subst eA
      obtain ⟨Ay,dy,rfl⟩:=Kd.R_slice HO.out
      go_wp2_with ((at_builtin; refine Kd.R_append_row (w0:=w4) (h1:=fun _ => rfl) (Value.int .i64) (0:Int) w4.heap.size rfl _ _ _ _ _ 8 rfl Tryz.underlying22 hi5 rfl (by decide) (.slice Ay Y.length dy) Y [Go.bits .andNot .i64 mask x] _ 1 _ (fun _ => True) rfl rfl ?xF ?xA ?xB ?xC ?xD ?xE ?_; (case xF => exact fun _ _ => trivial); (case xA => exact Kd.R_alloc HO.out _); (case xB => exact lit1_C (Value.int .i64) (fun _ => rfl) 3 _ _); (case xC => exact below_alloc HW.out _); (case xD => have h_:=(HW.out).size; simp; omega); (case xE => have h_:=HF8.out; omega); intro v1 w1 ho hb hg hat; obtain ⟨A1,d1,rfl⟩:=Kd.R_slice ho; simp only [List.length_append,List.length_cons,List.length_nil,Nat.zero_add] at ho hat; have N8:=am_ ho; have NB:=am_ hb; clear ho hb hg hat HO HW))
      go_roundg (nT - (j + 1))
      case measure => omega
      case rel => exact ⟨j + 1,by omega,by omega,by go_num,⟨by rw [G1.out]; exact N8.out⟩,NB⟩
     ·have hE:Aside0 (T.take j = T):=⟨List.take_of_length_le (by have:=HNT.out; omega)⟩
      have hltz:¬ (j:Int) < (nT:Int):=by omega
      have HFin:Aside0 (Kd.R (Kd.int .i64) 3 wr w.heap.size (fun _ => True) u13 (madeL mask bs m false)):=⟨by have h:=HO.out; rw [hE.out] at h; rw [HM2.out]; exact Kd.R_lower h HBW4.out.size⟩
      have HBF:=am_ (HBW4.out.trans (HW.out.mono HBW4.out.size))
      clear HO HW hE
      go_wp2_with fail
      go_ret
      exact ⟨_,rfl,HFin.out,HBF.out⟩
   | true =>
    have HM2:Aside0 (madeL mask bs m true = T.flatMap fun a => (chooseI m X9 0).map fun b => Go.bits .or .i64 (Go.bits .andNot .i64 mask a) b):=⟨by rw [HMADE.out]; rfl⟩
    have HC2:=am_ (fun W => moChoose_new m HM.out X9 A9 d9 w4 (RowIn_of_R (Kd.R_below H9.out hb4)) (Kd.R_reads' H9.out).2.1 HL9.out w4.heap.size W)
    have HT65:=am_ (chooseI_len64 (HMP.out rfl) HL9.out 0)
    have hnT2:nT ≤ 4096:=HT2.out rfl
    generalize chooseI m X9 0 = U at HC2 HM2 HT65
    generalize hnU:U.length = nU at HC2 HT65
    have HNU:=am_ hnU
    have hnU4:nU ≤ 4096:=HT65.out
    clear hnU HMADE hb4 H9
    go_wp2_with fail
    go_at_call 67
    refine (HC2.out _ ?yb (Nat.le_refl _) ?yc ?yf).mono ?_
    ·exact below_alloc (Below.refl _ _) _
    ·exact World.cell?_alloc_at _ _ _ _ rfl
    ·go_simp
    rintro e w5 ⟨rfl,A5,c5,co5,hr5,hb5⟩
    have HR5:=am_ hr5
    have HR4b:=am_ (Kd.R_below HR4.out hb5)
    have HBW5:=am_ (HBW4.out.trans (hb5.mono HBW4.out.size))
    have co4b:=pw_cell_below hb5 co4
    have HCo5:=am_ co5
    clear hr5 hb5 HC2 HR4 co4 co5
    go_wp2_with fail
    go_loopg [13,18,20,70,74,75,76] nT (fun gg u13 _ _ u70 _ _ _ wr => ∃ j:Nat,j ≤ nT ∧ nT - j ≤ gg ∧ u70 = .int .i64 j ∧ Aside0 (Kd.R (Kd.int .i64) 3 wr w5.heap.size (fun _ => True) u13 ((T.take j).flatMap fun a => U.map fun b => Go.bits .or .i64 (Go.bits .andNot .i64 mask a) b)) ∧ Aside0 (Below w5.heap.size w5 wr))
    case atStart => exact ⟨0,Nat.zero_le _,by omega,rfl,⟨Kd.R_nil _ _ _ _ _⟩,⟨Below.refl _ _⟩⟩
    case round =>
     obtain ⟨j,hjl,hgg,rfl,HO,HW⟩:=hrel
     by_cases hlt2:j < nT
     ·have hltz:(j:Int) < (nT:Int):=by omega
      obtain ⟨x,hx⟩:∃ x,T[j]? = some x:=⟨T[j]'(by have:=HNT.out; omega),List.getElem?_eq_getElem _⟩
      obtain ⟨ad,eA,hcell⟩:=Kd.at_int (Kd.R_reads' (Kd.R_below HR4b.out HW.out)).2.2 (j:Int) (by omega) (by have:=HNT.out; omega)
      have hrd:rd T (j:Int) = x:=by
       unfold rd
       rw [Int.toNat_natCast,List.getD_eq_getElem?_getD,hx]; rfl
      rw [hrd,Int.toNat_natCast] at hcell
      have G1:Aside0 (((T.take (j + 1)).flatMap fun a => U.map fun b => Go.bits .or .i64 (Go.bits .andNot .i64 mask a) b) = ((T.take j).flatMap fun a => U.map fun b => Go.bits .or .i64 (Go.bits .andNot .i64 mask a) b) ++ U.map fun b => Go.bits .or .i64 (Go.bits .andNot .i64 mask x) b):=⟨by rw [List.take_add_one,hx,List.flatMap_append]; simp⟩
      have HF8:Aside0 (((T.take j).flatMap fun a => U.map fun b => Go.bits .or .i64 (Go.bits .andNot .i64 mask a) b).length ≤ 4096 * 4096):=⟨by
       have h1:∀ l:List Int,(l.flatMap fun a => U.map fun b => Go.bits .or .i64 (Go.bits .andNot .i64 mask a) b).length = l.length * U.length:=fun l => by
        induction l with
        | nil => simp
        | cons y l ih => rw [List.flatMap_cons,List.length_append,ih,List.length_map,List.length_cons,Nat.succ_mul,Nat.add_comm]
       rw [h1,List.length_take]
       exact Nat.mul_le_mul (by omega) (by have:=HNU.out; omega)⟩
      have cu:=pw_cell_below HW.out HCo5.out
      have HRU:=am_ (Kd.R_below HR5.out HW.out)
      generalize ((T.take j).flatMap fun a => U.map fun b => Go.bits .or .i64 (Go.bits .andNot .i64 mask a) b) = Y at HO HF8 G1
      clear hx hrd
      subst eA
      obtain ⟨Ay,dy,rfl⟩:=Kd.R_slice HO.out
      obtain ⟨wp,rfl⟩:∃ wp:World,wp = wr:=⟨_,rfl⟩
      have HO0:Aside0 (Kd.R (Kd.int .i64) 3 wp w5.heap.size (fun _ => True) (.slice Ay Y.length dy) (Y ++ (U.take 0).map fun b => Go.bits .or .i64 (Go.bits .andNot .i64 mask x) b)):=⟨by simpa using HO.out⟩
      clear HO
      go_wp2_with fail
      go_loopg [13,20,76] nU (fun gg u13 _ u76 wr => ∃ q:Nat,q ≤ nU ∧ nU - q ≤ gg ∧ u76 = .int .i64 q ∧ Aside0 (Kd.R (Kd.int .i64) 3 wr w5.heap.size (fun _ => True) u13 (Y ++ (U.take q).map fun b => Go.bits .or .i64 (Go.bits .andNot .i64 mask x) b)) ∧ Aside0 (Below w5.heap.size w5 wr))
      case atStart => exact ⟨0,Nat.zero_le _,by omega,rfl,HO0,HW⟩
      case round =>
       clear HO0 HW HRU cu
       obtain ⟨q,hql,hgq,rfl,HO,HW⟩:=hrel
       by_cases hlt3:q < nU
       ·have hltq:(q:Int) < (nU:Int):=by omega
        obtain ⟨y,hy⟩:∃ y,U[q]? = some y:=⟨U[q]'(by have:=HNU.out; omega),List.getElem?_eq_getElem _⟩
        obtain ⟨ad,eA,hcell⟩:=Kd.at_int (Kd.R_reads' (Kd.R_below HR5.out HW.out)).2.2 (q:Int) (by omega) (by have:=HNU.out; omega)
        have hrd:rd U (q:Int) = y:=by
         unfold rd
         rw [Int.toNat_natCast,List.getD_eq_getElem?_getD,hy]; rfl
        rw [hrd,Int.toNat_natCast] at hcell
        have G3:Aside0 ((Y ++ (U.take (q + 1)).map fun b => Go.bits .or .i64 (Go.bits .andNot .i64 mask x) b) = (Y ++ (U.take q).map fun b => Go.bits .or .i64 (Go.bits .andNot .i64 mask x) b) ++ [Go.bits .or .i64 (Go.bits .andNot .i64 mask x) y]):=⟨by rw [List.take_add_one,hy,List.map_append,List.append_assoc]; rfl⟩
        have HF9:Aside0 ((Y ++ (U.take q).map fun b => Go.bits .or .i64 (Go.bits .andNot .i64 mask x) b).length ≤ 4096 * 4096 + 4096):=⟨by rw [List.length_append,List.length_map,List.length_take]; have:=HF8.out; omega⟩
        generalize (Y ++ (U.take q).map fun b => Go.bits .or .i64 (Go.bits .andNot .i64 mask x) b) = Z at HO HF9 G3
        clear hy hrd
        subst eA
        obtain ⟨Az,dz,rfl⟩:=Kd.R_slice HO.out
        go_wp2_with ((at_builtin; refine Kd.R_append_row (w0:=w5) (h1:=fun _ => rfl) (Value.int .i64) (0:Int) w5.heap.size rfl _ _ _ _ _ 8 rfl Tryz.underlying22 hi5 rfl (by decide) (.slice Az Z.length dz) Z [Go.bits .or .i64 (Go.bits .andNot .i64 mask x) y] _ 1 _ (fun _ => True) rfl rfl ?xF ?xA ?xB ?xC ?xD ?xE ?_; (case xF => exact fun _ _ => trivial); (case xA => exact Kd.R_alloc HO.out _); (case xB => exact lit1_C (Value.int .i64) (fun _ => rfl) 3 _ _); (case xC => exact below_alloc HW.out _); (case xD => have h_:=(HW.out).size; simp; omega); (case xE => have h_:=HF9.out; omega); intro v1 w1 ho hb hg hat; obtain ⟨A1,d1,rfl⟩:=Kd.R_slice ho; simp only [List.length_append,List.length_cons,List.length_nil,Nat.zero_add] at ho hat; have N8:=am_ ho; have NB:=am_ hb; clear ho hb hg hat HO HW))
        go_roundg (nU - (q + 1))
        case measure => omega
        case rel => exact ⟨q + 1,by omega,by omega,by go_num,⟨by rw [G3.out]; exact N8.out⟩,NB⟩
       ·have hE:Aside0 (U.take q = U):=⟨List.take_of_length_le (by have:=HNU.out; omega)⟩
        have hltq:¬ (q:Int) < (nU:Int):=by omega
        have N8:Aside0 (Kd.R (Kd.int .i64) 3 wr w5.heap.size (fun _ => True) u13 (Y ++ U.map fun b => Go.bits .or .i64 (Go.bits .andNot .i64 mask x) b)):=⟨by have h:=HO.out; rw [hE.out] at h; exact h⟩
        clear HO hE
        go_wp2_with fail
        go_roundg (nT - (j + 1))
        case measure => omega
        case rel => exact ⟨j + 1,by omega,by omega,by go_num,⟨by rw [G1.out]; exact N8.out⟩,HW⟩
     ·have hE:Aside0 (T.take j = T):=⟨List.take_of_length_le (by have:=HNT.out; omega)⟩
      have hltz:¬ (j:Int) < (nT:Int):=by omega
      have HFin:Aside0 (Kd.R (Kd.int .i64) 3 wr w.heap.size (fun _ => True) u13 (madeL mask bs m true)):=⟨by have h:=HO.out; rw [hE.out] at h; rw [HM2.out]; exact Kd.R_lower h HBW5.out.size⟩
      have HBF:=am_ (HBW5.out.trans (HW.out.mono HBW5.out.size))
      clear HO HW hE
      go_wp2_with fail
      go_ret
      exact ⟨_,rfl,HFin.out,HBF.out⟩
theorem spec_moMade.calls (k:Nat) (a0_0:Int) (a0_1:Int) (A0_2:Option Addr) (c0_2:Nat) (l0_2:List Int) (A0_3:Option Addr) (c0_3:Nat) (l0_3:List Int) (a1:Int) (a2:Bool) (r:List Int) (w:World) (hr0_2:Kd.C (Kd.int .i64) w A0_2 l0_2.length l0_2) (hc0_2:l0_2.length ≤ c0_2) (hr0_3:Kd.C (Kd.int .i64) w A0_3 l0_3.length l0_3) (hc0_3:l0_3.length ≤ c0_3) (h:spec_moMade.f k a0_0 a0_1 l0_2 l0_3 a1 a2 = some r) :
  Calls Tryz.prog 48 #[.agg #[.int .i64 a0_0,.int .i64 a0_1,.slice A0_2 l0_2.length c0_2,.slice A0_3 l0_3.length c0_3],.int .i64 a1,.bool a2] w fun e w' => ∃ v0_:Value,e = .returned v0_ ∧ Kd.R (Kd.int .i64) 3 w' w.heap.size (fun _ => True) v0_ r ∧ Below w.heap.size w w':=by
 unfold spec_moMade.f at h
 obtain ⟨mask,hmask,h⟩:=bi_ h
 obtain ⟨bs,hbs,h⟩:=bi_ h
 by_cases hc:0 ≤ a1 ∧ a1 ≤ (if a2 then 2 else 4) ∧ bs.length ≤ 64
 ·rw [if_pos hc] at h
  obtain rfl:=Option.some.inj h
  obtain ⟨h0,h4,h64⟩:=hc
  obtain ⟨m,rfl⟩:=Int.eq_ofNat_of_zero_le h0
  rw [Int.toNat_natCast]
  exact moMade_any k a0_0 a0_1 A0_2 c0_2 l0_2 A0_3 c0_3 l0_3 m (by cases a2 <;> simp at h4 <;> omega) a2 (fun h => by rw [h] at h4; simp at h4; omega) mask bs w hr0_2 hc0_2 hr0_3 hc0_3 hmask hbs h64
 ·rw [if_neg hc] at h
  cases h


def spec_moThose.l0:Nat → Int → Bool → List (S85) → List Int → List Int → Int → Int → Option (List Int)
 | 0,_,_,_,_,_,_,_ => none
 | k + 1,x2,x4,x11,x12,x23,x24,x25 => if x25 < x24 then (if 0 ≤ x25 then (if x25 < (x23.length:Int) then ((spec_sqCount.f k x11 (rd x23 x25)).bind fun t151 => (if t151 = x2 then (if x4 = true then ((spec_sqNeeded.f k x11 (rd x23 x25)).bind fun t152 => (if t152 = (rd x23 x25) then (if x12.length < 17592186044416 then (spec_moThose.l0 k x2 x4 x11 (x12 ++ [rd x23 x25]) x23 x24 (wrap64 (x25 + 1))) else (none)) else (spec_moThose.l0 k x2 x4 x11 x12 x23 x24 (wrap64 (x25 + 1))))) else (if x12.length < 17592186044416 then (spec_moThose.l0 k x2 x4 x11 (x12 ++ [rd x23 x25]) x23 x24 (wrap64 (x25 + 1))) else (none))) else (spec_moThose.l0 k x2 x4 x11 x12 x23 x24 (wrap64 (x25 + 1))))) else (none)) else (none)) else (some x12)
def spec_moThose.f (k:Nat) (a0_0:Int) (a0_1:Int) (l0_2:List Int) (l0_3:List Int) (a1:Int) (a2:Int) (a3:Bool) (a4:Bool):Option (List Int):=(spec_sqAll.f k a0_0 a0_1).bind fun t144 => ((spec_moMade.f k a0_0 a0_1 l0_2 l0_3 a1 a3).bind fun t147 => (spec_moThose.l0 k a2 a4 t144 ([]:List Int) t147 (t147.length:Int) 0))
theorem spec_moThose.mono_l:∀ k,(∀ y0 y1 y2 y3 y4 y5 y6,LeO (spec_moThose.l0 k y0 y1 y2 y3 y4 y5 y6) (spec_moThose.l0 (k + 1) y0 y1 y2 y3 y4 y5 y6))
 | 0 => fun _ _ _ _ _ _ _ r h => by simp [spec_moThose.l0] at h
 | k + 1 => by
  have ih0:=spec_moThose.mono_l k
  ·intro y0 y1 y2 y3 y4 y5 y6
   unfold spec_moThose.l0
   repeat' first | (with_reducible first | exact ih0 _ _ _ _ _ _ _ | exact spec_moMade.mono _ _ _ _ _ _ _ | exact spec_sqAll.mono _ _ _ | exact spec_sqCount.mono _ _ _ | exact spec_sqNeeded.mono _ _ _ | exact LeO.refl _ | exact LeO.none _ | refine LeO.ite ?_ ?_ | refine LeO.bind ?_ (fun _ => ?_)) | exact ih0 _ _ _ _ _ _ _ | exact spec_moMade.mono _ _ _ _ _ _ _ | exact spec_sqAll.mono _ _ _ | exact spec_sqCount.mono _ _ _ | exact spec_sqNeeded.mono _ _ _
theorem spec_moThose.mono:∀ a0 a1 a2 a3 a4 a5 a6 a7 k,LeO (spec_moThose.f k a0 a1 a2 a3 a4 a5 a6 a7) (spec_moThose.f (k + 1) a0 a1 a2 a3 a4 a5 a6 a7):=by
 intro a0 a1 a2 a3 a4 a5 a6 a7 k
 have ih0:=spec_moThose.mono_l k
 unfold spec_moThose.f
 repeat' first | (with_reducible first | exact ih0 _ _ _ _ _ _ _ | exact spec_moMade.mono _ _ _ _ _ _ _ | exact spec_sqAll.mono _ _ _ | exact spec_sqCount.mono _ _ _ | exact spec_sqNeeded.mono _ _ _ | exact LeO.refl _ | exact LeO.none _ | refine LeO.ite ?_ ?_ | refine LeO.bind ?_ (fun _ => ?_)) | exact ih0 _ _ _ _ _ _ _ | exact spec_moMade.mono _ _ _ _ _ _ _ | exact spec_sqAll.mono _ _ _ | exact spec_sqCount.mono _ _ _ | exact spec_sqNeeded.mono _ _ _
set_option maxHeartbeats 8000000 in
set_option maxRecDepth 100000 in
theorem spec_moThose.calls (k:Nat) (a0_0:Int) (a0_1:Int) (A0_2:Option Addr) (c0_2:Nat) (l0_2:List Int) (A0_3:Option Addr) (c0_3:Nat) (l0_3:List Int) (a1:Int) (a2:Int) (a3:Bool) (a4:Bool) (r:List Int) (w:World) (hr0_2:Kd.C (Kd.int .i64) w A0_2 l0_2.length l0_2) (hc0_2:l0_2.length ≤ c0_2) (hr0_3:Kd.C (Kd.int .i64) w A0_3 l0_3.length l0_3) (hc0_3:l0_3.length ≤ c0_3) (h:spec_moThose.f k a0_0 a0_1 l0_2 l0_3 a1 a2 a3 a4 = some r) :
  Calls Tryz.prog 36 #[.agg #[.int .i64 a0_0,.int .i64 a0_1,.slice A0_2 l0_2.length c0_2,.slice A0_3 l0_3.length c0_3],.int .i64 a1,.int .i64 a2,.bool a3,.bool a4] w fun e w' => ∃ v0_:Value,e = .returned (v0_) ∧ Kd.R (Kd.int .i64) 3 w' w.heap.size (fun _ => True) v0_ r ∧ Below w.heap.size w w':=by
 have hu26:=Tryz.underlying26
 have HR0_2:=am_ hr0_2
 have HC0_2:=am_ hc0_2
 clear hr0_2 hc0_2
 have HR0_3:=am_ hr0_3
 have HC0_3:=am_ hc0_3
 clear hr0_3 hc0_3
 have HB:=am_ (Below.refl w.heap.size w)
 have H:((spec_sqAll.f k a0_0 a0_1).bind fun t144 => ((spec_moMade.f k a0_0 a0_1 l0_2 l0_3 a1 a3).bind fun t147 => (spec_moThose.l0 k a2 a4 t144 ([]:List Int) t147 (t147.length:Int) 0))) = some r:=h
 clear h
 replace H:=bi_ H
 obtain ⟨t144,A60,H⟩:=H
 replace H:((spec_moMade.f k a0_0 a0_1 l0_2 l0_3 a1 a3).bind fun t147 => (spec_moThose.l0 k a2 a4 t144 ([]:List Int) t147 (t147.length:Int) 0)) = some r:=H
 have A6:=am_ A60
 clear A60
 replace H:=bi_ H
 obtain ⟨t147,A70,H⟩:=H
 replace H:(spec_moThose.l0 k a2 a4 t144 ([]:List Int) t147 (t147.length:Int) 0) = some r:=H
 have A7:=am_ A70
 clear A70
 have H':=am_ H
 clear H
 go_enter Tryz.func36,Tryz.ntmps36
 go_wp2_with (first | ((with_reducible refine gate_dst (N:=5) rfl ?_); refine boxE_ (N:=5) (cs:=#[.int .i64 a0_0,.int .i64 a0_1,.slice A0_2 l0_2.length c0_2,.slice A0_3 l0_3.length c0_3]) (t:=26) ?_; intro gb143 hg w8 hbox hb; have n0_:=am_ (below_step (bl0_ HB.out) hb); have n1_:=am_ (hbox); have n2_:=am_ ((bs0_ hg HB.out:w.heap.size ≤ gb143)); have n3_:=am_ ((bs0_ hg HB.out:w.heap.size ≤ gb143)); clear HB; have HB:=n0_; have BK143:=n1_; have GW143:=n2_; have GE143:=n3_; clear n0_ n1_ n2_ n3_; clear hb hbox hg; have hcz9_0:w8.cell? ⟨gb143,0,none⟩ = some (.int .i64 a0_0):=(bc_ BK143.out 0).trans rfl; have hcz9_1:w8.cell? ⟨gb143,1,none⟩ = some (.int .i64 a0_1):=(bc_ BK143.out 1).trans rfl; have hcz9_2:w8.cell? ⟨gb143,2,none⟩ = some (.slice A0_2 l0_2.length c0_2):=(bc_ BK143.out 2).trans rfl; have hcz9_3:w8.cell? ⟨gb143,3,none⟩ = some (.slice A0_3 l0_3.length c0_3):=(bc_ BK143.out 3).trans rfl; have hfz9_0:=bz_ BK143.out 0; have hfz9_1:=bz_ BK143.out 1; have hfz9_2:=bz_ BK143.out 2; have hfz9_3:=bz_ BK143.out 3) | ((with_reducible refine gate_callee (f:=47) rfl ?_); refine goesL_ (some 19) rfl rfl Tryz.func47 (by kernel_rfl) rfl #[.int .i64 a0_0,.int .i64 a0_1] rfl ob_ ?_; (with_reducible refine (spec_sqAll.calls k a0_0 a0_1 t144 _ A6.out).mono ?_); rintro e w10 ⟨v145,rfl,ho0,hb⟩; refine ⟨_,rfl,?_⟩; have n0_:=am_ (Kd.R_lower ho0 (below_size (bl1_ HB.out GE143.out))); have n1_:=am_ (bb_ BK143.out hb); have n2_:=am_ (below_step (bl1_ HB.out GE143.out) hb); clear BK143; clear HB; have HO146:=n0_; have BK143:=n1_; have HB:=n2_; clear n0_ n1_ n2_; (try clear hb); (try clear hb2); (try clear hk); (try clear hi); (try clear ho0); have hcz11_0:w10.cell? ⟨gb143,0,none⟩ = some (.int .i64 a0_0):=(bc_ BK143.out 0).trans rfl; have hcz11_1:w10.cell? ⟨gb143,1,none⟩ = some (.int .i64 a0_1):=(bc_ BK143.out 1).trans rfl; have hcz11_2:w10.cell? ⟨gb143,2,none⟩ = some (.slice A0_2 l0_2.length c0_2):=(bc_ BK143.out 2).trans rfl; have hcz11_3:w10.cell? ⟨gb143,3,none⟩ = some (.slice A0_3 l0_3.length c0_3):=(bc_ BK143.out 3).trans rfl; have hfz11_0:=bz_ BK143.out 0; have hfz11_1:=bz_ BK143.out 1; have hfz11_2:=bz_ BK143.out 2; have hfz11_3:=bz_ BK143.out 3) | ((with_reducible refine gate_callee (f:=48) rfl ?_); refine goesL_ (some 23) rfl rfl Tryz.func48 (by kernel_rfl) rfl #[.agg #[.int .i64 a0_0,.int .i64 a0_1,.slice A0_2 l0_2.length c0_2,.slice A0_3 l0_3.length c0_3],.int .i64 a1,.bool a3] rfl ob_ ?_; (with_reducible refine (spec_moMade.calls k a0_0 a0_1 _ _ l0_2 _ _ l0_3 a1 a3 t147 _ ?side1 ?side2 ?side3 ?side4 A7.out).mono ?_); (case side1 => exact kc_ (Kd.C_below HR0_2.out HB.out)); (case side2 => exact HC0_2.out); (case side3 => exact kc_ (Kd.C_below HR0_3.out HB.out)); (case side4 => exact HC0_3.out); rintro e w12 ⟨v148,rfl,ho0,hb⟩; refine ⟨_,rfl,?_⟩; have n0_:=am_ (Kd.R_below (kr_ HO146.out) hb); have n1_:=am_ (Kd.R_lower ho0 (below_size (bl1_ HB.out GE143.out))); have n2_:=am_ (bb_ BK143.out hb); have n3_:=am_ (below_step (bl1_ HB.out GE143.out) hb); clear HO146; clear BK143; clear HB; have HO146:=n0_; have HO149:=n1_; have BK143:=n2_; have HB:=n3_; clear n0_ n1_ n2_ n3_; (try clear hb); (try clear hb2); (try clear hk); (try clear hi); (try clear ho0); obtain ⟨Ao13,co13,eo13⟩:=Kd.R_slice HO149.out; subst eo13))
 go_loopg [12,25] k (fun kq v12 v25 w' => ∃ (x12_1:List Int) (x25_1:Int),v25 = .int .i64 x25_1 ∧ Aside0 (spec_moThose.l0 kq a2 a4 t144 x12_1 t147 (t147.length:Int) x25_1 = some r) ∧ Aside0 (kq ≤ k) ∧ Aside0 (Kd.R k85 85 w' w.heap.size (fun _ => True) v145 t144) ∧ Aside0 (Kd.R (Kd.int .i64) 3 w' w.heap.size (fun k_ => some k_ ≠ ((.slice Ao13 t147.length co13):Value).ownBlock) v12 x12_1) ∧ Aside0 (Kd.R (Kd.int .i64) 3 w' w.heap.size (fun k_ => some k_ ≠ (v12:Value).ownBlock) (.slice Ao13 t147.length co13) t147) ∧ Aside0 (w'.heap[gb143]? = some (.cells #[.int .i64 a0_0,.int .i64 a0_1,(.slice A0_2 l0_2.length c0_2),(.slice A0_3 l0_3.length c0_3)] 26 (0,0))) ∧ Aside0 (Below w.heap.size w w'))
 case atStart => exact ⟨(([]:List Int)),(0),rs_,H',⟨Nat.le_refl _⟩,⟨kr_ HO146.out⟩,⟨by first | exact Kd.R_nil _ _ _ _ _ | exact Kd.N_nil _ _ _ _ _ | exact Kd.V_nil _ _ _ _ _ | exact Kd.Q_nil _ _ _ _ _ | exact Kd.S_nil _ _ _ _ _⟩,⟨by (with_reducible repeat (first | apply Kd.R_alloc | apply Kd.R_drewN | apply Kd.R_drew)); exact Kd.R_mono HO149.out (fun _ hk => (by simp [Value.ownBlock]))⟩,⟨bk_ BK143.out⟩,⟨bl1_ HB.out GE143.out⟩⟩
 case round =>
  clear H'
  try clear p2
  try clear c3
  try clear c4
  try clear hcz11_0
  try clear hcz11_1
  try clear hcz11_2
  try clear hcz11_3
  try clear hcz9_0
  try clear hcz9_1
  try clear hcz9_2
  try clear hcz9_3
  try clear hfz11_0
  try clear hfz11_1
  try clear hfz11_2
  try clear hfz11_3
  try clear hfz9_0
  try clear hfz9_1
  try clear hfz9_2
  try clear hfz9_3
  obtain ⟨x12_1,x25_1,rfl,HA,HK1,HO_11,HO_12,HO_23,BK143,HB⟩:=hrel
  cases gk with
  | zero => exact absurd HA.out (by simp [spec_moThose.l0])
  | succ k1 =>
   have H:=HA.out
   clear HA
   simp only [spec_moThose.l0] at H
   by_cases c14:x25_1 < (t147.length:Int)
   ·rw [if_pos c14] at H
    have c14b0:decide (x25_1 < (t147.length:Int)) = true:=decide_eq_true c14
    clear c14
    by_cases c15:0 ≤ x25_1
    ·rw [if_pos c15] at H
     have c15b0:decide (0 ≤ x25_1) = true:=decide_eq_true c15
     clear c15
     by_cases c16:x25_1 < (t147.length:Int)
     ·rw [if_pos c16] at H
      have c16b0:decide (x25_1 < (t147.length:Int)) = true:=decide_eq_true c16
      clear c16
      replace H:=bi_ H
      obtain ⟨t151,A170,H⟩:=H
      replace H:(if t151 = a2 then (if a4 = true then ((spec_sqNeeded.f k1 t144 (rd t147 x25_1)).bind fun t152 => (if t152 = (rd t147 x25_1) then (if x12_1.length < 17592186044416 then (spec_moThose.l0 k1 a2 a4 t144 (x12_1 ++ [rd t147 x25_1]) t147 (t147.length:Int) (wrap64 (x25_1 + 1))) else (none)) else (spec_moThose.l0 k1 a2 a4 t144 x12_1 t147 (t147.length:Int) (wrap64 (x25_1 + 1))))) else (if x12_1.length < 17592186044416 then (spec_moThose.l0 k1 a2 a4 t144 (x12_1 ++ [rd t147 x25_1]) t147 (t147.length:Int) (wrap64 (x25_1 + 1))) else (none))) else (spec_moThose.l0 k1 a2 a4 t144 x12_1 t147 (t147.length:Int) (wrap64 (x25_1 + 1)))) = some r:=H
      have A17:=am_ A170
      clear A170
      by_cases c18:t151 = a2
      ·rw [if_pos c18] at H
       have c18b0:(t151 == a2) = true:=beq_iff_eq.mpr c18
       have c18b1:(t151 != a2) = false:=bne_eq_false_iff_eq.mpr c18
       clear c18
       by_cases c19:a4 = true
       ·subst c19
        have H1:((spec_sqNeeded.f k1 t144 (rd t147 x25_1)).bind fun t152 => (if t152 = (rd t147 x25_1) then (if x12_1.length < 17592186044416 then (spec_moThose.l0 k1 a2 true t144 (x12_1 ++ [rd t147 x25_1]) t147 (t147.length:Int) (wrap64 (x25_1 + 1))) else (none)) else (spec_moThose.l0 k1 a2 true t144 x12_1 t147 (t147.length:Int) (wrap64 (x25_1 + 1))))) = some r:=by rw [if_pos rfl] at H; exact H
        clear H
        have H:=H1
        clear H1
        replace H:=bi_ H
        obtain ⟨t152,A200,H⟩:=H
        replace H:(if t152 = (rd t147 x25_1) then (if x12_1.length < 17592186044416 then (spec_moThose.l0 k1 a2 true t144 (x12_1 ++ [rd t147 x25_1]) t147 (t147.length:Int) (wrap64 (x25_1 + 1))) else (none)) else (spec_moThose.l0 k1 a2 true t144 x12_1 t147 (t147.length:Int) (wrap64 (x25_1 + 1)))) = some r:=H
        have A20:=am_ A200
        clear A200
        by_cases c21:t152 = (rd t147 x25_1)
        ·rw [if_pos c21] at H
         have c21b0:(t152 == (rd t147 x25_1)) = true:=beq_iff_eq.mpr c21
         have c21b1:(t152 != (rd t147 x25_1)) = false:=bne_eq_false_iff_eq.mpr c21
         clear c21
         by_cases c22:x12_1.length < 17592186044416
         ·rw [if_pos c22] at H
          have LMc22:=am_ c22
          clear c22
          obtain ⟨y153,hy153⟩:∃ y_:List Int,y_ = (x12_1 ++ [rd t147 x25_1]):=⟨_,rfl⟩
          replace H:(spec_moThose.l0 k1 a2 true t144 y153 t147 (t147.length:Int) (wrap64 (x25_1 + 1))) = some r:=by first | (rw [hy153]; with_reducible exact H) | (have H2_:=(Option.bind_some _ _).symm.trans H; rw [hy153]; with_reducible exact H2_) | (have H2_:=(Option.bind_some _ _).symm.trans H; with_reducible exact H2_) | with_reducible exact H | (rw [hy153]; exact H) | exact H
          have Ny153:=am_ hy153
          clear hy153
          have H':=am_ H
          clear H
          have p150:0 ≤ (x25_1:Int):=of_decide_eq_true as_
          have q150:x25_1 < (t147.length:Int):=of_decide_eq_true as_
          obtain ⟨ad150,e150,hx150_0⟩:=Kd.at_int (Kd.R_reads' HO_23.out).2.2 x25_1 p150 q150
          cases e150
          replace p150:=eq_true p150
          replace q150:=eq_true q150
          obtain ⟨Ao23,co23,eo23⟩:=Kd.R_slice HO_11.out
          subst eo23
          go_wp2_with (first | ((with_reducible refine gate_callee (f:=49) rfl ?_); refine goesL_ (some 31) rfl rfl Tryz.func49 (by kernel_rfl) rfl #[.slice Ao23 t144.length co23,.int .i64 (rd t147 x25_1)] rfl ob_ ?_; (with_reducible refine (spec_sqCount.calls k1 _ _ t144 (rd t147 x25_1) t151 _ ?side1 ?side2 A17.out).mono ?_); (case side1 => repeat (first | exact (Kd.R_reads' HO_11.out).2.2 | (with_reducible refine Kd.C_alloc ?_ _) | (with_reducible refine Kd.C_drewN ?_ _) | (with_reducible refine Kd.C_drew ?_))); (case side2 => exact (Kd.R_reads' HO_11.out).2.1); rintro e w24 ⟨rfl,hb⟩; refine ⟨_,rfl,?_⟩; have n0_:=am_ (Kd.R_below (kr_ HO_11.out) hb); have n1_:=am_ (Kd.R_below (kr_ HO_12.out) hb); have n2_:=am_ (Kd.R_below (kr_ HO_23.out) hb); have n3_:=am_ (bb_ BK143.out hb); have n4_:=am_ (below_step (bl1_ HB.out GE143.out) hb); clear HO_11; clear HO_12; clear HO_23; clear BK143; clear HB; have HO_11:=n0_; have HO_12:=n1_; have HO_23:=n2_; have BK143:=n3_; have HB:=n4_; clear n0_ n1_ n2_ n3_ n4_; (try clear hb); (try clear hb2); (try clear hk); (try clear hi)) | (go_at_call 50; (with_reducible refine (spec_sqNeeded.calls k1 _ _ t144 (rd t147 x25_1) t152 _ ?side1 ?side2 A20.out).mono ?_); (case side1 => repeat (first | exact (Kd.R_reads' HO_11.out).2.2 | (with_reducible refine Kd.C_alloc ?_ _) | (with_reducible refine Kd.C_drewN ?_ _) | (with_reducible refine Kd.C_drew ?_))); (case side2 => exact (Kd.R_reads' HO_11.out).2.1); rintro e w25 ⟨rfl,hb⟩; have n0_:=am_ (Kd.R_below (kr_ HO_11.out) hb); have n1_:=am_ (Kd.R_below (kr_ HO_12.out) hb); have n2_:=am_ (Kd.R_below (kr_ HO_23.out) hb); have n3_:=am_ (bb_ BK143.out hb); have n4_:=am_ (below_step (bl1_ HB.out GE143.out) hb); clear HO_11; clear HO_12; clear HO_23; clear BK143; clear HB; have HO_11:=n0_; have HO_12:=n1_; have HO_23:=n2_; have BK143:=n3_; have HB:=n4_; clear n0_ n1_ n2_ n3_ n4_; (try clear hb); (try clear hb2); (try clear hk); (try clear hi)) | ((with_reducible refine gate_builtin (b:=.append) (xs:=#[.tmp 45,.tmp 47]) rfl ?_); at_builtin; refine Kd.R_append (Kd.int .i64) (w0:=w) w.heap.size rfl (.tmp 45) (.tmp 47) 22 3 (.int .i64 0) 8 rfl Tryz.underlying22 info3 rfl (by decide) (by omega) u12 x12_1 (rd t147 x25_1) [.int .i64 (rd t147 x25_1)] (fun k_ => some k_ ≠ (.slice (some ad150) t147.length co13:Value).ownBlock) (fun _ => False) rfl rfl ?aP (fun _ hk => hk.elim) ?aF ?aO ?aB ?aS ?aL ?_; (case aP => exact rfl); (case aB => exact (bl1_ HB.out GE143.out)); (case aF => exact (fun k_ hk => Kd.fresh' (Kd.R_lt (kr_ HO_23.out)) k_ hk)); (case aO => exact (kr_ HO_12.out)); (case aS => exact (below_size (bl1_ HB.out GE143.out))); (case aL => have:=LMc22.out; omega); intro v154 w26 ho hb hg hat; rw [← Ny153.out] at ho; have n0_:=am_ (Kd.R_over' (kr_ HO_11.out) (Kd.R_typed (kr_ HO_12.out)) (by decide) hg); have n1_:=am_ (Kd.R_after (ok:=(fun _ => True)) (by (with_reducible repeat (first | apply Kd.R_alloc | apply Kd.R_drewN | apply Kd.R_drew)); exact Kd.R_mono HO_23.out (fun _ hk => ⟨trivial,hk⟩)) hg hat); have n2_:=am_ (blk_grown (g:=gb143) (o:=.cells #[.int .i64 a0_0,.int .i64 a0_1,.slice A0_2 l0_2.length c0_2,.slice A0_3 l0_3.length c0_3] 26 (0,0)) (bk_ BK143.out) hg (Kd.R_ne HO_12.out BK143.out (by decide))); have n3_:=am_ (hb); have n4_:=am_ (ho); clear HO_11; clear HO_23; clear BK143; clear HB; clear HO_12; have HO_11:=n0_; have HO_23:=n1_; have BK143:=n2_; have HB:=n3_; have HO155:=n4_; clear n0_ n1_ n2_ n3_ n4_; clear ho hb hg hat))
          go_roundg k1
          case measure => have:=HK1.out; omega
          case rel => exact ⟨(y153),(wrap64 (x25_1 + 1)),rs_,H',⟨by have:=HK1.out; omega⟩,⟨kr_ HO_11.out⟩,⟨kr_ HO155.out⟩,⟨by (with_reducible repeat (first | apply Kd.R_alloc | apply Kd.R_drewN | apply Kd.R_drew)); exact Kd.R_mono HO_23.out (fun _ hk => hk.2)⟩,⟨bk_ BK143.out⟩,⟨bl1_ HB.out GE143.out⟩⟩
         ·rw [if_neg c22] at H
          exact absurd H (by simp)
        ·rw [if_neg c21] at H
         have c21b0:(t152 == (rd t147 x25_1)) = false:=beq_eq_false_iff_ne.mpr c21
         have c21b1:(t152 != (rd t147 x25_1)) = true:=bne_iff_ne.mpr c21
         have H':=am_ H
         clear H
         have p150:0 ≤ (x25_1:Int):=of_decide_eq_true as_
         have q150:x25_1 < (t147.length:Int):=of_decide_eq_true as_
         obtain ⟨ad150,e150,hx150_0⟩:=Kd.at_int (Kd.R_reads' HO_23.out).2.2 x25_1 p150 q150
         cases e150
         replace p150:=eq_true p150
         replace q150:=eq_true q150
         obtain ⟨Ao27,co27,eo27⟩:=Kd.R_slice HO_11.out
         subst eo27
         go_wp2_with (first | ((with_reducible refine gate_callee (f:=49) rfl ?_); refine goesL_ (some 31) rfl rfl Tryz.func49 (by kernel_rfl) rfl #[.slice Ao27 t144.length co27,.int .i64 (rd t147 x25_1)] rfl ob_ ?_; (with_reducible refine (spec_sqCount.calls k1 _ _ t144 (rd t147 x25_1) t151 _ ?side1 ?side2 A17.out).mono ?_); (case side1 => repeat (first | exact (Kd.R_reads' HO_11.out).2.2 | (with_reducible refine Kd.C_alloc ?_ _) | (with_reducible refine Kd.C_drewN ?_ _) | (with_reducible refine Kd.C_drew ?_))); (case side2 => exact (Kd.R_reads' HO_11.out).2.1); rintro e w28 ⟨rfl,hb⟩; refine ⟨_,rfl,?_⟩; have n0_:=am_ (Kd.R_below (kr_ HO_11.out) hb); have n1_:=am_ (Kd.R_below (kr_ HO_12.out) hb); have n2_:=am_ (Kd.R_below (kr_ HO_23.out) hb); have n3_:=am_ (bb_ BK143.out hb); have n4_:=am_ (below_step (bl1_ HB.out GE143.out) hb); clear HO_11; clear HO_12; clear HO_23; clear BK143; clear HB; have HO_11:=n0_; have HO_12:=n1_; have HO_23:=n2_; have BK143:=n3_; have HB:=n4_; clear n0_ n1_ n2_ n3_ n4_; (try clear hb); (try clear hb2); (try clear hk); (try clear hi)) | (go_at_call 50; (with_reducible refine (spec_sqNeeded.calls k1 _ _ t144 (rd t147 x25_1) t152 _ ?side1 ?side2 A20.out).mono ?_); (case side1 => repeat (first | exact (Kd.R_reads' HO_11.out).2.2 | (with_reducible refine Kd.C_alloc ?_ _) | (with_reducible refine Kd.C_drewN ?_ _) | (with_reducible refine Kd.C_drew ?_))); (case side2 => exact (Kd.R_reads' HO_11.out).2.1); rintro e w29 ⟨rfl,hb⟩; have n0_:=am_ (Kd.R_below (kr_ HO_11.out) hb); have n1_:=am_ (Kd.R_below (kr_ HO_12.out) hb); have n2_:=am_ (Kd.R_below (kr_ HO_23.out) hb); have n3_:=am_ (bb_ BK143.out hb); have n4_:=am_ (below_step (bl1_ HB.out GE143.out) hb); clear HO_11; clear HO_12; clear HO_23; clear BK143; clear HB; have HO_11:=n0_; have HO_12:=n1_; have HO_23:=n2_; have BK143:=n3_; have HB:=n4_; clear n0_ n1_ n2_ n3_ n4_; (try clear hb); (try clear hb2); (try clear hk); (try clear hi)))
         go_roundg k1
         case measure => have:=HK1.out; omega
         case rel => exact ⟨(x12_1),(wrap64 (x25_1 + 1)),rs_,H',⟨by have:=HK1.out; omega⟩,⟨kr_ HO_11.out⟩,⟨kr_ HO_12.out⟩,⟨kr_ HO_23.out⟩,⟨bk_ BK143.out⟩,⟨bl1_ HB.out GE143.out⟩⟩
       ·replace c19:=Bool.eq_false_iff.mpr c19
        subst c19
        have H1:(if x12_1.length < 17592186044416 then (spec_moThose.l0 k1 a2 false t144 (x12_1 ++ [rd t147 x25_1]) t147 (t147.length:Int) (wrap64 (x25_1 + 1))) else (none)) = some r:=by rw [if_neg (show ¬ (false = true) by decide)] at H; exact H
        clear H
        have H:=H1
        clear H1
        by_cases c30:x12_1.length < 17592186044416
        ·rw [if_pos c30] at H
         have LMc30:=am_ c30
         clear c30
         obtain ⟨y156,hy156⟩:∃ y_:List Int,y_ = (x12_1 ++ [rd t147 x25_1]):=⟨_,rfl⟩
         replace H:(spec_moThose.l0 k1 a2 false t144 y156 t147 (t147.length:Int) (wrap64 (x25_1 + 1))) = some r:=by first | (rw [hy156]; with_reducible exact H) | (have H2_:=(Option.bind_some _ _).symm.trans H; rw [hy156]; with_reducible exact H2_) | (have H2_:=(Option.bind_some _ _).symm.trans H; with_reducible exact H2_) | with_reducible exact H | (rw [hy156]; exact H) | exact H
         have Ny156:=am_ hy156
         clear hy156
         have H':=am_ H
         clear H
         have p150:0 ≤ (x25_1:Int):=of_decide_eq_true as_
         have q150:x25_1 < (t147.length:Int):=of_decide_eq_true as_
         obtain ⟨ad150,e150,hx150_0⟩:=Kd.at_int (Kd.R_reads' HO_23.out).2.2 x25_1 p150 q150
         cases e150
         replace p150:=eq_true p150
         replace q150:=eq_true q150
         obtain ⟨Ao31,co31,eo31⟩:=Kd.R_slice HO_11.out
         subst eo31
         go_wp2_with (first | ((with_reducible refine gate_callee (f:=49) rfl ?_); refine goesL_ (some 31) rfl rfl Tryz.func49 (by kernel_rfl) rfl #[.slice Ao31 t144.length co31,.int .i64 (rd t147 x25_1)] rfl ob_ ?_; (with_reducible refine (spec_sqCount.calls k1 _ _ t144 (rd t147 x25_1) t151 _ ?side1 ?side2 A17.out).mono ?_); (case side1 => repeat (first | exact (Kd.R_reads' HO_11.out).2.2 | (with_reducible refine Kd.C_alloc ?_ _) | (with_reducible refine Kd.C_drewN ?_ _) | (with_reducible refine Kd.C_drew ?_))); (case side2 => exact (Kd.R_reads' HO_11.out).2.1); rintro e w32 ⟨rfl,hb⟩; refine ⟨_,rfl,?_⟩; have n0_:=am_ (Kd.R_below (kr_ HO_11.out) hb); have n1_:=am_ (Kd.R_below (kr_ HO_12.out) hb); have n2_:=am_ (Kd.R_below (kr_ HO_23.out) hb); have n3_:=am_ (bb_ BK143.out hb); have n4_:=am_ (below_step (bl1_ HB.out GE143.out) hb); clear HO_11; clear HO_12; clear HO_23; clear BK143; clear HB; have HO_11:=n0_; have HO_12:=n1_; have HO_23:=n2_; have BK143:=n3_; have HB:=n4_; clear n0_ n1_ n2_ n3_ n4_; (try clear hb); (try clear hb2); (try clear hk); (try clear hi)) | ((with_reducible refine gate_builtin (b:=.append) (xs:=#[.tmp 45,.tmp 47]) rfl ?_); at_builtin; refine Kd.R_append (Kd.int .i64) (w0:=w) w.heap.size rfl (.tmp 45) (.tmp 47) 22 3 (.int .i64 0) 8 rfl Tryz.underlying22 info3 rfl (by decide) (by omega) u12 x12_1 (rd t147 x25_1) [.int .i64 (rd t147 x25_1)] (fun k_ => some k_ ≠ (.slice (some ad150) t147.length co13:Value).ownBlock) (fun _ => False) rfl rfl ?aP (fun _ hk => hk.elim) ?aF ?aO ?aB ?aS ?aL ?_; (case aP => exact rfl); (case aB => exact (bl1_ HB.out GE143.out)); (case aF => exact (fun k_ hk => Kd.fresh' (Kd.R_lt (kr_ HO_23.out)) k_ hk)); (case aO => exact (kr_ HO_12.out)); (case aS => exact (below_size (bl1_ HB.out GE143.out))); (case aL => have:=LMc30.out; omega); intro v157 w33 ho hb hg hat; rw [← Ny156.out] at ho; have n0_:=am_ (Kd.R_over' (kr_ HO_11.out) (Kd.R_typed (kr_ HO_12.out)) (by decide) hg); have n1_:=am_ (Kd.R_after (ok:=(fun _ => True)) (by (with_reducible repeat (first | apply Kd.R_alloc | apply Kd.R_drewN | apply Kd.R_drew)); exact Kd.R_mono HO_23.out (fun _ hk => ⟨trivial,hk⟩)) hg hat); have n2_:=am_ (blk_grown (g:=gb143) (o:=.cells #[.int .i64 a0_0,.int .i64 a0_1,.slice A0_2 l0_2.length c0_2,.slice A0_3 l0_3.length c0_3] 26 (0,0)) (bk_ BK143.out) hg (Kd.R_ne HO_12.out BK143.out (by decide))); have n3_:=am_ (hb); have n4_:=am_ (ho); clear HO_11; clear HO_23; clear BK143; clear HB; clear HO_12; have HO_11:=n0_; have HO_23:=n1_; have BK143:=n2_; have HB:=n3_; have HO158:=n4_; clear n0_ n1_ n2_ n3_ n4_; clear ho hb hg hat))
         go_roundg k1
         case measure => have:=HK1.out; omega
         case rel => exact ⟨(y156),(wrap64 (x25_1 + 1)),rs_,H',⟨by have:=HK1.out; omega⟩,⟨kr_ HO_11.out⟩,⟨kr_ HO158.out⟩,⟨by (with_reducible repeat (first | apply Kd.R_alloc | apply Kd.R_drewN | apply Kd.R_drew)); exact Kd.R_mono HO_23.out (fun _ hk => hk.2)⟩,⟨bk_ BK143.out⟩,⟨bl1_ HB.out GE143.out⟩⟩
        ·rw [if_neg c30] at H
         exact absurd H (by simp)
      ·rw [if_neg c18] at H
       have c18b0:(t151 == a2) = false:=beq_eq_false_iff_ne.mpr c18
       have c18b1:(t151 != a2) = true:=bne_iff_ne.mpr c18
       have H':=am_ H
       clear H
       have p150:0 ≤ (x25_1:Int):=of_decide_eq_true as_
       have q150:x25_1 < (t147.length:Int):=of_decide_eq_true as_
       obtain ⟨ad150,e150,hx150_0⟩:=Kd.at_int (Kd.R_reads' HO_23.out).2.2 x25_1 p150 q150
       cases e150
       replace p150:=eq_true p150
       replace q150:=eq_true q150
       obtain ⟨Ao34,co34,eo34⟩:=Kd.R_slice HO_11.out
       subst eo34
       go_wp2_with (first | ((with_reducible refine gate_callee (f:=49) rfl ?_); refine goesL_ (some 31) rfl rfl Tryz.func49 (by kernel_rfl) rfl #[.slice Ao34 t144.length co34,.int .i64 (rd t147 x25_1)] rfl ob_ ?_; (with_reducible refine (spec_sqCount.calls k1 _ _ t144 (rd t147 x25_1) t151 _ ?side1 ?side2 A17.out).mono ?_); (case side1 => repeat (first | exact (Kd.R_reads' HO_11.out).2.2 | (with_reducible refine Kd.C_alloc ?_ _) | (with_reducible refine Kd.C_drewN ?_ _) | (with_reducible refine Kd.C_drew ?_))); (case side2 => exact (Kd.R_reads' HO_11.out).2.1); rintro e w35 ⟨rfl,hb⟩; refine ⟨_,rfl,?_⟩; have n0_:=am_ (Kd.R_below (kr_ HO_11.out) hb); have n1_:=am_ (Kd.R_below (kr_ HO_12.out) hb); have n2_:=am_ (Kd.R_below (kr_ HO_23.out) hb); have n3_:=am_ (bb_ BK143.out hb); have n4_:=am_ (below_step (bl1_ HB.out GE143.out) hb); clear HO_11; clear HO_12; clear HO_23; clear BK143; clear HB; have HO_11:=n0_; have HO_12:=n1_; have HO_23:=n2_; have BK143:=n3_; have HB:=n4_; clear n0_ n1_ n2_ n3_ n4_; (try clear hb); (try clear hb2); (try clear hk); (try clear hi)))
       go_roundg k1
       case measure => have:=HK1.out; omega
       case rel => exact ⟨(x12_1),(wrap64 (x25_1 + 1)),rs_,H',⟨by have:=HK1.out; omega⟩,⟨kr_ HO_11.out⟩,⟨kr_ HO_12.out⟩,⟨kr_ HO_23.out⟩,⟨bk_ BK143.out⟩,⟨bl1_ HB.out GE143.out⟩⟩
     ·rw [if_neg c16] at H
      exact absurd H (by simp)
    ·rw [if_neg c15] at H
     exact absurd H (by simp)
   ·rw [if_neg c14] at H
    have c14b0:decide (x25_1 < (t147.length:Int)) = false:=decide_eq_false c14
    clear c14
    obtain rfl:=Option.some.inj H
    go_wp2
    go_ret
    exact ⟨_,er_,by (with_reducible repeat (first | apply Kd.R_alloc | apply Kd.R_drewN | apply Kd.R_drew)); exact Kd.R_mono HO_12.out (fun _ hk => trivial),bl1_ HB.out GE143.out⟩


def TBM (w:World):Prop:=True
theorem TBM.below {w w':World} (h:TBM w) (hb:Below w.heap.size w w'):TBM w':=by
  first
    | exact trivial
    | (obtain ⟨m,hm⟩:=h; exact ⟨m,pw_cell_below hb hm⟩)
def TB (w:World):Prop:=(∀ j,j < 64 → w.cell? ⟨0,j,none⟩ = some (.int .u8 (Lib.deBruijn64tab.getD j 0))) ∧ TBM w
theorem TB.below {w w':World} (h:TB w) (hb:Below w.heap.size w w'):TB w':=⟨fun j hj => pw_cell_below hb (h.1 j hj),h.2.below hb⟩
theorem TB.lt {w:World} (h:TB w):0 < w.heap.size:=wl_ w _ (h.1 0 (by omega))
theorem tz_key (x a:Nat) (hx:x < 18446744073709551616) (hx0:x ≠ 0) (hlow:x &&& (18446744073709551616 - x) = a) :
    IntKind.u64.wrap (bits BinOp.and IntKind.u64 (x:Int) (IntKind.u64.wrap (-(x:Int))) * 285870213051353865) / 288230376151711744 = ((a * 285870213051353865 % 18446744073709551616 / 288230376151711744:Nat):Int):=by
  have e1:IntKind.u64.wrap (-(x:Int)) = ((18446744073709551616 - x:Nat):Int):=by rw [IntKind.wrap_u64]; omega
  rw [e1,bits_and_u64_nat x _ hx (by omega),hlow,IntKind.wrap_u64]
  omega
set_option maxHeartbeats 1000000 in
theorem tz_core (x k idx:Nat) (w:World) (hx0:((x:Int) == 0) = false)
    (key:IntKind.u64.wrap (bits BinOp.and IntKind.u64 (x:Int) (IntKind.u64.wrap (-(x:Int))) * 285870213051353865) / 288230376151711744 = (idx:Int))
    (hi:idx < 64) (hk:k < 64) (hcell:w.cell? ⟨0,idx,none⟩ = some (.int .u8 k)) :
    Calls Tryz.prog 89 #[.int .u64 x] w fun e w' => e = .returned (.int .i64 k) ∧ w' = w:=by
  go_enter Tryz.func89,Tryz.ntmps89
  go_wp2_with (simp only [key])
  go_ret
  exact ⟨rfl,rfl⟩
theorem tz_any (x:Nat) (hx:x < 2 ^ 60) (hx0:x ≠ 0) (w:World) (hT:TB w) :
    Calls Tryz.prog 89 #[.int .u64 x] w fun e w' => e = .returned (.int .i64 (Lib.ctz 64 x)) ∧ w = w':=by
  have hx2:x < 18446744073709551616:=by omega
  obtain ⟨hlow,hk⟩:=Lib.lowest_bit 64 x hx0 hx2
  obtain ⟨hi,htab⟩:=Lib.deBruijn64_at _ hk
  have hcell:=hT.1 _ hi
  rw [htab] at hcell
  exact (tz_core x _ _ w (by simp; omega) (tz_key x _ hx2 hx0 hlow) hi hk hcell).mono fun _ _ h => ⟨h.1,h.2.symm⟩


def bitsN (s:Nat):List Nat:=(List.range 64).filter fun i => s.testBit i
theorem filter_first {p q:Nat → Bool} {k n:Nat} (hk:k < n) (hp:p k = true) (h0:∀ i,i < k → p i = false) (hq:∀ i,q i = (p i && !(i == k))):(List.range n).filter p = k :: (List.range n).filter q:=by
  have e:List.range n = List.range k ++ k :: List.range' (k + 1) (n - k - 1):=by
    rw [List.range_eq_range',List.range_eq_range',show k :: List.range' (k + 1) (n - k - 1) = List.range' k (n - k - 1 + 1) from (List.range'_succ (s:=k) (n:=n - k - 1) (step:=1)).symm]
    have:=List.range'_append_1 (s:=0) (m:=k) (n:=n - k - 1 + 1)
    rw [Nat.zero_add] at this
    rw [this]
    congr 1
    omega
  rw [e,List.filter_append,List.filter_append,List.filter_cons_of_pos hp,List.filter_cons_of_neg (by rw [hq]; simp)]
  have a1:(List.range k).filter p = []:=by
    rw [List.filter_eq_nil_iff]; intro i hi; rw [h0 i (List.mem_range.1 hi)]; simp
  have a2:(List.range k).filter q = []:=by
    rw [List.filter_eq_nil_iff]; intro i hi; rw [hq,h0 i (List.mem_range.1 hi)]; simp
  rw [a1,a2,List.nil_append,List.nil_append]
  congr 1
  apply List.filter_congr
  intro i hi
  rw [hq]
  have:i ≠ k:=by
    rw [List.mem_range'_1] at hi; omega
  simp [this]
theorem low_bits (s:Nat) (h0:s ≠ 0) (h:s < 2 ^ 60):Lib.ctz 64 s < 60 ∧ s.testBit (Lib.ctz 64 s) = true ∧ (∀ i,i < Lib.ctz 64 s → s.testBit i = false) ∧ (∀ i,(s &&& (s - 1)).testBit i = (s.testBit i && !(i == Lib.ctz 64 s))) ∧ s &&& (s - 1) < s:=by
  obtain ⟨m,hm,hk⟩:=Lib.ctzFrom_spec 64 s (by omega) (Nat.lt_of_lt_of_le h (by decide))
  have e:Lib.ctz 64 s = Lib.ctzFrom 64 s:=by unfold Lib.ctz; rw [if_neg h0]
  rw [e]
  generalize Lib.ctzFrom 64 s = k at hm hk
  have hp:0 < 2 ^ k:=Nat.two_pow_pos k
  have hs1:s - 1 = 2 ^ k * (2 * m) + (2 ^ k - 1):=by
    rw [hm,Nat.mul_add]; omega
  have t1:∀ i,s.testBit i = (decide (k ≤ i) && (2 * m + 1).testBit (i - k)):=fun i => by rw [hm,Nat.testBit_two_pow_mul]
  have t2:∀ i,(s - 1).testBit i = if i < k then (2 ^ k - 1).testBit i else (2 * m).testBit (i - k):=fun i => by rw [hs1,Nat.testBit_two_pow_mul_add _ (by omega)]
  have odd0:(2 * m + 1).testBit 0 = true:=by simp
  refine ⟨?_,?_,?_,?_,?_⟩
  · rcases Nat.lt_or_ge k 60 with hlt | hge
    · exact hlt
    · exfalso
      have h1:2 ^ 60 ≤ 2 ^ k:=Nat.pow_le_pow_right (by omega) hge
      have h2:2 ^ k * 1 ≤ 2 ^ k * (2 * m + 1):=Nat.mul_le_mul_left _ (by omega)
      omega
  · rw [t1]; simp
  · intro i hi; rw [t1]; simp; omega
  · intro i
    rw [Nat.testBit_and,t1,t2]
    rcases Nat.lt_trichotomy i k with hi | hi | hi
    · simp [show ¬ k ≤ i by omega]
    · subst hi; simp
    · obtain ⟨j,hj⟩:∃ j,i - k = j + 1:=⟨i - k - 1,by omega⟩
      rw [if_neg (by omega),hj,Nat.testBit_succ,Nat.testBit_succ,show (2 * m + 1) / 2 = m by omega,show 2 * m / 2 = m by omega]
      simp [show k ≤ i by omega,show i ≠ k by omega]
  · have:=Nat.and_le_right (n:=s) (m:=s - 1)
    omega
theorem bitsN_step (s:Nat) (h0:s ≠ 0) (h:s < 2 ^ 60):bitsN s = Lib.ctz 64 s :: bitsN (s &&& (s - 1)):=by
  obtain ⟨h1,h2,h3,h4,_⟩:=low_bits s h0 h
  exact filter_first (by omega) h2 h3 h4
theorem bitsN_zero:bitsN 0 = []:=by decide
theorem bitsN_len (s:Nat):(bitsN s).length ≤ 64:=Nat.le_trans (List.length_filter_le _ _) (by simp)
def bitsI (s:Nat):List Int:=(bitsN s).map fun n:Nat => (n:Int)
theorem bitsI_len (s:Nat):(bitsI s).length ≤ 64:=by unfold bitsI; rw [List.length_map]; exact bitsN_len s
set_option maxRecDepth 100000 in
set_option maxHeartbeats 4000000 in
theorem listed_any (s:Nat) (hs:s < 2 ^ 60) (w:World) (hT:TB w) :
    Calls Tryz.prog 73 #[.int .u64 s] w fun e w' => ∃ v,e = .returned v ∧ Kd.R (Kd.int .i64) 3 w' w.heap.size (fun _ => True) v (bitsI s) ∧ Below w.heap.size w w':=by
  have HT:=am_ hT
  have hi5:(Tryz.prog.info? 3).map (fun i => (i.zero,i.size,i.bytes)) = some (some (.int .i64 0),1,8):=by kernel_rfl
  have R0:Aside0 (Kd.R (Kd.int .i64) 3 (w.alloc (.cells #[] 3)) w.heap.size (fun _ => True) (.slice (some ⟨w.heap.size,0,none⟩) 0 0) []):=⟨Kd.R_mono (R_lit0 (Kd.int .i64) 3 w w.heap.size (Nat.le_refl _)) (fun _ _ => trivial)⟩
  have B0:=am_ (below_alloc (Below.refl w.heap.size w) (.cells #[] 3))
  have S0:Aside0 (([]:List Int) ++ bitsI s = bitsI s ∧ s < 2 ^ 60):=⟨rfl,hs⟩
  clear hT hs
  go_enter Tryz.func73,Tryz.ntmps73
  go_wp2_with fail
  go_loopg [0,3] s (fun gg u0 u3 wr => ∃ (t:Nat) (acc:List Int),t ≤ gg ∧ u0 = .int .u64 t ∧ Aside0 (acc ++ bitsI t = bitsI s ∧ t < 2 ^ 60) ∧ Aside0 (Kd.R (Kd.int .i64) 3 wr w.heap.size (fun _ => True) u3 acc) ∧ Aside0 (Below w.heap.size w wr))
  case atStart => exact ⟨s,[],Nat.le_refl _,rfl,S0,R0,B0⟩
  case round =>
    clear S0 R0 B0
    obtain ⟨t,acc,hgg,rfl,HS,HO,HB⟩:=hrel
    by_cases ht:t = 0
    · subst ht
      have HF:Aside0 (acc = bitsI s):=⟨by have h:=HS.out.1; rw [show bitsI 0 = [] from by unfold bitsI; rw [bitsN_zero]; rfl,List.append_nil] at h; exact h⟩
      go_wp2_with fail
      go_ret
      exact ⟨_,rfl,by rw [← HF.out]; exact HO.out,HB.out⟩
    · have ht60:=HS.out.2
      have hlen:acc.length ≤ 64:=by
        have h:=congrArg List.length HS.out.1
        have:=bitsI_len s
        simp at h
        omega
      obtain ⟨-,-,-,-,hlt⟩:=low_bits t ht ht60
      have hstep:=bitsN_step t ht ht60
      have hgt:decide (0 < (t:Int)) = true:=by simp; omega
      have hsub:IntKind.u64.wrap ((t:Int) - 1) = ((t - 1:Nat):Int):=by rw [IntKind.wrap_u64]; omega
      have hand:bits BinOp.and IntKind.u64 (t:Int) ((t - 1:Nat):Int) = ((t &&& (t - 1):Nat):Int):=bits_and_u64_nat t (t - 1) (by omega) (by omega)
      have HS2:Aside0 ((acc ++ [(Lib.ctz 64 t:Int)]) ++ bitsI (t &&& (t - 1)) = bitsI s ∧ t &&& (t - 1) < 2 ^ 60):=⟨by rw [← HS.out.1]; unfold bitsI; rw [hstep]; simp,by omega⟩
      have HTZ:=am_ (fun W (h:TB W) => tz_any t ht60 ht W h)
      have HL:=am_ hlen
      have HT1:=am_ (HT.out.below HB.out)
      clear ht60 hlen hstep HS
      generalize Lib.ctz 64 t = z at HS2 HTZ
      go_wp2_with (first
        | (go_at_call 89; refine (HTZ.out _ HT1.out).mono ?_; rintro e w' ⟨rfl,rfl⟩)
        | (at_builtin; refine Kd.R_append_row (w0:=w) (h1:=fun _ => rfl) (Value.int .i64) (0:Int) w.heap.size rfl _ _ _ _ _ 8 rfl Tryz.underlying22 hi5 rfl (by decide) u3 acc [(z:Int)] _ 1 _ (fun _ => True) rfl rfl (fun _ _ => trivial) ?xA ?xB ?xC ?xD ?xE ?_; (case xA => exact Kd.R_alloc HO.out _); (case xB => exact lit1_C (Value.int .i64) _ _ wr _); (case xC => exact below_alloc HB.out _); (case xD => have h_:=HB.out.size; simp; omega); (case xE => have h_:=HL.out; omega); intro v1 w1 ho hb hg hat; have HO1:=am_ ho; have HB1:=am_ hb; clear ho hb hg hat))
      go_roundg (t &&& (t - 1))
      case measure => omega
      case rel => exact ⟨t &&& (t - 1),acc ++ [(z:Int)],Nat.le_refl _,rfl,HS2,HO1,HB1⟩
def impl_set_listed.f (a0:Int):Option (List Int):=if 0 ≤ a0 ∧ a0 < 1152921504606846976 then some (bitsI a0.toNat) else none
theorem impl_set_listed.calls (a0:Int) (r:List Int) (w:World) (hT_:TB w) (h:impl_set_listed.f a0 = some r) :
    Calls Tryz.prog 73 #[.int .u64 a0] w fun e w' => ∃ v0_:Value,e = .returned v0_ ∧ Kd.R (Kd.int .i64) 3 w' w.heap.size (fun _ => True) v0_ r ∧ Below w.heap.size w w':=by
  unfold impl_set_listed.f at h
  split at h
  · rename_i h0
    obtain rfl:=Option.some.inj h
    obtain ⟨n,rfl⟩:=Int.eq_ofNat_of_zero_le h0.1
    rw [Int.toNat_natCast]
    exact listed_any n (by have h2:(2:Nat) ^ 60 = 1152921504606846976:=by decide
                           have:=h0.2; omega) w hT_
  · cases h

end Go.Proofs.YtehjfaddhmdicaaGreatDoor.P
namespace Go.Proofs.YtehjfaddhmdicaaGreatDoor.P
open Go.RowKit Go.Proofs.YtehjfaddhmdicaaGreatDoorW.PrintWords Go.Proofs.YtehjfaddhmdicaaGreatDoorW.PrintLast Go.Proofs.YtehjfaddhmdicaaGreatDoorW.PrintMore
attribute [local go_sem] max2_int min2_int max_two min_two max_three min_three max_four min_four   -- for this text's walks alone
set_option linter.unusedVariables false
set_option linter.unusedSimpArgs false

def subsGo (F:List Int → Nat → List Nat):List Int → Nat → List Nat
 | [],_ => []
 | x :: l,own => F l (own ||| 2 ^ x.toNat) ++ subsGo F l own
def subsW:Nat → List Int → Nat → List Nat
 | 0,_,own => [own]
 | m + 1,l,own => subsGo (subsW m) l own
theorem subsW_short:∀ (m:Nat) (l:List Int) (own:Nat),l.length < m → subsW m l own = []
 | 0,_,_,h => by omega
 | m + 1,[],_,_ => rfl
 | m + 1,x :: l,own,h => by
  simp only [List.length_cons] at h
  show subsW m l _ ++ subsW (m + 1) l own = []
  rw [subsW_short m l _ (by omega),subsW_short (m + 1) l own (by omega)]
  rfl
theorem or_lt60 {a b:Nat} (ha:a < 2 ^ 60) (hb:b < 2 ^ 60):a ||| b < 2 ^ 60:=Nat.or_lt_two_pow ha hb
theorem bit_lt60 {x:Int} (h:0 ≤ x ∧ x < 60):2 ^ x.toNat < 2 ^ 60:=Nat.pow_lt_pow_right (by omega) (by omega)
theorem subsW_lt:∀ (m:Nat) (l:List Int) (own:Nat),own < 2 ^ 60 → (∀ x ∈ l,0 ≤ x ∧ x < 60) → ∀ z ∈ subsW m l own,z < 2 ^ 60
 | 0,_,_,ho,_,z,hz => by
  simp only [subsW,List.mem_singleton] at hz
  rw [hz]; exact ho
 | m + 1,[],_,_,_,z,hz => by cases hz
 | m + 1,x :: l,own,ho,hl,z,hz => by
  have hz':z ∈ subsW m l (own ||| 2 ^ x.toNat) ++ subsW (m + 1) l own:=hz
  rcases List.mem_append.1 hz' with h | h
  ·exact subsW_lt m l _ (or_lt60 ho (bit_lt60 (hl x List.mem_cons_self))) (fun y hy => hl y (List.mem_cons_of_mem _ hy)) z h
  ·exact subsW_lt (m + 1) l own ho (fun y hy => hl y (List.mem_cons_of_mem _ hy)) z h
theorem subsW_len:∀ (m:Nat) (l:List Int) (own:Nat),(subsW m l own).length ≤ l.length ^ m
 | 0,_,_ => by simp [subsW]
 | m + 1,[],_ => by simp [subsW,subsGo]
 | m + 1,x :: l,own => by
  have h1:=subsW_len m l (own ||| 2 ^ x.toNat)
  have h2:=subsW_len (m + 1) l own
  have h3:l.length ^ m ≤ (l.length + 1) ^ m:=Nat.pow_le_pow_left (by omega) m
  show (subsW m l (own ||| 2 ^ x.toNat) ++ subsW (m + 1) l own).length ≤ (l.length + 1) ^ (m + 1)
  rw [List.length_append,Nat.pow_succ (l.length + 1) m,Nat.mul_succ]
  rw [Nat.pow_succ] at h2
  have h4:l.length ^ m * l.length ≤ (l.length + 1) ^ m * l.length:=Nat.mul_le_mul_right _ h3
  omega
def EachPost (acc ws:List Nat) (O:Nat → Prop) (Inv:List Nat → (Nat → Prop) → World → Prop) (w:World) (e:Ending) (w':World):Prop :=
 e = .returned (.tuple #[]) ∧ ∃ O',Inv (acc ++ ws) O' w' ∧ FrameBut O w w' ∧ ∀ k,O' k → O k ∨ w.heap.size ≤ k
abbrev en64:Nat → Value:=fun n => .int .u64 (n:Int)
theorem FrameBut.cellA {O:Nat → Prop} {w w1:World} (h:FrameBut O w w1) {a:Addr} {v:Value} (hc:w.cell? a = some v) (hn:¬ O a.block):w1.cell? a = some v :=
 (World.cell?_of_block (w:=w) (a:=a) (h.block a.block (wl_ w _ hc) hn)).trans hc
structure SubsIn (w:World) (B5 B6 B7 ge:Nat) (lbe:Array Value) (A:Option Addr) (c:Nat) (l:List Int) (Kp:Nat → Prop):Prop where
 c5:w.cell? ⟨B5,0,none⟩ = some (.func (.func ge) #[] lbe)
 c6:w.cell? ⟨B6,0,none⟩ = some (.slice A l.length c)
 c7:w.cell? ⟨B7,0,none⟩ = some (.func (.func 107) #[] #[.pointer (some ⟨B5,0,none⟩),.pointer (some ⟨B6,0,none⟩),.pointer (some ⟨B7,0,none⟩)])
 k5:Kp B5
 k6:Kp B6
 k7:Kp B7
 row:Kd.R (Kd.int .i64) 3 w 0 Kp (.slice A l.length c) l
theorem SubsIn.move {w w':World} {B5 B6 B7 ge:Nat} {lbe:Array Value} {A:Option Addr} {c:Nat} {l:List Int} {Kp:Nat → Prop} (h:SubsIn w B5 B6 B7 ge lbe A c l Kp) (hm:∀ k,Kp k → w'.heap[k]? = w.heap[k]?):SubsIn w' B5 B6 B7 ge lbe A c l Kp :=
 ⟨(World.cell?_of_block (w:=w) (a:=⟨B5,0,none⟩) (hm _ h.k5)).trans h.c5,(World.cell?_of_block (w:=w) (a:=⟨B6,0,none⟩) (hm _ h.k6)).trans h.c6,(World.cell?_of_block (w:=w) (a:=⟨B7,0,none⟩) (hm _ h.k7)).trans h.c7,h.k5,h.k6,h.k7,Kd.R_move h.row hm⟩
set_option maxRecDepth 100000 in
set_option maxHeartbeats 4000000 in
theorem choose_zero (ge:Nat) (lbe:Array Value) (max:Nat) (Inv:List Nat → (Nat → Prop) → World → Prop) (C:CB Tryz.prog ge lbe en64 (fun n => n < 2 ^ 60) max Inv) (eg:∀ args w,(callFunc ge args).run Tryz.prog w = .ok (.enter ge args) w)
  (B5 B6 B7:Nat) (A:Option Addr) (c:Nat) (l:List Int) (Kp:Nat → Prop) (f:Int) (own:Nat) (acc:List Nat) (O:Nat → Prop) (w:World)
  (hin:SubsIn w B5 B6 B7 ge lbe A c l Kp) (hI:Inv acc O w) (ho:own < 2 ^ 60) (hmax:acc.length < max) :
  Calls Tryz.prog 107 #[.int .u64 (own:Int),.int .i64 f,.int .i64 0,.pointer (some ⟨B5,0,none⟩),.pointer (some ⟨B6,0,none⟩),.pointer (some ⟨B7,0,none⟩)] w (EachPost acc [own] O Inv w):=by
 obtain ⟨c5,c6,c7,k5,k6,k7,row⟩:=hin
 have HC:=am_ (C.call acc O w own hmax ho hI)
 clear hI hmax ho row
 go_enter Tryz.func107,Tryz.ntmps107
 go_wp2_with ((go_at_fn ge; refine HC.out.mono ?_; rintro e w' ⟨rfl,O',hI',hF,hO'⟩))
 exact bodyPost_ret (v:=.tuple #[]) (by simp [results,Tryz.results107,go_sem]) rfl ⟨rfl,O',hI',hF,hO'⟩
def SubMid (acc:List Nat) (m:Nat) (l:List Int) (own f:Nat) (O:Nat → Prop) (Inv:List Nat → (Nat → Prop) → World → Prop) (W0:World) (i:Nat) (wr:World):Prop :=
 ∃ D O',subsW (m + 1) (l.drop f) own = D ++ subsW (m + 1) (l.drop i) own ∧ Inv (acc ++ D) O' wr ∧ FrameBut O W0 wr ∧ ∀ k,O' k → O k ∨ W0.heap.size ≤ k
set_option maxRecDepth 100000 in
set_option maxHeartbeats 8000000 in
theorem choose_succ (ge:Nat) (lbe:Array Value) (max:Nat) (Inv:List Nat → (Nat → Prop) → World → Prop) (C:CB Tryz.prog ge lbe en64 (fun n => n < 2 ^ 60) max Inv)
  (B5 B6 B7:Nat) (A:Option Addr) (c:Nat) (l:List Int) (Kp:Nat → Prop) (m:Nat) (hl64:l.length ≤ 64) (hl:∀ x ∈ l,0 ≤ x ∧ x < 60)
  (ih:∀ (f own:Nat) (acc:List Nat) (O:Nat → Prop) (w:World),f ≤ l.length → own < 2 ^ 60 → SubsIn w B5 B6 B7 ge lbe A c l Kp → (∀ k,O k → ¬ Kp k) → (∀ k,Kp k → k < w.heap.size) → Inv acc O w → acc.length + (subsW m (l.drop f) own).length ≤ max →
   Calls Tryz.prog 107 #[.int .u64 (own:Int),.int .i64 (f:Int),.int .i64 (m:Int),.pointer (some ⟨B5,0,none⟩),.pointer (some ⟨B6,0,none⟩),.pointer (some ⟨B7,0,none⟩)] w (EachPost acc (subsW m (l.drop f) own) O Inv w))
  (f own:Nat) (acc:List Nat) (O:Nat → Prop) (w:World) (hf:f ≤ l.length) (ho:own < 2 ^ 60) (hm:m < 64)
  (hin:SubsIn w B5 B6 B7 ge lbe A c l Kp) (hO:∀ k,O k → ¬ Kp k) (hKp:∀ k,Kp k → k < w.heap.size) (hI:Inv acc O w) (hmax:acc.length + (subsW (m + 1) (l.drop f) own).length ≤ max) :
  Calls Tryz.prog 107 #[.int .u64 (own:Int),.int .i64 (f:Int),.int .i64 ((m:Int) + 1),.pointer (some ⟨B5,0,none⟩),.pointer (some ⟨B6,0,none⟩),.pointer (some ⟨B7,0,none⟩)] w (EachPost acc (subsW (m + 1) (l.drop f) own) O Inv w):=by
 have HIN:=am_ hin
 have HO:=am_ hO
 have HKP:=am_ hKp
 have HL:=am_ hl
 have IH:=am_ ih
 have HMX:=am_ hmax
 have H0:Aside0 (SubMid acc m l own f O Inv w f w):=⟨[],O,rfl,by rw [List.append_nil]; exact hI,FrameBut.refl _ _,fun k hk => .inl hk⟩
 have hl1:(((m:Int) + 1) == 0) = false:=by rw [beq_eq_false_iff_ne]; omega
 clear hin hO hKp hl ih hmax hI
 go_enter Tryz.func107,Tryz.ntmps107
 go_wp2_with fail
 go_loopg [9] (l.length + 1 - f) (fun gg u9 wr => ∃ i:Nat,f ≤ i ∧ i ≤ l.length ∧ l.length + 1 - i ≤ gg ∧ u9 = .int .i64 i ∧ Aside0 (SubMid acc m l own f O Inv w i wr))
 case atStart => exact ⟨f,Nat.le_refl _,hf,Nat.le_refl _,rfl,H0⟩
 case round =>
  clear H0
  obtain ⟨i,hfi,hil,hgg,rfl,HMid⟩:=hrel
  obtain ⟨D,O',hD,hI,hF,hO'⟩:=HMid.out
  have nO:∀ k,Kp k → ¬ O' k:=fun k hk h => (hO' k h).elim (fun h => HO.out k h hk) (fun h => absurd (HKP.out k hk) (by omega))
  have hsame:∀ k,Kp k → wr.heap[k]? = w.heap[k]?:=fun k hk => hF.block k (HKP.out k hk) (fun h => HO.out k h hk)
  have HIN2:=am_ (HIN.out.move hsame)
  have z6:=HIN2.out.c6
  have z7:=HIN2.out.c7
  by_cases hlt:i + (m + 1) ≤ l.length
  ·have hlz:(i:Int) + ((m:Int) + 1) ≤ (l.length:Int):=by omega
   have hi:i < l.length:=by omega
   obtain ⟨x,hx⟩:∃ x,l[i]? = some x:=⟨l[i],List.getElem?_eq_getElem hi⟩
   have hxb:=HL.out x (List.mem_of_getElem? hx)
   have hdrop:l.drop i = x :: l.drop (i + 1):=by
    rw [List.drop_eq_getElem_cons hi]
    rw [List.getElem?_eq_getElem hi] at hx
    injection hx with hx
    rw [hx]
   obtain ⟨nx,rfl⟩:∃ n:Nat,x = (n:Int):=⟨x.toNat,by omega⟩
   obtain ⟨ad,eA,hcell⟩:=Kd.at_int (Kd.R_reads' HIN2.out.row).2.2 (i:Int) (by omega) (by omega)
   have hrd:rd l (i:Int) = (nx:Int):=by
    unfold rd
    rw [Int.toNat_natCast,List.getD_eq_getElem?_getD,hx]; rfl
   rw [hrd,Int.toNat_natCast] at hcell
   have hnx:nx < 60:=by omega
   have hsh:IntKind.u64.wrap ((2:Int) ^ nx) = (2:Int) ^ nx:=by
    have h:=u64_small ((2 ^ nx:Nat):Int) (Int.natCast_nonneg _) (by exact_mod_cast pow_lt60 hnx)
    rwa [Int.natCast_pow] at h
   have hor:bits .or .u64 (own:Int) ((2:Int) ^ nx) = ((own ||| 2 ^ nx:Nat):Int):=by
    have h:=or_u64 own (2 ^ nx) ho (pow_lt60 hnx)
    rwa [Int.natCast_pow] at h
   have hg:subsW (m + 1) (l.drop i) own = subsW m (l.drop (i + 1)) (own ||| 2 ^ nx) ++ subsW (m + 1) (l.drop (i + 1)) own:=by rw [hdrop]; rfl
   have hD2:subsW (m + 1) (l.drop f) own = (D ++ subsW m (l.drop (i + 1)) (own ||| 2 ^ nx)) ++ subsW (m + 1) (l.drop (i + 1)) own:=by rw [hD,hg,List.append_assoc]
   have HCall:Aside0 (∀ W,Below wr.heap.size wr W → Calls Tryz.prog 107 #[.int .u64 ((own ||| 2 ^ nx:Nat):Int),.int .i64 ((i:Int) + 1),.int .i64 (m:Int),.pointer (some ⟨B5,0,none⟩),.pointer (some ⟨B6,0,none⟩),.pointer (some ⟨B7,0,none⟩)] W (EachPost (acc ++ D) (subsW m (l.drop (i + 1)) (own ||| 2 ^ nx)) O' Inv W)):=⟨fun W hW => by
    have h:=IH.out (i + 1) (own ||| 2 ^ nx) (acc ++ D) O' W (by omega) (or_lt60 ho (pow_lt60 hnx)) (HIN2.out.move (fun k hk => hW.block k (Nat.lt_of_lt_of_le (HKP.out k hk) hF.size))) (fun k hk h => nO k h hk) (fun k hk => Nat.lt_of_lt_of_le (HKP.out k hk) (Nat.le_trans hF.size hW.size)) (C.below hI hW) (by
     have:=HMX.out
     rw [hD2] at this
     simp only [List.length_append] at this ⊢
     omega)
    rw [show ((i + 1:Nat):Int) = (i:Int) + 1 by omega] at h
    exact h⟩
   have HD2:=am_ hD2
   have HF:=am_ hF
   have HO':=am_ hO'
   have n7:=nO _ HIN2.out.k7
   have n6:=nO _ HIN2.out.k6
   have nA:¬ O' ad.block:=nO _ (HIN2.out.row.1 _ (by rw [eA]; rfl))
   clear hD2 hF hO' hD hI nO hsame hg hx hrd hdrop hxb
   subst eA
   have nA':¬ O' (ad.add i).block:=by rw [add_block]; exact nA
   generalize hE:own ||| 2 ^ nx = E at hor HCall HD2
   have HE:=am_ hE
   clear hE
   have e1:IntKind.i64.wrap ((i:Int) + 1) = (i:Int) + 1:=IntWalk.i64_in _ (by omega)
   have e2:IntKind.i64.wrap (m:Int) = (m:Int):=IntWalk.i64_in _ (by omega)
   go_wp2_with fail
   go_region_held3 (fun w' => w'.cell? ⟨B7,0,none⟩ = some (.func (.func 107) #[] #[.pointer (some ⟨B5,0,none⟩),.pointer (some ⟨B6,0,none⟩),.pointer (some ⟨B7,0,none⟩)]) ∧ w'.cell? ⟨B6,0,none⟩ = some (.slice (some ad) l.length c) ∧ w'.cell? (ad.add i) = some (.int .i64 (nx:Int)))
    (first | exact ⟨z7,z6,hcell⟩ | exact ⟨G9.cellA z7 n7,G9.cellA z6 n6,G9.cellA hcell nA'⟩)
    ((go_at_call 107; refine (HCall.out _ (below_drew (Below.refl _ _))).mono ?_; rintro e w9 ⟨rfl,O9,hI9,HF9,hO9⟩; have G9:=((FrameBut.refl O' wr).drew).trans HF9 (fun k h => .inl h)))
   all_goals
    have I9:=am_ hI9
    have HG9:=am_ G9
    have HO9:=am_ hO9
    go_split_ands
    clear hI9 HF9 hO9 G9
    go_wp2
    go_roundg (l.length + 1 - (i + 1))
    case measure => omega
    case rel => exact ⟨i + 1,by omega,by omega,Nat.le_refl _,by go_num,⟨_,O9,HD2.out,by rw [← List.append_assoc]; exact I9.out,HF.out.trans HG9.out (fun k h => HO'.out k h),fun k hk => (HO9.out k hk).elim (fun h => HO'.out k h) (fun h => .inr (by have:=HF.out.size; simp at h; omega))⟩⟩
  ·have hnil:subsW (m + 1) (l.drop i) own = []:=subsW_short _ _ _ (by rw [List.length_drop]; omega)
   have HR:Aside0 (EachPost acc (subsW (m + 1) (l.drop f) own) O Inv w (.returned (.tuple #[])) wr):=⟨rfl,O',by rw [hD,hnil,List.append_nil]; exact hI,hF,hO'⟩
   have hlz:¬ (i:Int) + ((m:Int) + 1) ≤ (l.length:Int):=by omega
   clear hD hI hF hO' nO hsame hnil HMid
   go_wp2_with fail
   exact bodyPost_end (v:=.tuple #[]) (by simp [results,Tryz.results107,go_sem]) rfl HR.out
theorem choose_any (ge:Nat) (lbe:Array Value) (max:Nat) (Inv:List Nat → (Nat → Prop) → World → Prop) (C:CB Tryz.prog ge lbe en64 (fun n => n < 2 ^ 60) max Inv) (eg:∀ args w,(callFunc ge args).run Tryz.prog w = .ok (.enter ge args) w)
  (B5 B6 B7:Nat) (A:Option Addr) (c:Nat) (l:List Int) (Kp:Nat → Prop) (hl64:l.length ≤ 64) (hl:∀ x ∈ l,0 ≤ x ∧ x < 60) :
  ∀ (m:Nat),m ≤ 64 → ∀ (f own:Nat) (acc:List Nat) (O:Nat → Prop) (w:World),f ≤ l.length → own < 2 ^ 60 → SubsIn w B5 B6 B7 ge lbe A c l Kp → (∀ k,O k → ¬ Kp k) → (∀ k,Kp k → k < w.heap.size) → Inv acc O w → acc.length + (subsW m (l.drop f) own).length ≤ max →
   Calls Tryz.prog 107 #[.int .u64 (own:Int),.int .i64 (f:Int),.int .i64 (m:Int),.pointer (some ⟨B5,0,none⟩),.pointer (some ⟨B6,0,none⟩),.pointer (some ⟨B7,0,none⟩)] w (EachPost acc (subsW m (l.drop f) own) O Inv w)
 | 0,_,f,own,acc,O,w,_,ho,hin,_,_,hI,hmax => choose_zero ge lbe max Inv C eg B5 B6 B7 A c l Kp f own acc O w hin hI ho (by simp [subsW] at hmax; omega)
 | m + 1,hm,f,own,acc,O,w,hf,ho,hin,hO,hKp,hI,hmax => by
  have ih:=choose_any ge lbe max Inv C eg B5 B6 B7 A c l Kp hl64 hl m (by omega)
  exact choose_succ ge lbe max Inv C B5 B6 B7 A c l Kp m hl64 hl ih f own acc O w hf ho (by omega) hin hO hKp hI hmax
theorem store_fnS {P:Program} {w:World} {a:Addr} {m:Mode} (fn:Fn) (first cap:Array Value):(store a (.func fn first cap) m).run P w = stored P w a (.func fn first cap) m:=run_store P w a _ m rfl
attribute [local go_sem] store_fnS
theorem bitsI_lt (s:Nat) (hs:s < 2 ^ 60):∀ x ∈ bitsI s,0 ≤ x ∧ x < 60:=by
 intro x hx
 obtain ⟨n,hn,rfl⟩:=List.mem_map.1 hx
 have h1:s.testBit n = true:=(List.mem_filter.1 hn).2
 have h2:n < 60:=by
  rcases Nat.lt_or_ge n 60 with h | h
  ·exact h
  ·rw [Nat.testBit_lt_two_pow (Nat.lt_of_lt_of_le hs (Nat.pow_le_pow_right (by omega) h))] at h1; cases h1
 omega
set_option maxRecDepth 100000 in
set_option maxHeartbeats 4000000 in
theorem subsets_any (ge:Nat) (lbe:Array Value) (max:Nat) (Inv:List Nat → (Nat → Prop) → World → Prop) (C:CB Tryz.prog ge lbe en64 (fun n => n < 2 ^ 60) max Inv) (eg:∀ args w,(callFunc ge args).run Tryz.prog w = .ok (.enter ge args) w)
  (s m:Nat) (hs:s < 2 ^ 60) (hm:m ≤ 64) (acc:List Nat) (O:Nat → Prop) (w:World) (hT:TB w) (hI:Inv acc O w) (hmax:acc.length + (subsW m (bitsI s) 0).length ≤ max) :
  Calls Tryz.prog 80 #[.int .u64 (s:Int),.int .i64 (m:Int),.func (.func ge) #[] lbe] w (EachPost acc (subsW m (bitsI s) 0) O Inv w):=by
 have hmf:∀ (fn:Fn) (first cap:Array Value) (w:World),(Instr.makeFunc fn first cap).run Tryz.prog w = .ok (.func fn first cap) w:=fun _ _ _ _ => rfl
 have HC:Aside0 (∀ (W:World) (B5 B6 B7:Nat) (A:Option Addr) (c:Nat),Below w.heap.size w W → SubsIn W B5 B6 B7 ge lbe A c (bitsI s) (fun k => w.heap.size ≤ k ∧ k < W.heap.size) → Calls Tryz.prog 107 #[.int .u64 0,.int .i64 0,.int .i64 (m:Int),.pointer (some ⟨B5,0,none⟩),.pointer (some ⟨B6,0,none⟩),.pointer (some ⟨B7,0,none⟩)] W (EachPost acc (subsW m (bitsI s) 0) O Inv w)):=⟨fun W B5 B6 B7 A c hB hin => by
  have h:=choose_any ge lbe max Inv C eg B5 B6 B7 A c (bitsI s) (fun k => w.heap.size ≤ k ∧ k < W.heap.size) (bitsI_len s) (fun x hx => bitsI_lt s hs x hx) m hm 0 0 acc O W (Nat.zero_le _) (by decide) hin (fun k hk h => by have:=C.lt acc O w hI k hk; omega) (fun k hk => hk.2) (C.below hI hB) hmax
  refine Calls.mono h ?_
  rintro e w' ⟨rfl,O',h1,h2,h3⟩
  exact ⟨rfl,O',h1,(FrameBut.of_below (O:=O) hB).trans h2 (fun k hk => .inl hk),fun k hk => (h3 k hk).imp id (fun h => Nat.le_trans hB.size h)⟩⟩
 have HT:=am_ hT
 have HS:=am_ hs
 clear hI hT hmax hs eg
 go_enter Tryz.func80,Tryz.ntmps80
 go_wp2_with fail
 go_at_call 73
 refine (listed_any s HS.out _ ?xT).mono ?_
 ·exact HT.out.below (below_alloc (Below.refl _ _) _)
 rintro e w1 ⟨v,rfl,hr,hb⟩
 obtain ⟨A,c,rfl⟩:=Kd.R_slice hr
 have k5:w1.cell? ⟨w.heap.size,0,none⟩ = some (.func (.func ge) #[] lbe):=pw_cell_below hb (World.cell?_alloc_at _ _ _ _ rfl)
 have hz:w.heap.size + 1 ≤ w1.heap.size:=by have h_:=hb.size; simp at h_; exact h_
 have HR:=am_ hr
 have HB:=am_ (below_step (below_alloc (Below.refl w.heap.size w) _) hb)
 clear hr hb
 go_wp2_with fail
 go_at_call 107
 refine (HC.out _ w.heap.size w1.heap.size (w1.heap.size + 1) A c ?xb ?xin).mono ?_
 ·exact below_alloc (below_alloc HB.out _) _
 ·refine ⟨?_,?_,?_,⟨by omega,by simp; omega⟩,⟨by omega,by simp; omega⟩,⟨by omega,by simp⟩,?_⟩
  ·exact pw_cell_below (below_alloc (below_alloc (Below.refl _ _) _) _) k5
  ·exact pw_cell_below (below_alloc (Below.refl _ _) _) (World.cell?_alloc_at _ _ _ _ rfl)
  ·exact World.cell?_alloc_at _ _ _ _ (by simp)
  ·exact Kd.R_lower (Kd.R_mono (Kd.R_bound (Kd.R_alloc (Kd.R_alloc HR.out _) _)) (fun k hk => ⟨by have h_:=hk.2.1; simp at h_; omega,hk.2.2.1⟩)) (Nat.zero_le _)
 rintro e w9 ⟨rfl,h9⟩
 have H9:Aside0 (EachPost acc (subsW m (bitsI s) 0) O Inv w (.returned (.tuple #[])) w9):=⟨rfl,h9⟩
 clear h9
 go_wp2
 exact bodyPost_end (v:=.tuple #[]) (by simp [results,Tryz.results80,go_sem]) rfl H9.out

end Go.Proofs.YtehjfaddhmdicaaGreatDoor.P
namespace Go.Proofs.YtehjfaddhmdicaaGreatDoor.P
open Go.RowKit Go.Proofs.YtehjfaddhmdicaaGreatDoorW.PrintWords Go.Proofs.YtehjfaddhmdicaaGreatDoorW.PrintLast Go.Proofs.YtehjfaddhmdicaaGreatDoorW.PrintMore
attribute [local go_sem] max2_int min2_int max_two min_two max_three min_three max_four min_four   -- for this text's walks alone
set_option linter.unusedVariables false
set_option linter.unusedSimpArgs false

def impl_grid_all.f (a0_0:Int) (a0_1:Int):Option (Int):=(impl_grid_levels.f a0_0 a0_1).bind fun t259 => ((impl_grid_uprights.f a0_0 a0_1).bind fun t260 => (if 0 ≤ (wrap64 (t259 + t260)) then (some (IntKind.u64.wrap ((shl .u64 1 (wrap64 (t259 + t260))) - 1))) else (none)))
def impl_grid_all.T1:Bool × List (List Nat × List Nat):=(true,[([],[]),([0],[0]),([],[]),([2,1],[2]),([1,3],[1,3]),([4],[4]),([5],[5]),([6,3,0,1,2,3,4,5,6],[6])])
def impl_grid_all.B1:List Nat:=[0,1,0,7,15,31,63,127]
theorem impl_grid_all.tab1:rtab .any (opsOf Tryz.f82 1) = impl_grid_all.T1:=by kernel_rfl
theorem impl_grid_all.bits1:waitsOk impl_grid_all.T1.2 impl_grid_all.B1 = true:=by kernel_rfl
set_option maxHeartbeats 8000000 in
set_option maxRecDepth 100000 in
theorem impl_grid_all.calls (a0_0:Int) (a0_1:Int) (r:Int) (w:World) (h:impl_grid_all.f a0_0 a0_1 = some r) :
  Calls Tryz.prog 82 #[.agg #[.int .i64 a0_0,.int .i64 a0_1]] w fun e w' => e = .returned (.int .u64 r) ∧ Below w.heap.size w w':=by
 have hu56:=Tryz.underlying56
 have HB:=am_ (Below.refl w.heap.size w)
 have H:((impl_grid_levels.f a0_0 a0_1).bind fun t259 => ((impl_grid_uprights.f a0_0 a0_1).bind fun t260 => (if 0 ≤ (wrap64 (t259 + t260)) then (some (IntKind.u64.wrap ((shl .u64 1 (wrap64 (t259 + t260))) - 1))) else (none)))) = some r:=h
 clear h
 replace H:=bi_ H
 obtain ⟨t259,A20,H⟩:=H
 replace H:((impl_grid_uprights.f a0_0 a0_1).bind fun t260 => (if 0 ≤ (wrap64 (t259 + t260)) then (some (IntKind.u64.wrap ((shl .u64 1 (wrap64 (t259 + t260))) - 1))) else (none))) = some r:=H
 have A2:=am_ A20
 clear A20
 replace H:=bi_ H
 obtain ⟨t260,A30,H⟩:=H
 replace H:(if 0 ≤ (wrap64 (t259 + t260)) then (some (IntKind.u64.wrap ((shl .u64 1 (wrap64 (t259 + t260))) - 1))) else (none)) = some r:=H
 have A3:=am_ A30
 clear A30
 obtain ⟨ji4,hji4⟩:∃ j_:Int,(wrap64 (t259 + t260)) = j_:=⟨_,rfl⟩
 replace H:(if 0 ≤ (ji4) then (some (IntKind.u64.wrap ((shl .u64 1 (ji4)) - 1))) else (none)) = some r:=by first | (rw [hji4] at H; exact H) | (simp only [hji4] at H ⊢; exact H)
 (try rw [hji4] at A2)
 (try rw [hji4] at A3)
 have hji4w:(IntKind.i64.wrap (t259 + t260)) = ji4:=(i64_w _).trans hji4
 by_cases c5:0 ≤ (ji4)
 ·rw [if_pos c5] at H
  have c5b0:=eq_true c5
  have c5b1:decide (0 ≤ (ji4)) = true:=decide_eq_true c5
  clear c5
  obtain ⟨ji6,hji6⟩:∃ j_:Int,(shl .u64 1 (ji4)) = j_:=⟨_,rfl⟩
  replace H:(some (IntKind.u64.wrap ((ji6) - 1))) = some r:=by first | (rw [hji6] at H; exact H) | (simp only [hji6] at H ⊢; exact H)
  (try rw [hji6] at A2)
  (try rw [hji6] at A3)
  have hji6_:(IntKind.u64.wrap (1 * 2 ^ min (ji4).toNat 64)) = ji6:=hji6
  have hji6z:(ji4) ≤ 64 → (IntKind.u64.wrap (1 * 2 ^ (ji4).toNat)) = ji6:=shl_small hji6
  have hji6u:(IntKind.u64.wrap (2 ^ min (ji4).toNat 64)) = ji6:=by have h_:=hji6_; rw [Int.one_mul] at h_; exact h_
  have hji6v:(ji4) ≤ 64 → (IntKind.u64.wrap (2 ^ (ji4).toNat)) = ji6:=fun hle_ => by have h_:=hji6z hle_; rw [Int.one_mul] at h_; exact h_
  obtain rfl:=Option.some.inj H
  go_enter Tryz.func82,Tryz.ntmps82
  try go_wp2_with (first | ((with_reducible refine gate_dst (N:=1) rfl ?_); refine boxE_ (N:=1) (cs:=#[.int .i64 a0_0,.int .i64 a0_1]) (t:=56) ?_; intro gb258 hg w7 hbox hb; have n0_:=am_ (below_step (bl0_ HB.out) hb); have n1_:=am_ (hbox); have n2_:=am_ ((bs0_ hg HB.out:w.heap.size ≤ gb258)); have n3_:=am_ ((bs0_ hg HB.out:w.heap.size ≤ gb258)); clear HB; have HB:=n0_; have BK258:=n1_; have GW258:=n2_; have GE258:=n3_; clear n0_ n1_ n2_ n3_; clear hb hbox hg))
  have n0_:=am_ (blk_drew BK258.out)
  have n1_:=am_ (below_drew1 HB.out)
  clear BK258
  clear HB
  have BK258:=n0_
  have HB:=n1_
  clear n0_ n1_
  refine start_ (n:=8) (S:=fun w' => w'.cell? ⟨gb258,0,none⟩ = some (.int .i64 a0_0) ∧ w'.cell? ⟨gb258,1,none⟩ = some (.int .i64 a0_1)) (ds:=[]) #[false,false,false,false,false,false,false,false] (by kernel_rfl) rfl rfl ⟨(bc_ BK258.out 0).trans rfl,(bc_ BK258.out 1).trans rfl⟩ (fun hHeld => ?_); refine with_tabW impl_grid_all.tab1 impl_grid_all.bits1 (fun HT_ HW_ => ?_)
  generalize w7.drew = w8 at BK258 HB hHeld ⊢
  refine take_ (i:=0) (N:=some 3) (v:=?_) (a':=?_) #[true,false,false,false,false,false,false,false] rfl rfl (take_ofW HT_.out HW_.out (by kernel_rfl)) (fun _ _ _ h => h) (Or.inl ⟨by rfl,?_⟩) hHeld ?_ ?_
  rotate_left
  ·rintro w' ⟨s0,s1⟩
   go_simp
   with_reducible rfl
  rotate_left
  ·simp only [Act.put,List.setIfInBounds_toArray,List.set_cons_zero,List.set_cons_succ,i64_w,i32_w]
   rfl
  refine take_ (i:=2) (N:=some 5) (v:=?_) (a':=?_) #[true,false,true,false,false,false,false,false] rfl rfl (take_ofW HT_.out HW_.out (by kernel_rfl)) (fun _ _ _ h => h) (Or.inl ⟨by rfl,?_⟩) hHeld ?_ ?_
  rotate_left
  ·rintro w' ⟨s0,s1⟩
   go_simp
   with_reducible rfl
  rotate_left
  ·simp only [Act.put,List.setIfInBounds_toArray,List.set_cons_zero,List.set_cons_succ,i64_w,i32_w]
   rfl
  refine one_ (i:=1) (N:=some 4) #[true,true,true,false,false,false,false,false] rfl rfl (one_of HT_.out (by kernel_rfl)) (by decide) (fun K hK => ?_)
  refine goes_ Tryz.func72 (by kernel_rfl) rfl #[.agg #[.int .i64 a0_0,.int .i64 a0_1]] (by rfl) rfl rfl ob_ ?_
  with_reducible refine (impl_grid_levels.calls a0_0 a0_1 t259 _ A2.out).mono ?_
  rintro e w9 ⟨rfl,hb⟩
  refine ⟨_,rfl,?_⟩
  have n0_:=am_ (bb_ BK258.out hb)
  have n1_:=am_ (below_step (bl1_ HB.out GE258.out) hb)
  clear BK258
  clear HB
  have BK258:=n0_
  have HB:=n1_
  clear n0_ n1_
  (try clear hb)
  (try clear hb2)
  (try clear hk)
  (try clear hi)
  refine hK.out _ _ ⟨(bc_ BK258.out 0).trans rfl,(bc_ BK258.out 1).trans rfl⟩ (fun hHeld => ?_)
  clear hK K
  refine norm_ (a':=?_) ?_ ?_
  rotate_left
  ·show Act.put _ (some 4) _ = _
   simp only [Act.put,List.setIfInBounds_toArray,List.set_cons_zero,List.set_cons_succ,i64_w,i32_w]
   rfl
  refine one_ (i:=3) (N:=some 6) #[true,true,true,true,false,false,false,false] rfl rfl (one_of HT_.out (by kernel_rfl)) (by decide) (fun K hK => ?_)
  refine goes_ Tryz.func108 (by kernel_rfl) rfl #[.agg #[.int .i64 a0_0,.int .i64 a0_1]] (by rfl) rfl rfl ob_ ?_
  with_reducible refine (impl_grid_uprights.calls a0_0 a0_1 t260 _ A3.out).mono ?_
  rintro e w10 ⟨rfl,hb⟩
  refine ⟨_,rfl,?_⟩
  have n0_:=am_ (bb_ BK258.out hb)
  have n1_:=am_ (below_step (bl1_ HB.out GE258.out) hb)
  clear BK258
  clear HB
  have BK258:=n0_
  have HB:=n1_
  clear n0_ n1_
  (try clear hb)
  (try clear hb2)
  (try clear hk)
  (try clear hi)
  refine hK.out _ _ ⟨(bc_ BK258.out 0).trans rfl,(bc_ BK258.out 1).trans rfl⟩ (fun hHeld => ?_)
  clear hK K
  refine norm_ (a':=?_) ?_ ?_
  rotate_left
  ·show Act.put _ (some 6) _ = _
   simp only [Act.put,List.setIfInBounds_toArray,List.set_cons_zero,List.set_cons_succ,i64_w,i32_w]
   rfl
  refine pure_ (i:=4) (N:=some 7) (v:=?_) (a':=?_) #[true,true,true,true,true,false,false,false] rfl rfl (any_of HT_.out (by kernel_rfl)) (fun _ _ _ h => h) (Or.inl ⟨by rfl,?_⟩) ?_ ?_
  rotate_left
  ·intro w'
   go_simp
   with_reducible rfl
  rotate_left
  ·simp only [Act.put,List.setIfInBounds_toArray,List.set_cons_zero,List.set_cons_succ,i64_w,i32_w]
   rfl
  refine pure_ (i:=5) (N:=some 8) (v:=?_) (a':=?_) #[true,true,true,true,true,true,false,false] rfl rfl (any_of HT_.out (by kernel_rfl)) (fun _ _ _ h => h) (Or.inl ⟨by rfl,?_⟩) ?_ ?_
  rotate_left
  ·intro w'
   go_simp
   with_reducible rfl
  rotate_left
  ·simp only [Act.put,List.setIfInBounds_toArray,List.set_cons_zero,List.set_cons_succ,i64_w,i32_w]
   rfl
  refine pure_ (i:=6) (N:=some 9) (v:=?_) (a':=?_) #[true,true,true,true,true,true,true,false] rfl rfl (any_of HT_.out (by kernel_rfl)) (fun _ _ _ h => h) (Or.inl ⟨by rfl,?_⟩) ?_ ?_
  rotate_left
  ·intro w'
   go_simp
   with_reducible rfl
  rotate_left
  ·simp only [Act.put,List.setIfInBounds_toArray,List.set_cons_zero,List.set_cons_succ,i64_w,i32_w]
   rfl
  refine pure_ (i:=7) (N:=some 2) (v:=?_) (a':=?_) #[true,true,true,true,true,true,true,true] rfl rfl (any_of HT_.out (by kernel_rfl)) (fun _ _ _ h => h) (Or.inl ⟨by rfl,?_⟩) ?_ ?_
  rotate_left
  ·intro w'
   go_simp
   with_reducible rfl
  rotate_left
  ·simp only [Act.put,List.setIfInBounds_toArray,List.set_cons_zero,List.set_cons_succ,i64_w,i32_w]
   rfl
  refine done_ (done_of HT_.out (by kernel_rfl)) ?_
  try go_wp2
  go_ret
  exact ⟨by first | rfl | (simp [errW_none,errW_some] <;> rfl) | (simp only [← hji4,← hji6]; first | rfl | (simp [errW_none,errW_some] <;> rfl)) | (simp [*,errW_none,errW_some] <;> rfl),bl1_ HB.out GE258.out⟩
 ·rw [if_neg c5] at H
  exact absurd H (by simp)


def PutInv (Inv:List Nat → (Nat → Prop) → World → Prop) (base:List Nat) (s g Be Bs Bg ge:Nat) (lbe:Array Value) (acc:List Nat) (O:Nat → Prop) (W:World):Prop :=
 ∃ O1,Inv (base ++ acc.map fun p => diffN s g ||| p) O1 W ∧ W.cell? ⟨Be,0,none⟩ = some (.func (.func ge) #[] lbe) ∧ W.cell? ⟨Bs,0,none⟩ = some (.int .u64 (s:Int)) ∧ W.cell? ⟨Bg,0,none⟩ = some (.int .u64 (g:Int)) ∧
  (∀ k,O k ↔ O1 k ∨ k = Be ∨ k = Bs ∨ k = Bg) ∧ ∀ k,O1 k → k ≠ Be ∧ k ≠ Bs ∧ k ≠ Bg
set_option maxRecDepth 100000 in
set_option maxHeartbeats 4000000 in
theorem putLit_any (Inv:List Nat → (Nat → Prop) → World → Prop) (ge:Nat) (lbe:Array Value) (max:Nat) (C:CB Tryz.prog ge lbe en64 (fun n => n < 2 ^ 60) max Inv) (eg:∀ args w,(callFunc ge args).run Tryz.prog w = .ok (.enter ge args) w)
  (base:List Nat) (s g Be Bs Bg:Nat) (hs:s < 2 ^ 60) (hg:g < 2 ^ 60) (acc:List Nat) (O:Nat → Prop) (W:World) (p:Nat) (hp:p < 2 ^ 60) (hmax:base.length + acc.length < max) (hI:PutInv Inv base s g Be Bs Bg ge lbe acc O W) :
  Calls Tryz.prog 83 #[.int .u64 (p:Int),.pointer (some ⟨Be,0,none⟩),.pointer (some ⟨Bs,0,none⟩),.pointer (some ⟨Bg,0,none⟩)] W fun e w' => e = .returned (.tuple #[]) ∧ ∃ O',PutInv Inv base s g Be Bs Bg ge lbe (acc ++ [p]) O' w' ∧ FrameBut O W w' ∧ ∀ k,O' k → O k ∨ W.heap.size ≤ k:=by
 obtain ⟨O1,h1,ce,cs,cg,hO,hne⟩:=hI
 have be:=wl_ W _ ce
 have bs:=wl_ W _ cs
 have bg:=wl_ W _ cg
 have hd:=diffN_lt g hs
 have hx:=or_lt60 hd hp
 have HC:=am_ (C.call _ O1 W _ (by rw [List.length_append,List.length_map]; exact hmax) hx h1)
 have e1:=andNot_u64 s g hs hg
 have e2:=or_u64 (diffN s g) p hd hp
 have HO:=am_ hO
 have HN:=am_ hne
 clear h1 hO hne hs hg hp hmax hd hx
 go_enter Tryz.func83,Tryz.ntmps83
 go_wp2_with ((go_at_fn ge; refine HC.out.mono ?_; rintro e w' ⟨rfl,O',hI',hF,hO'⟩))
 refine bodyPost_end (v:=.tuple #[]) (by simp [results,Tryz.results83,go_sem]) rfl ⟨rfl,fun k => O' k ∨ k = Be ∨ k = Bs ∨ k = Bg,⟨O',?_,?_,?_,?_,fun k => Iff.rfl,?_⟩,?_,?_⟩
 ·rw [List.map_append,← List.append_assoc]; exact hI'
 ·exact hF.cell ce (fun h => (HN.out _ h).1 rfl)
 ·exact hF.cell cs (fun h => (HN.out _ h).2.1 rfl)
 ·exact hF.cell cg (fun h => (HN.out _ h).2.2 rfl)
 ·intro k hk
  rcases hO' k hk with h | h
  ·exact HN.out k h
  ·omega
 ·exact hF.mono (fun k _ h => (HO.out k).2 (.inl h))
 ·intro k hk
  rcases hk with h | h
  ·exact (hO' k h).imp (fun h => (HO.out k).2 (.inl h)) id
  ·exact .inl ((HO.out k).2 (.inr h))
theorem putCB (Inv:List Nat → (Nat → Prop) → World → Prop) (ge:Nat) (lbe:Array Value) (max max2:Nat) (C:CB Tryz.prog ge lbe en64 (fun n => n < 2 ^ 60) max Inv) (eg:∀ args w,(callFunc ge args).run Tryz.prog w = .ok (.enter ge args) w)
  (base:List Nat) (s g Be Bs Bg:Nat) (hs:s < 2 ^ 60) (hg:g < 2 ^ 60) (hmax:base.length + max2 ≤ max) :
  CB Tryz.prog 83 #[.pointer (some ⟨Be,0,none⟩),.pointer (some ⟨Bs,0,none⟩),.pointer (some ⟨Bg,0,none⟩)] en64 (fun n => n < 2 ^ 60) max2 (PutInv Inv base s g Be Bs Bg ge lbe) where
 call:=fun acc O W x hlen hx hI => putLit_any Inv ge lbe max C eg base s g Be Bs Bg hs hg acc O W x hx (by omega) hI
 move:=fun acc O W W' hI hz ho ht hu hk => by
  obtain ⟨O1,h1,ce,cs,cg,hO,hne⟩:=hI
  exact ⟨O1,C.move _ O1 W W' h1 hz ho ht hu (fun k h => hk k ((hO k).2 (.inl h))),(World.cell?_of_block (w:=W) (a:=⟨Be,0,none⟩) (hk _ ((hO Be).2 (.inr (.inl rfl))))).trans ce,(World.cell?_of_block (w:=W) (a:=⟨Bs,0,none⟩) (hk _ ((hO Bs).2 (.inr (.inr (.inl rfl)))))).trans cs,
   (World.cell?_of_block (w:=W) (a:=⟨Bg,0,none⟩) (hk _ ((hO Bg).2 (.inr (.inr (.inr rfl)))))).trans cg,hO,hne⟩
 lt:=fun acc O W hI k hk => by
  obtain ⟨O1,h1,ce,cs,cg,hO,hne⟩:=hI
  rcases (hO k).1 hk with h | rfl | rfl | rfl
  ·exact C.lt _ O1 W h1 k h
  ·exact wl_ W _ ce
  ·exact wl_ W _ cs
  ·exact wl_ W _ cg
theorem flatMap_one {f:Nat → Nat}:∀ l:List Nat,(l.flatMap fun g => [f g]).length = l.length
 | [] => rfl
 | x :: l => by rw [List.flatMap_cons,List.length_append,flatMap_one l]; simp; omega
theorem flatMap_le {f:Nat → List Nat} {b:Nat} (h:∀ g,(f g).length ≤ b):∀ l:List Nat,(l.flatMap f).length ≤ l.length * b
 | [] => by simp
 | x :: l => by
  have:=flatMap_le h l
  have:=h x
  rw [List.flatMap_cons,List.length_append,List.length_cons,Nat.succ_mul]
  omega
def GoneInv (Inv:List Nat → (Nat → Prop) → World → Prop) (w0:World) (base:List Nat) (row:Array Value) (s Bw Be Bs ge:Nat) (lbe:Array Value) (pieces:Nat → List Nat) (acc:List Nat) (O:Nat → Prop) (W:World):Prop :=
 ∃ O1,Inv (base ++ acc.flatMap pieces) O1 W ∧ Below w0.heap.size w0 W ∧ W.heap[Bw]? = some (.cells row 42 (0,0)) ∧ W.cell? ⟨Be,0,none⟩ = some (.func (.func ge) #[] lbe) ∧ W.cell? ⟨Bs,0,none⟩ = some (.int .u64 (s:Int)) ∧
  (∀ k,O k ↔ O1 k ∨ k < w0.heap.size ∨ k = Bw ∨ k = Be ∨ k = Bs) ∧ ∀ k,O1 k → w0.heap.size ≤ k ∧ k ≠ Bw ∧ k ≠ Be ∧ k ≠ Bs
theorem GoneInv.next {Inv:List Nat → (Nat → Prop) → World → Prop} {w0:World} {base:List Nat} {row:Array Value} {s Bw Be Bs ge:Nat} {lbe:Array Value} {pieces:Nat → List Nat} {acc:List Nat} {O O1 O9:Nat → Prop} {W w9:World} {g:Nat}
  (hB:Below w0.heap.size w0 W) (hw:W.heap[Bw]? = some (.cells row 42 (0,0))) (ce:w9.cell? ⟨Be,0,none⟩ = some (.func (.func ge) #[] lbe)) (cs:w9.cell? ⟨Bs,0,none⟩ = some (.int .u64 (s:Int))) (hO:∀ k,O k ↔ O1 k ∨ k < w0.heap.size ∨ k = Bw ∨ k = Be ∨ k = Bs)
  (hne:∀ k,O1 k → w0.heap.size ≤ k ∧ k ≠ Bw ∧ k ≠ Be ∧ k ≠ Bs) (h9:Inv (base ++ (acc ++ [g]).flatMap pieces) O9 w9) (hF:FrameBut (fun k => O1 k ∨ k = Be ∨ k = Bs) W w9) (hO9:∀ k,O9 k → O1 k ∨ W.heap.size ≤ k)
  (hbe:w0.heap.size ≤ Be ∧ Be < W.heap.size) (hbs:w0.heap.size ≤ Bs ∧ Bs < W.heap.size) (hbw:w0.heap.size ≤ Bw) (hwe:Bw ≠ Be) (hws:Bw ≠ Bs) :
  ∃ O',GoneInv Inv w0 base row s Bw Be Bs ge lbe pieces (acc ++ [g]) O' w9 ∧ FrameBut O W w9 ∧ ∀ k,O' k → O k ∨ W.heap.size ≤ k:=by
 have bw:Bw < W.heap.size:=(Array.getElem?_eq_some_iff.1 hw).1
 refine ⟨fun k => O9 k ∨ k < w0.heap.size ∨ k = Bw ∨ k = Be ∨ k = Bs,⟨O9,h9,hB.trans (hF.toBelow hB.size (fun k hk h => ?_)),(hF.block Bw bw (fun h => ?_)).trans hw,ce,cs,fun k => Iff.rfl,fun k hk => ?_⟩,hF.mono (fun k _ h => ?_),fun k hk => ?_⟩
 ·rcases h with h | h | h
  ·have:=(hne k h).1; omega
  ·omega
  ·omega
 ·rcases h with h | h | h
  ·exact (hne _ h).2.1 rfl
  ·exact hwe h
  ·exact hws h
 ·rcases hO9 k hk with h | h
  ·exact hne k h
  ·have:=hB.size; omega
 ·rcases h with h | h | h
  ·exact (hO k).2 (.inl h)
  ·exact (hO k).2 (.inr (.inr (.inr (.inl h))))
  ·exact (hO k).2 (.inr (.inr (.inr (.inr h))))
 ·rcases hk with h | h
  ·exact (hO9 k h).imp (fun h => (hO k).2 (.inl h)) id
  ·exact .inl ((hO k).2 (.inr h))
set_option maxRecDepth 100000 in
set_option maxHeartbeats 8000000 in
theorem goneLit_take (Inv:List Nat → (Nat → Prop) → World → Prop) (ge:Nat) (lbe:Array Value) (max:Nat) (C:CB Tryz.prog ge lbe en64 (fun n => n < 2 ^ 60) max Inv) (eg:∀ args w,(callFunc ge args).run Tryz.prog w = .ok (.enter ge args) w)
  (w0:World) (base:List Nat) (fW fH:Int) (v2 v3:Value) (mt:Int) (s Bw Be Bs:Nat) (hs:s < 2 ^ 60) (hbe:w0.heap.size ≤ Be) (hbs:w0.heap.size ≤ Bs) (hbw:w0.heap.size ≤ Bw) (hwe:Bw ≠ Be) (hws:Bw ≠ Bs)
  (acc:List Nat) (O:Nat → Prop) (W:World) (g:Nat) (hg:g < 2 ^ 60) (hmax:base.length + acc.length < max) (hI:GoneInv Inv w0 base #[.int .i64 fW,.int .i64 fH,v2,v3,.int .i64 mt,.bool false] s Bw Be Bs ge lbe (fun g => [diffN s g]) acc O W) :
  Calls Tryz.prog 81 #[.int .u64 (g:Int),.pointer (some ⟨Bw,0,none⟩),.pointer (some ⟨Be,0,none⟩),.pointer (some ⟨Bs,0,none⟩)] W fun e w' => e = .returned (.tuple #[]) ∧ ∃ O',GoneInv Inv w0 base #[.int .i64 fW,.int .i64 fH,v2,v3,.int .i64 mt,.bool false] s Bw Be Bs ge lbe (fun g => [diffN s g]) (acc ++ [g]) O' w' ∧ FrameBut O W w' ∧ ∀ k,O' k → O k ∨ W.heap.size ≤ k:=by
 obtain ⟨O1,h1,hB,hw,ce,cs,hO,hne⟩:=hI
 have be:Be < W.heap.size:=wl_ W _ ce
 have bs:Bs < W.heap.size:=wl_ W _ cs
 have c5:W.cell? ⟨Bw,5,none⟩ = some (.bool false):=(bc_ hw 5).trans rfl
 have b5:Bw < W.heap.size:=wl_ W _ c5
 have e1:=andNot_u64 s g hs hg
 have HC:=am_ (fun W' (h:Below W.heap.size W W') => C.call _ O1 W' _ (by rw [List.length_append,flatMap_one]; exact hmax) (diffN_lt g hs) (C.below h1 h))
 have HB:=am_ hB
 have HW:=am_ hw
 have HO:=am_ hO
 have HN:=am_ hne
 clear hB hw h1 hO hne hs hg hmax
 go_enter Tryz.func81,Tryz.ntmps81
 go_wp2_with ((go_at_fn ge; refine (HC.out _ ?xB).mono ?_; (case xB => exact below_alloc (Below.refl _ _) _); rintro e w' ⟨rfl,O',hI',hF,hO'⟩))
 have hF2:FrameBut (fun k => O1 k ∨ k = Be ∨ k = Bs) W w':=(((FrameBut.refl _ W).alloc _).trans hF (fun k h => .inl h)).mono (fun k _ h => .inl h)
 refine bodyPost_ret (v:=.tuple #[]) (by simp [results,Tryz.results81,go_sem]) rfl ⟨rfl,GoneInv.next HB.out HW.out ?_ ?_ HO.out HN.out (O9:=O') ?_ hF2 ?_ ⟨hbe,be⟩ ⟨hbs,bs⟩ hbw hwe hws⟩
 ·exact hF.cell ((World.cell?_alloc_lt _ _ _ be).trans ce) (fun h => (HN.out _ h).2.2.1 rfl)
 ·exact hF.cell ((World.cell?_alloc_lt _ _ _ bs).trans cs) (fun h => (HN.out _ h).2.2.2 rfl)
 ·rw [List.flatMap_append,← List.append_assoc]; simpa using hI'
 ·exact fun k hk => (hO' k hk).imp id (fun h => by simp at h; omega)
def putsW (m all s g:Nat):List Nat:=(subsW m (bitsI (diffN all s)) 0).map fun p => diffN s g ||| p
theorem putsW_len (m all s g:Nat):(putsW m all s g).length ≤ 64 ^ m:=by
 unfold putsW
 rw [List.length_map]
 exact Nat.le_trans (subsW_len _ _ _) (Nat.pow_le_pow_left (bitsI_len _) _)
set_option maxRecDepth 100000 in
set_option maxHeartbeats 8000000 in
theorem goneLit_move (Inv:List Nat → (Nat → Prop) → World → Prop) (ge:Nat) (lbe:Array Value) (max:Nat) (C:CB Tryz.prog ge lbe en64 (fun n => n < 2 ^ 60) max Inv) (eg:∀ args w,(callFunc ge args).run Tryz.prog w = .ok (.enter ge args) w)
  (w0:World) (base:List Nat) (fW fH:Int) (A2 A3:Option Addr) (c2 c3:Nat) (l2 l3:List Int) (hr2:Kd.C (Kd.int .i64) w0 A2 l2.length l2) (hc2:l2.length ≤ c2) (hr3:Kd.C (Kd.int .i64) w0 A3 l3.length l3) (hc3:l3.length ≤ c3) (hT:TB w0)
  (mt s al Bw Be Bs:Nat) (hm:mt ≤ 64) (hs:s < 2 ^ 60) (hal:al < 2 ^ 60) (ha:impl_grid_all.f fW fH = some (al:Int)) (hbe:w0.heap.size ≤ Be) (hbs:w0.heap.size ≤ Bs) (hbw:w0.heap.size ≤ Bw) (hwe:Bw ≠ Be) (hws:Bw ≠ Bs)
  (acc:List Nat) (O:Nat → Prop) (W:World) (g:Nat) (hg:g < 2 ^ 60) (hmax:base.length + (acc.length + 1) * 64 ^ mt ≤ max) (hI:GoneInv Inv w0 base #[.int .i64 fW,.int .i64 fH,.slice A2 l2.length c2,.slice A3 l3.length c3,.int .i64 (mt:Int),.bool true] s Bw Be Bs ge lbe (putsW mt al s) acc O W) :
  Calls Tryz.prog 81 #[.int .u64 (g:Int),.pointer (some ⟨Bw,0,none⟩),.pointer (some ⟨Be,0,none⟩),.pointer (some ⟨Bs,0,none⟩)] W fun e w' => e = .returned (.tuple #[]) ∧ ∃ O',GoneInv Inv w0 base #[.int .i64 fW,.int .i64 fH,.slice A2 l2.length c2,.slice A3 l3.length c3,.int .i64 (mt:Int),.bool true] s Bw Be Bs ge lbe (putsW mt al s) (acc ++ [g]) O' w' ∧ FrameBut O W w' ∧ ∀ k,O' k → O k ∨ W.heap.size ≤ k:=by
 have hmf:∀ (fn:Fn) (first cap:Array Value) (w:World),(Instr.makeFunc fn first cap).run Tryz.prog w = .ok (.func fn first cap) w:=fun _ _ _ _ => rfl
 have eg2:∀ args w,(callFunc 83 args).run Tryz.prog w = .ok (.enter 83 args) w:=enters_of Tryz.func83 (by kernel_rfl) rfl
 obtain ⟨O1,h1,hB,hw,ce,cs,hO,hne⟩:=hI
 have be:Be < W.heap.size:=wl_ W _ ce
 have bs:Bs < W.heap.size:=wl_ W _ cs
 have q0:W.cell? ⟨Bw,0,none⟩ = some (.int .i64 fW):=(bc_ hw 0).trans rfl
 have q1:W.cell? ⟨Bw,1,none⟩ = some (.int .i64 fH):=(bc_ hw 1).trans rfl
 have q2:W.cell? ⟨Bw,2,none⟩ = some (.slice A2 l2.length c2):=(bc_ hw 2).trans rfl
 have q3:W.cell? ⟨Bw,3,none⟩ = some (.slice A3 l3.length c3):=(bc_ hw 3).trans rfl
 have q4:W.cell? ⟨Bw,4,none⟩ = some (.int .i64 (mt:Int)):=(bc_ hw 4).trans rfl
 have q5:W.cell? ⟨Bw,5,none⟩ = some (.bool true):=(bc_ hw 5).trans rfl
 have b5:Bw < W.heap.size:=wl_ W _ q5
 have e1:=andNot_u64 al s hal hs
 have hmax2:(base ++ acc.flatMap (putsW mt al s)).length + 64 ^ mt ≤ max:=by
  have:=flatMap_le (putsW_len mt al s) acc
  rw [List.length_append]
  rw [Nat.succ_mul] at hmax
  omega
 have C2:=putCB Inv ge lbe max (64 ^ mt) C eg (base ++ acc.flatMap (putsW mt al s)) s g Be Bs W.heap.size hs hg hmax2
 have HC:Aside0 (∀ W',Below W.heap.size W W' → W'.cell? ⟨W.heap.size,0,none⟩ = some (.int .u64 (g:Int)) → Calls Tryz.prog 80 #[.int .u64 ((diffN al s:Nat):Int),.int .i64 (mt:Int),.func (.func 83) #[] #[.pointer (some ⟨Be,0,none⟩),.pointer (some ⟨Bs,0,none⟩),.pointer (some ⟨W.heap.size,0,none⟩)]] W'
   fun e w' => e = .returned (.tuple #[]) ∧ ∃ O',GoneInv Inv w0 base #[.int .i64 fW,.int .i64 fH,.slice A2 l2.length c2,.slice A3 l3.length c3,.int .i64 (mt:Int),.bool true] s Bw Be Bs ge lbe (putsW mt al s) (acc ++ [g]) O' w' ∧ FrameBut O W w' ∧ ∀ k,O' k → O k ∨ W.heap.size ≤ k):=⟨fun W' hW hgc => by
  have hgb:W.heap.size < W'.heap.size:=wl_ W' _ hgc
  have O1lt:∀ k,O1 k → k < W.heap.size:=fun k hk => C.lt _ O1 W h1 k hk
  refine (subsets_any 83 _ (64 ^ mt) _ C2 eg2 (diffN al s) mt (diffN_lt s hal) hm [] (fun k => O1 k ∨ k = Be ∨ k = Bs ∨ k = W.heap.size) W' (hT.below (hB.trans (hW.mono hB.size)))
   ⟨O1,by rw [List.map_nil,List.append_nil]; exact C.below h1 hW,pw_cell_below hW ce,pw_cell_below hW cs,hgc,fun k => Iff.rfl,fun k hk => ⟨(hne k hk).2.2.1,(hne k hk).2.2.2,fun h => by have:=O1lt k hk; omega⟩⟩ ?_).mono ?_
  ·rw [List.length_nil,Nat.zero_add]; exact Nat.le_trans (subsW_len _ _ _) (Nat.pow_le_pow_left (bitsI_len _) _)
  ·rintro e w9 ⟨rfl,O',⟨O9,h9,ce9,cs9,cg9,hO9,hn9⟩,hF,hO'⟩
   have hFW:FrameBut (fun k => O1 k ∨ k = Be ∨ k = Bs) W w9:=(FrameBut.of_below hW).trans hF (fun k hk => by
    rcases hk with h | h | h | h
    ·exact .inl (.inl h)
    ·exact .inl (.inr (.inl h))
    ·exact .inl (.inr (.inr h))
    ·exact .inr (Nat.le_of_eq h.symm))
   refine ⟨rfl,GoneInv.next hB hw ce9 cs9 hO hne (O9:=O9) ?_ hFW ?_ ⟨hbe,be⟩ ⟨hbs,bs⟩ hbw hwe hws⟩
   ·rw [List.nil_append,List.append_assoc] at h9
    rw [List.flatMap_append]
    simpa [putsW] using h9
   ·intro k hk
    have hn:=hn9 k hk
    rcases hO' k ((hO9 k).2 (.inl hk)) with h | h
    ·rcases h with h | h | h | h
     ·exact .inl h
     ·exact absurd h hn.1
     ·exact absurd h hn.2.1
     ·exact absurd h hn.2.2
    ·exact .inr (Nat.le_trans hW.size h)⟩
 have HR2:=am_ (Kd.C_below hr2 hB)
 have HR3:=am_ (Kd.C_below hr3 hB)
 have HA:=am_ ha
 have HQ2:=am_ hc2
 have HQ3:=am_ hc3
 clear h1 hB hw hO hne hs hg hmax hmax2 C2 hal ha hr2 hr3 hT hc2 hc3 hm eg eg2
 generalize diffN al s = fr at e1 HC
 go_enter Tryz.func81,Tryz.ntmps81
 go_wp2_with fail
 have hB1:=am_ (below_drew (below_alloc (Below.refl W.heap.size W) (.cells #[.int .u64 (g:Int)] 72)))
 go_region_held3 (fun w' => w'.cell? ⟨Bw,0,none⟩ = some (.int .i64 fW) ∧ w'.cell? ⟨Bw,1,none⟩ = some (.int .i64 fH) ∧ w'.cell? ⟨Bw,2,none⟩ = some (.slice A2 l2.length c2) ∧ w'.cell? ⟨Bw,3,none⟩ = some (.slice A3 l3.length c3) ∧ w'.cell? ⟨Bw,4,none⟩ = some (.int .i64 (mt:Int)) ∧ w'.cell? ⟨Bs,0,none⟩ = some (.int .u64 (s:Int)))
  (first
   | exact ⟨pw_cell_below (below_alloc (Below.refl _ _) _) q0,pw_cell_below (below_alloc (Below.refl _ _) _) q1,pw_cell_below (below_alloc (Below.refl _ _) _) q2,pw_cell_below (below_alloc (Below.refl _ _) _) q3,pw_cell_below (below_alloc (Below.refl _ _) _) q4,pw_cell_below (below_alloc (Below.refl _ _) _) cs⟩
   | (obtain ⟨O9,⟨O8,_,_,hw9,_,cs9,_⟩,_⟩:=h9; exact ⟨(bc_ hw9 0).trans rfl,(bc_ hw9 1).trans rfl,(bc_ hw9 2).trans rfl,(bc_ hw9 3).trans rfl,(bc_ hw9 4).trans rfl,cs9⟩)
   | (go_split_ands; exact ⟨pw_cell_below hby (by assumption),pw_cell_below hby (by assumption),pw_cell_below hby (by assumption),pw_cell_below hby (by assumption),pw_cell_below hby (by assumption),pw_cell_below hby (by assumption)⟩)
   | (go_split_ands; exact ⟨pw_cell_below hbx (by assumption),pw_cell_below hbx (by assumption),pw_cell_below hbx (by assumption),pw_cell_below hbx (by assumption),pw_cell_below hbx (by assumption),pw_cell_below hbx (by assumption)⟩))
  ((first
   | (go_at_call 41; go_split_ands; refine (impl_Figure_grid.calls fW fH A2 c2 l2 A3 c3 l3 fW fH _ (Kd.C_below HR2.out hB1.out) HQ2.out (Kd.C_below HR3.out hB1.out) HQ3.out rfl).mono ?_; rintro e wx ⟨rfl,hbx⟩)
   | (go_at_call 82; go_split_ands; refine (impl_grid_all.calls fW fH _ _ HA.out).mono ?_; rintro e wy ⟨rfl,hby⟩)
   | (go_at_call 80; refine (HC.out _ (below_step (below_step hB1.out hbx) hby) (pw_cell_below hby (pw_cell_below hbx (pw_cell_below (below_drew (Below.refl _ _)) (World.cell?_alloc_at _ _ _ _ rfl))))).mono ?_; rintro e w9 ⟨rfl,h9⟩)))
 all_goals
  have H9:=am_ h9
  clear h9
  go_wp2
  exact bodyPost_end (v:=.tuple #[]) (by simp [results,Tryz.results81,go_sem]) rfl ⟨rfl,H9.out⟩
theorem GoneInv.move {Inv:List Nat → (Nat → Prop) → World → Prop} {ge:Nat} {lbe:Array Value} {max:Nat} (C:CB Tryz.prog ge lbe en64 (fun n => n < 2 ^ 60) max Inv) {w0:World} {base:List Nat} {row:Array Value} {s Bw Be Bs:Nat} {pieces:Nat → List Nat} {acc:List Nat} {O:Nat → Prop} {W W':World}
  (hI:GoneInv Inv w0 base row s Bw Be Bs ge lbe pieces acc O W) (hz:W.heap.size ≤ W'.heap.size) (ho:W'.os = W.os) (ht:W'.tape = W.tape) (hu:W'.output = W.output) (hk:∀ k,O k → W'.heap[k]? = W.heap[k]?):GoneInv Inv w0 base row s Bw Be Bs ge lbe pieces acc O W':=by
 obtain ⟨O1,h1,hB,hw,ce,cs,hO,hne⟩:=hI
 exact ⟨O1,C.move _ O1 W W' h1 hz ho ht hu (fun k h => hk k ((hO k).2 (.inl h))),⟨ho.trans hB.os,ht.trans hB.tape,hu.trans hB.output,Nat.le_trans hB.size hz,fun k h => (hk k ((hO k).2 (.inr (.inl h)))).trans (hB.block k h)⟩,(hk _ ((hO Bw).2 (.inr (.inr (.inl rfl))))).trans hw,
  (World.cell?_of_block (w:=W) (a:=⟨Be,0,none⟩) (hk _ ((hO Be).2 (.inr (.inr (.inr (.inl rfl))))))).trans ce,(World.cell?_of_block (w:=W) (a:=⟨Bs,0,none⟩) (hk _ ((hO Bs).2 (.inr (.inr (.inr (.inr rfl))))))).trans cs,hO,hne⟩
theorem GoneInv.lt {Inv:List Nat → (Nat → Prop) → World → Prop} {ge:Nat} {lbe:Array Value} {max:Nat} (C:CB Tryz.prog ge lbe en64 (fun n => n < 2 ^ 60) max Inv) {w0:World} {base:List Nat} {row:Array Value} {s Bw Be Bs:Nat} {pieces:Nat → List Nat} {acc:List Nat} {O:Nat → Prop} {W:World}
  (hI:GoneInv Inv w0 base row s Bw Be Bs ge lbe pieces acc O W) (k:Nat) (hk:O k):k < W.heap.size:=by
 obtain ⟨O1,h1,hB,hw,ce,cs,hO,hne⟩:=hI
 rcases (hO k).1 hk with h | h | rfl | rfl | rfl
 ·exact C.lt _ O1 W h1 k h
 ·exact Nat.lt_of_lt_of_le h hB.size
 ·exact (Array.getElem?_eq_some_iff.1 hw).1
 ·exact wl_ W _ ce
 ·exact wl_ W _ cs
set_option maxRecDepth 100000 in
set_option maxHeartbeats 8000000 in
theorem each_gen (Inv:List Nat → (Nat → Prop) → World → Prop) (ge:Nat) (lbe:Array Value) (max:Nat) (C:CB Tryz.prog ge lbe en64 (fun n => n < 2 ^ 60) max Inv) (K:Nat)
  (fW fH:Int) (A2 A3:Option Addr) (c2 c3:Nat) (l2 l3:List Int) (mt s:Nat) (mv:Bool) (pieces:Nat → List Nat) (max1:Nat) (w0:World) (acc:List Nat) (O:Nat → Prop) (w:World)
  (hr2:Kd.C (Kd.int .i64) w0 A2 l2.length l2) (hc2:l2.length ≤ c2) (hr3:Kd.C (Kd.int .i64) w0 A3 l3.length l3) (hc3:l3.length ≤ c3) (hT:TB w0) (hm:mt ≤ 64) (hs:s < 2 ^ 60) (hset:impl_Figure_set.f K fW fH l2 l3 = some (s:Int))
  (C1:∀ Bw Be Bs,w0.heap.size ≤ Bw → w0.heap.size ≤ Be → w0.heap.size ≤ Bs → Bw ≠ Be → Bw ≠ Bs → CB Tryz.prog 81 #[.pointer (some ⟨Bw,0,none⟩),.pointer (some ⟨Be,0,none⟩),.pointer (some ⟨Bs,0,none⟩)] en64 (fun n => n < 2 ^ 60) max1 (GoneInv Inv w0 acc #[.int .i64 fW,.int .i64 fH,.slice A2 l2.length c2,.slice A3 l3.length c3,.int .i64 (mt:Int),.bool mv] s Bw Be Bs ge lbe pieces))
  (hB0:Below w0.heap.size w0 w) (hO:∀ k,O k → w0.heap.size ≤ k) (hI:Inv acc O w) (hmax:64 ^ mt ≤ max1) :
  Calls Tryz.prog 59 #[.agg #[.int .i64 fW,.int .i64 fH,.slice A2 l2.length c2,.slice A3 l3.length c3,.int .i64 (mt:Int),.bool mv],.func (.func ge) #[] lbe] w (EachPost acc ((subsW mt (bitsI s) 0).flatMap pieces) O Inv w):=by
 have hmf:∀ (fn:Fn) (first cap:Array Value) (w:World),(Instr.makeFunc fn first cap).run Tryz.prog w = .ok (.func fn first cap) w:=fun _ _ _ _ => rfl
 have eg1:∀ args w,(callFunc 81 args).run Tryz.prog w = .ok (.enter 81 args) w:=enters_of Tryz.func81 (by kernel_rfl) rfl
 have HC:Aside0 (∀ W Bw Be Bs,Below w.heap.size w W → w.heap.size ≤ Bw → w.heap.size ≤ Be → w.heap.size ≤ Bs → Bw ≠ Be → Bw ≠ Bs → W.heap[Bw]? = some (.cells #[.int .i64 fW,.int .i64 fH,.slice A2 l2.length c2,.slice A3 l3.length c3,.int .i64 (mt:Int),.bool mv] 42 (0,0)) → W.cell? ⟨Be,0,none⟩ = some (.func (.func ge) #[] lbe) → W.cell? ⟨Bs,0,none⟩ = some (.int .u64 (s:Int)) →
   Calls Tryz.prog 80 #[.int .u64 (s:Int),.int .i64 (mt:Int),.func (.func 81) #[] #[.pointer (some ⟨Bw,0,none⟩),.pointer (some ⟨Be,0,none⟩),.pointer (some ⟨Bs,0,none⟩)]] W (EachPost acc ((subsW mt (bitsI s) 0).flatMap pieces) O Inv w)):=⟨fun W Bw Be Bs hW h1 h2 h3 hwe hws hw ce cs => by
  have hz:=hB0.size
  have Olt:∀ k,O k → k < w.heap.size:=fun k hk => C.lt _ O w hI k hk
  refine (subsets_any 81 _ max1 _ (C1 Bw Be Bs (by omega) (by omega) (by omega) hwe hws) eg1 s mt hs hm [] (fun k => O k ∨ k < w0.heap.size ∨ k = Bw ∨ k = Be ∨ k = Bs) W (hT.below (hB0.trans (hW.mono hz)))
   ⟨O,by rw [List.flatMap_nil,List.append_nil]; exact C.below hI hW,hB0.trans (hW.mono hz),hw,ce,cs,fun k => Iff.rfl,fun k hk => ⟨hO k hk,by have:=Olt k hk; omega,by have:=Olt k hk; omega,by have:=Olt k hk; omega⟩⟩ ?_).mono ?_
  ·rw [List.length_nil,Nat.zero_add]; exact Nat.le_trans (Nat.le_trans (subsW_len _ _ _) (Nat.pow_le_pow_left (bitsI_len _) _)) hmax
  ·rintro e w9 ⟨rfl,O',⟨O9,h9,hB9,hw9,ce9,cs9,hO9,hn9⟩,hF,hO'⟩
   refine ⟨rfl,O9,by rw [List.nil_append] at h9; exact h9,⟨hF.os.trans hW.os,hF.tape.trans hW.tape,hF.output.trans hW.output,Nat.le_trans hW.size hF.size,fun k hk hn => ?_⟩,fun k hk => ?_⟩
   ·rcases Nat.lt_or_ge k w0.heap.size with hlt | hge
    ·rw [hB9.block k hlt,hB0.block k hlt]
    ·rw [hF.block k (Nat.lt_of_lt_of_le hk hW.size) (fun h => by rcases h with h | h | h | h | h <;> first | exact hn h | omega),hW.block k hk]
   ·have hn:=hn9 k hk
    rcases hO' k ((hO9 k).2 (.inl hk)) with h | h
    ·rcases h with h | h | h | h | h
     ·exact .inl h
     ·omega
     ·exact absurd h hn.2.1
     ·exact absurd h hn.2.2.1
     ·exact absurd h hn.2.2.2
    ·exact .inr (Nat.le_trans hW.size h)⟩
 have HR2:=am_ (Kd.C_below hr2 hB0)
 have HR3:=am_ (Kd.C_below hr3 hB0)
 have HS:=am_ hset
 have HQ2:=am_ hc2
 have HQ3:=am_ hc3
 clear hr2 hr3 hset hc2 hc3 hB0 hO hI hmax hm hs hT eg1 C1
 generalize (subsW mt (bitsI s) 0).flatMap pieces = R at HC ⊢
 go_enter Tryz.func59,Tryz.ntmps59
 go_wp2_with fail
 go_at_call 79
 refine (impl_Figure_set.calls K fW fH A2 c2 l2 A3 c3 l3 _ _ (Kd.C_alloc (Kd.C_alloc HR2.out _) _) HQ2.out (Kd.C_alloc (Kd.C_alloc HR3.out _) _) HQ3.out HS.out).mono ?_
 rintro e w1 ⟨rfl,hb⟩
 have Q0:w1.heap[w.heap.size]? = some (.cells #[.int .i64 fW,.int .i64 fH,.slice A2 l2.length c2,.slice A3 l3.length c3,.int .i64 (mt:Int),.bool mv] 42 (0,0)):=blk_keep (blk_alloc (heap_alloc_new w _) _) hb
 have ce:w1.cell? ⟨w.heap.size + 1,0,none⟩ = some (.func (.func ge) #[] lbe):=pw_cell_below hb (World.cell?_alloc_at _ _ _ _ (by simp))
 have q4:w1.cell? ⟨w.heap.size,4,none⟩ = some (.int .i64 (mt:Int)):=(bc_ Q0 4).trans rfl
 have hz:w.heap.size + 2 ≤ w1.heap.size:=by have h_:=hb.size; simp at h_; omega
 have hz2:w.heap.size < w1.heap.size:=by omega
 have HB:=am_ (below_step (below_alloc (below_alloc (Below.refl w.heap.size w) _) _) hb)
 have HQ:=am_ Q0
 clear hb Q0
 go_wp2_with fail
 go_at_call 80
 refine (HC.out _ w.heap.size (w.heap.size + 1) w1.heap.size ?xb (Nat.le_refl _) (by omega) (by omega) (by omega) (by omega) ?xq ?xe ?xs).mono ?_
 ·exact below_alloc HB.out _
 ·exact blk_alloc HQ.out _
 ·exact pw_cell_below (below_alloc (Below.refl _ _) _) ce
 ·exact World.cell?_alloc_at _ _ _ _ rfl
 rintro e w9 ⟨rfl,h9⟩
 have H9:Aside0 (EachPost acc R O Inv w (.returned (.tuple #[])) w9):=⟨rfl,h9⟩
 clear h9
 go_wp2
 exact bodyPost_end (v:=.tuple #[]) (by simp [results,Tryz.results59,go_sem]) rfl H9.out
def piecesW (mv:Bool) (mt al s:Nat):Nat → List Nat:=if mv then putsW mt al s else fun g => [diffN s g]
def waysW (mv:Bool) (mt al s:Nat):List Nat:=(subsW mt (bitsI s) 0).flatMap (piecesW mv mt al s)
theorem each_any (Inv:List Nat → (Nat → Prop) → World → Prop) (ge:Nat) (lbe:Array Value) (C:CB Tryz.prog ge lbe en64 (fun n => n < 2 ^ 60) (64 ^ 4) Inv) (eg:∀ args w,(callFunc ge args).run Tryz.prog w = .ok (.enter ge args) w) (K:Nat)
  (fW fH:Int) (A2 A3:Option Addr) (c2 c3:Nat) (l2 l3:List Int) (mt s al:Nat) (mv:Bool) (w0:World) (O:Nat → Prop) (w:World)
  (hr2:Kd.C (Kd.int .i64) w0 A2 l2.length l2) (hc2:l2.length ≤ c2) (hr3:Kd.C (Kd.int .i64) w0 A3 l3.length l3) (hc3:l3.length ≤ c3) (hT:TB w0) (hm:mt ≤ if mv then 2 else 4) (hs:s < 2 ^ 60) (hal:al < 2 ^ 60) (hset:impl_Figure_set.f K fW fH l2 l3 = some (s:Int)) (ha:impl_grid_all.f fW fH = some (al:Int))
  (hB0:Below w0.heap.size w0 w) (hO:∀ k,O k → w0.heap.size ≤ k) (hI:Inv [] O w) :
  Calls Tryz.prog 59 #[.agg #[.int .i64 fW,.int .i64 fH,.slice A2 l2.length c2,.slice A3 l3.length c3,.int .i64 (mt:Int),.bool mv],.func (.func ge) #[] lbe] w (EachPost [] (waysW mv mt al s) O Inv w):=by
 unfold waysW piecesW
 cases mv with
 | false =>
  refine each_gen Inv ge lbe (64 ^ 4) C K fW fH A2 A3 c2 c3 l2 l3 mt s false _ (64 ^ 4) w0 [] O w hr2 hc2 hr3 hc3 hT (by simp at hm; omega) hs hset ?_ hB0 hO hI (Nat.pow_le_pow_right (by omega) (by simpa using hm))
  intro Bw Be Bs h1 h2 h3 h4 h5
  exact { call:=fun acc O W x hlen hx hI => goneLit_take Inv ge lbe (64 ^ 4) C eg w0 [] fW fH _ _ (mt:Int) s Bw Be Bs hs h2 h3 h1 h4 h5 acc O W x hx (by simpa using hlen) hI,move:=fun acc O W W' hI hz ho ht hu hk => hI.move C hz ho ht hu hk,lt:=fun acc O W hI k hk => hI.lt C k hk }
 | true =>
  have hm2:mt ≤ 2:=by simpa using hm
  refine each_gen Inv ge lbe (64 ^ 4) C K fW fH A2 A3 c2 c3 l2 l3 mt s true _ (64 ^ 2) w0 [] O w hr2 hc2 hr3 hc3 hT (by omega) hs hset ?_ hB0 hO hI (Nat.pow_le_pow_right (by omega) hm2)
  intro Bw Be Bs h1 h2 h3 h4 h5
  exact { call:=fun acc O W x hlen hx hI => goneLit_move Inv ge lbe (64 ^ 4) C eg w0 [] fW fH A2 A3 c2 c3 l2 l3 hr2 hc2 hr3 hc3 hT mt s al Bw Be Bs (by omega) hs hal ha h2 h3 h1 h4 h5 acc O W x hx (by
       have h6:64 ^ mt ≤ 64 ^ 2:=Nat.pow_le_pow_right (by omega) hm2
       have h7:(acc.length + 1) * 64 ^ mt ≤ 64 ^ 2 * 64 ^ 2:=Nat.mul_le_mul hlen h6
       simpa using h7) hI,move:=fun acc O W W' hI hz ho ht hu hk => hI.move C hz ho ht hu hk,lt:=fun acc O W hI k hk => hI.lt C k hk }
theorem waysW_lt {mv:Bool} {mt al s:Nat} (hs:s < 2 ^ 60) (hal:al < 2 ^ 60):∀ z ∈ waysW mv mt al s,z < 2 ^ 60:=by
 intro z hz
 obtain ⟨g,-,hz⟩:=List.mem_flatMap.1 hz
 unfold piecesW at hz
 cases mv with
 | false => simp at hz; rw [hz]; exact diffN_lt g hs
 | true =>
  simp only [if_true,putsW,List.mem_map] at hz
  obtain ⟨p,hp,rfl⟩:=hz
  exact or_lt60 (diffN_lt g hs) (subsW_lt mt _ 0 (by decide) (bitsI_lt _ (diffN_lt s hal)) p hp)

end Go.Proofs.YtehjfaddhmdicaaGreatDoor.P
namespace Go.Proofs.YtehjfaddhmdicaaGreatDoor.P
open Go.RowKit Go.Proofs.YtehjfaddhmdicaaGreatDoorW.PrintWords Go.Proofs.YtehjfaddhmdicaaGreatDoorW.PrintLast Go.Proofs.YtehjfaddhmdicaaGreatDoorW.PrintMore
attribute [local go_sem] max2_int min2_int max_two min_two max_three min_three max_four min_four   -- for this text's walks alone
set_option linter.unusedVariables false
set_option linter.unusedSimpArgs false

def setI (l:List Nat):List Int:=l.map fun n:Nat => (n:Int)
def WithInv (Bl Bq Bt Bo base:Nat) (A:Option Addr) (c:Nat) (L:List S100) (sq:Int) (td:Bool) (p:Nat → Bool) (acc:List Nat) (O:Nat → Prop) (W:World):Prop :=
 ∃ v,W.cell? ⟨Bo,0,none⟩ = some v ∧ W.frozen? ⟨Bo,0,none⟩ = false ∧ W.cell? ⟨Bl,0,none⟩ = some (.slice A L.length c) ∧ W.cell? ⟨Bq,0,none⟩ = some (.int .i64 sq) ∧ W.cell? ⟨Bt,0,none⟩ = some (.bool td) ∧
  Kd.R k100 100 W base (fun k => some k = (Value.slice A L.length c).ownBlock) (.slice A L.length c) L ∧
  Kd.R (Kd.int .u64) 72 W base (fun k => k ≠ Bo ∧ k ≠ Bl ∧ k ≠ Bq ∧ k ≠ Bt ∧ some k ≠ (Value.slice A L.length c).ownBlock) v (setI (acc.filter p)) ∧
  ∀ k,O k ↔ (k = Bo ∨ k = Bl ∨ k = Bq ∨ k = Bt ∨ some k = (Value.slice A L.length c).ownBlock) ∨ some k = v.ownBlock
theorem WithInv.move {Bl Bq Bt Bo base:Nat} {A:Option Addr} {c:Nat} {L:List S100} {sq:Int} {td:Bool} {p:Nat → Bool} {acc:List Nat} {O:Nat → Prop} {W W':World} (hI:WithInv Bl Bq Bt Bo base A c L sq td p acc O W) (hk:∀ k,O k → W'.heap[k]? = W.heap[k]?):WithInv Bl Bq Bt Bo base A c L sq td p acc O W':=by
 obtain ⟨v,co,fo,cl,cq,ct,hL,hR,hO⟩:=hI
 have ho:=hk Bo ((hO Bo).2 (.inl (.inl rfl)))
 have hl:=hk Bl ((hO Bl).2 (.inl (.inr (.inl rfl))))
 have hq:=hk Bq ((hO Bq).2 (.inl (.inr (.inr (.inl rfl)))))
 have ht:=hk Bt ((hO Bt).2 (.inl (.inr (.inr (.inr (.inl rfl))))))
 exact ⟨v,(World.cell?_of_block (w:=W) (a:=⟨Bo,0,none⟩) ho).trans co,(World.frozen?_of_block (w:=W) (a:=⟨Bo,0,none⟩) ho).trans fo,(World.cell?_of_block (w:=W) (a:=⟨Bl,0,none⟩) hl).trans cl,(World.cell?_of_block (w:=W) (a:=⟨Bq,0,none⟩) hq).trans cq,(World.cell?_of_block (w:=W) (a:=⟨Bt,0,none⟩) ht).trans ct,
  Kd.R_move hL (fun k h => hk k ((hO k).2 (.inl (.inr (.inr (.inr (.inr h))))))),Kd.R_mono (Kd.R_move (Kd.R_tight rfl hR) (fun k h => hk k ((hO k).2 (.inr h)))) (fun k h => hR.1 k h.symm),hO⟩
theorem WithInv.lt {Bl Bq Bt Bo base:Nat} {A:Option Addr} {c:Nat} {L:List S100} {sq:Int} {td:Bool} {p:Nat → Bool} {acc:List Nat} {O:Nat → Prop} {W:World} (hI:WithInv Bl Bq Bt Bo base A c L sq td p acc O W) (k:Nat) (hk:O k):k < W.heap.size:=by
 obtain ⟨v,co,fo,cl,cq,ct,hL,hR,hO⟩:=hI
 rcases (hO k).1 hk with (rfl | rfl | rfl | rfl | h) | h
 ·exact wl_ W _ co
 ·exact wl_ W _ cl
 ·exact wl_ W _ cq
 ·exact wl_ W _ ct
 ·exact Kd.R_lt hL k h.symm
 ·exact Kd.R_lt hR k h.symm
theorem WithInv.skip {Bl Bq Bt Bo base:Nat} {A:Option Addr} {c:Nat} {L:List S100} {sq:Int} {td:Bool} {p:Nat → Bool} {acc:List Nat} {O:Nat → Prop} {W W':World} {x:Nat} (hI:WithInv Bl Bq Bt Bo base A c L sq td p acc O W) (hx:p x = false) (hB:Below W.heap.size W W'):WithInv Bl Bq Bt Bo base A c L sq td p (acc ++ [x]) O W':=by
 have h:=hI.move (W':=W') (fun k hk => hB.block k (hI.lt k hk))
 unfold WithInv at h ⊢
 rw [List.filter_append,List.filter_cons_of_neg (by rw [hx]; simp),List.filter_nil,List.append_nil]
 exact h
attribute [local go_sem] undef in
set_option maxRecDepth 100000 in
set_option maxHeartbeats 8000000 in
theorem withLit_no (Bl Bq Bt Bo base:Nat) (A:Option Addr) (c:Nat) (L:List S100) (sq:Int) (td:Bool) (p:Nat → Bool) (K:Nat) (x:Nat) (cn nd:Int) (hcn:impl_countOf.f K L (x:Int) = some cn) (hnd:impl_needless.f K L (x:Int) = some nd) (hp:p x = (decide (cn = sq) && (!td || decide (nd = 0)))) (hno:p x = false)
  (acc:List Nat) (O:Nat → Prop) (W:World) (hI:WithInv Bl Bq Bt Bo base A c L sq td p acc O W) :
  Calls Tryz.prog 60 #[.int .u64 (x:Int),.pointer (some ⟨Bl,0,none⟩),.pointer (some ⟨Bq,0,none⟩),.pointer (some ⟨Bt,0,none⟩),.pointer (some ⟨Bo,0,none⟩)] W fun e w' => e = .returned (.tuple #[]) ∧ ∃ O',WithInv Bl Bq Bt Bo base A c L sq td p (acc ++ [x]) O' w' ∧ FrameBut O W w' ∧ ∀ k,O' k → O k ∨ W.heap.size ≤ k:=by
 have HEnd:Aside0 (∀ w',Below W.heap.size W w' → ∃ O',WithInv Bl Bq Bt Bo base A c L sq td p (acc ++ [x]) O' w' ∧ FrameBut O W w' ∧ ∀ k,O' k → O k ∨ W.heap.size ≤ k):=⟨fun w' h => ⟨O,hI.skip hno h,FrameBut.of_below h,fun k hk => .inl hk⟩⟩
 obtain ⟨v,co,fo,cl,cq,ct,hL,hR,hO⟩:=hI
 have HL:=am_ (Kd.R_reads' hL).2
 have HC:=am_ hcn
 have HN:=am_ hnd
 rw [hp] at hno
 clear hL hR hO hcn hnd hp co fo
 have hB0:=am_ (below_drew (Below.refl W.heap.size W))
 by_cases h1:cn = sq
 ·have h1b:(cn == sq) = true:=beq_iff_eq.2 h1
  rw [decide_eq_true h1,Bool.true_and] at hno
  cases td with
  | false => simp at hno
  | true =>
   have h2:nd ≠ 0:=by simpa using hno
   have h2b:(nd == 0) = false:=by rw [beq_eq_false_iff_ne]; exact h2
   clear hno h1 h2
   go_enter Tryz.func60,Tryz.ntmps60
   go_wp2_with fail
   go_region_held3 (fun w' => w'.cell? ⟨Bl,0,none⟩ = some (.slice A L.length c) ∧ w'.cell? ⟨Bq,0,none⟩ = some (.int .i64 sq) ∧ w'.cell? ⟨Bt,0,none⟩ = some (.bool true) ∧ Below W.heap.size W w')
    (first | exact ⟨cl,cq,ct,hB0.out⟩ | (go_split_ands; exact ⟨pw_cell_below hbx (by assumption),pw_cell_below hbx (by assumption),pw_cell_below hbx (by assumption),below_step (by assumption) hbx⟩))
    ((first
     | (go_at_call 61; go_split_ands; refine (impl_countOf.calls K A c L _ cn _ (Kd.C_below HL.out.2 (by assumption)) HL.out.1 HC.out).mono ?_; rintro e wx ⟨rfl,hbx⟩)
     | (go_at_call 62; go_split_ands; refine (impl_needless.calls K A c L _ nd _ (Kd.C_below HL.out.2 (by assumption)) HL.out.1 HN.out).mono ?_; rintro e wx ⟨rfl,hbx⟩)))
   all_goals
    go_split_ands
    have HE:=am_ (HEnd.out _ (by assumption))
    go_wp2
    exact bodyPost_end (v:=.tuple #[]) (by simp [results,Tryz.results60,go_sem]) rfl ⟨rfl,HE.out⟩
 ·have h1b:(cn == sq) = false:=by rw [beq_eq_false_iff_ne]; exact h1
  clear hno h1
  go_enter Tryz.func60,Tryz.ntmps60
  go_wp2_with fail
  first | go_region_law (go_simp; go_at_call 61; refine (impl_countOf.calls K A c L _ cn _ (Kd.C_below HL.out.2 hB0.out) HL.out.1 HC.out).mono ?_; rintro e wx ⟨rfl,hbx⟩; have cqx:=pw_cell_below hbx cq; have clx:=pw_cell_below hbx cl) | fail
  all_goals
   have HE:=am_ (HEnd.out _ (below_step hB0.out hbx))
   go_wp2
   exact bodyPost_end (v:=.tuple #[]) (by simp [results,Tryz.results60,go_sem]) rfl ⟨rfl,HE.out⟩
attribute [local go_sem] undef in
set_option maxRecDepth 100000 in
set_option maxHeartbeats 8000000 in
theorem withLit_yes (Bl Bq Bt Bo base:Nat) (hbase:base ≤ Bo) (A:Option Addr) (c:Nat) (L:List S100) (hne:Bl ≠ Bo ∧ Bq ≠ Bo ∧ Bt ≠ Bo ∧ some Bo ≠ (Value.slice A L.length c).ownBlock) (sq:Int) (td:Bool) (p:Nat → Bool) (K:Nat) (x:Nat) (cn nd:Int) (hcn:impl_countOf.f K L (x:Int) = some cn) (hnd:impl_needless.f K L (x:Int) = some nd) (hp:p x = (decide (cn = sq) && (!td || decide (nd = 0)))) (hyes:p x = true)
  (acc:List Nat) (O:Nat → Prop) (W:World) (hlen:acc.length < 64 ^ 4) (hI:WithInv Bl Bq Bt Bo base A c L sq td p acc O W) :
  Calls Tryz.prog 60 #[.int .u64 (x:Int),.pointer (some ⟨Bl,0,none⟩),.pointer (some ⟨Bq,0,none⟩),.pointer (some ⟨Bt,0,none⟩),.pointer (some ⟨Bo,0,none⟩)] W fun e w' => e = .returned (.tuple #[]) ∧ ∃ O',WithInv Bl Bq Bt Bo base A c L sq td p (acc ++ [x]) O' w' ∧ FrameBut O W w' ∧ ∀ k,O' k → O k ∨ W.heap.size ≤ k:=by
 obtain ⟨v,co,fo,cl,cq,ct,hL,hR,hO⟩:=hI
 have bo:Bo < W.heap.size:=wl_ W _ co
 have bl:Bl < W.heap.size:=wl_ W _ cl
 have bq:Bq < W.heap.size:=wl_ W _ cq
 have bt:Bt < W.heap.size:=wl_ W _ ct
 obtain ⟨A1,d1,rfl⟩:=Kd.R_slice hR
 have hfl:(setI (acc.filter p)).length < 64 ^ 4:=by
  unfold setI
  rw [List.length_map]
  exact Nat.lt_of_le_of_lt (List.length_filter_le _ _) hlen
 have hacc:setI ((acc ++ [x]).filter p) = setI (acc.filter p) ++ [(x:Int)]:=by
  unfold setI
  rw [List.filter_append,List.filter_cons_of_pos hyes,List.filter_nil,List.map_append]
  rfl
 have hlo:Bl ≠ Bo:=hne.1
 have hqo:Bq ≠ Bo:=hne.2.1
 have hto:Bt ≠ Bo:=hne.2.2.1
 have hLo:∀ k,some k = (Value.slice A L.length c).ownBlock → k ≠ Bo:=fun k h e => hne.2.2.2 (e ▸ h)
 have HL:=am_ (Kd.R_reads' hL).2
 have HC:=am_ hcn
 have HN:=am_ hnd
 rw [hp] at hyes
 -- how the append ends
 have HEnd:Aside0 (∀ (wz w1:World) (A2:Option Addr) (d2 n2:Nat),Below W.heap.size W wz → n2 = (setI (acc.filter p) ++ [(x:Int)]).length → Kd.R (Kd.int .u64) 72 w1 base (fun k => k ≠ Bo ∧ k ≠ Bl ∧ k ≠ Bq ∧ k ≠ Bt ∧ some k ≠ (Value.slice A L.length c).ownBlock) (.slice A2 n2 d2) (setI (acc.filter p) ++ [(x:Int)]) →
   (wz.alloc (.cells #[.int .u64 (x:Int)] 72)).grownBy w1 (Value.slice A1 (setI (acc.filter p)).length d1).ownBlock → ((Value.slice A2 n2 d2).ownBlock = (Value.slice A1 (setI (acc.filter p)).length d1).ownBlock ∨ ∃ b,(Value.slice A2 n2 d2).ownBlock = some b ∧ (wz.alloc (.cells #[.int .u64 (x:Int)] 72)).heap.size ≤ b) →
   ∃ O',WithInv Bl Bq Bt Bo base A c L sq td p (acc ++ [x]) O' (w1.setCell ⟨Bo,0,none⟩ (.slice A2 n2 d2)) ∧ FrameBut O W (w1.setCell ⟨Bo,0,none⟩ (.slice A2 n2 d2)) ∧ ∀ k,O' k → O k ∨ W.heap.size ≤ k):=⟨fun wz w1 A2 d2 n2 hB hn2 hr hg hat => by
  have hz:=hB.size
  have kept:∀ k,k < W.heap.size → some k ≠ (Value.slice A1 (setI (acc.filter p)).length d1).ownBlock → w1.heap[k]? = W.heap[k]?:=fun k hk hne => (hg.block k (by simp; omega) hne).trans ((Below.heap_alloc _ _ _ (by omega)).trans (hB.block k hk))
  have own1:∀ k,some k = (Value.slice A1 (setI (acc.filter p)).length d1).ownBlock → k ≠ Bo ∧ k ≠ Bl ∧ k ≠ Bq ∧ k ≠ Bt ∧ some k ≠ (Value.slice A L.length c).ownBlock:=fun k hk => hR.1 k hk.symm
  have ho:=kept Bo bo (fun h => (own1 _ h).1 rfl)
  have hl:=kept Bl bl (fun h => (own1 _ h).2.1 rfl)
  have hq:=kept Bq bq (fun h => (own1 _ h).2.2.1 rfl)
  have ht:=kept Bt bt (fun h => (own1 _ h).2.2.2.1 rfl)
  have set1:∀ k,k ≠ Bo → (w1.setCell ⟨Bo,0,none⟩ (.slice A2 n2 d2)).heap[k]? = w1.heap[k]?:=fun k hk => Below.heap_setCell _ _ _ _ hk
  have cell1:∀ {b:Nat} {u:Value},b ≠ Bo → w1.cell? ⟨b,0,none⟩ = some u → (w1.setCell ⟨Bo,0,none⟩ (.slice A2 n2 d2)).cell? ⟨b,0,none⟩ = some u:=fun {b u} hb h => (World.cell?_of_block (w:=w1) (a:=⟨b,0,none⟩) (set1 b hb)).trans h
  refine ⟨fun k => (k = Bo ∨ k = Bl ∨ k = Bq ∨ k = Bt ∨ some k = (Value.slice A L.length c).ownBlock) ∨ some k = (Value.slice A2 n2 d2).ownBlock,⟨_,?_,?_,?_,?_,?_,?_,?_,fun k => Iff.rfl⟩,?_,fun k hk => ?_⟩
  ·apply World.cell?_setCell_same; exact (World.cell?_of_block (w:=W) (a:=⟨Bo,0,none⟩) ho).trans co
  ·rw [World.frozen?_setCell]; exact (World.frozen?_of_block (w:=W) (a:=⟨Bo,0,none⟩) ho).trans fo
  ·exact cell1 hlo ((World.cell?_of_block (w:=W) (a:=⟨Bl,0,none⟩) hl).trans cl)
  ·exact cell1 hqo ((World.cell?_of_block (w:=W) (a:=⟨Bq,0,none⟩) hq).trans cq)
  ·exact cell1 hto ((World.cell?_of_block (w:=W) (a:=⟨Bt,0,none⟩) ht).trans ct)
  ·exact Kd.R_move hL (fun k hk => (set1 k (fun h => hLo k hk h)).trans (kept k (Kd.R_lt hL k hk.symm) (fun h => (own1 k h).2.2.2.2 hk)))
  ·rw [hacc]; exact Kd.R_far (p:=⟨Bo,0,none⟩) hr (fun k hk => hk.1) _
  ·exact ((((FrameBut.of_below (O:=O) hB).alloc _).grown hg (fun k hk => .inl ((hO k).2 (.inr hk.symm)))).setCell (.inl ((hO Bo).2 (.inl (.inl rfl)))) _)
  ·rcases hk with hk | hk
   ·exact .inl ((hO k).2 (.inl hk))
   ·rcases hat with h | ⟨b,h,hb⟩
    ·exact .inl ((hO k).2 (.inr (hk.trans h)))
    ·rw [h] at hk
     cases hk
     exact .inr (by simp at hb; omega)⟩
 have HNew:Aside0 (∀ (wz:World) (k:Nat),W.heap.size ≤ wz.heap.size → (wz.alloc (.cells #[.int .u64 (x:Int)] 72)).heap.size ≤ k → k ≠ Bo ∧ k ≠ Bl ∧ k ≠ Bq ∧ k ≠ Bt ∧ some k ≠ (Value.slice A L.length c).ownBlock):=⟨fun wz k h1 h2 => by
  simp at h2
  refine ⟨by omega,by omega,by omega,by omega,fun h => ?_⟩
  have:=Kd.R_lt hL k h.symm
  omega⟩
 have HR:=am_ hR
 have HFL:=am_ hfl
 have HBW:Aside0 (base ≤ W.heap.size):=⟨by omega⟩
 have hnv:some Bo ≠ (Value.slice A1 (setI (acc.filter p)).length d1).ownBlock:=fun h => (hR.1 Bo h.symm).1 rfl
 have hi5:(Tryz.prog.info? 72).map (fun i => (i.zero,i.size,i.bytes)) = some (some (.int .u64 0),1,8):=by kernel_rfl
 have hB0:=am_ (below_drew (Below.refl W.heap.size W))
 clear hL hR hO hcn hnd hp hacc hfl hlen hlo hqo hto hLo
 have h1:cn = sq:=by simp at hyes; exact hyes.1
 have h1b:(cn == sq) = true:=beq_iff_eq.2 h1
 rw [decide_eq_true h1,Bool.true_and] at hyes
 clear h1
 cases td with
 | false =>
  clear hyes
  go_enter Tryz.func60,Tryz.ntmps60
  go_wp2_with fail
  first | go_region_law (go_simp; go_at_call 61; refine (impl_countOf.calls K A c L _ cn _ (Kd.C_below HL.out.2 hB0.out) HL.out.1 HC.out).mono ?_; rintro e wx ⟨rfl,hbx⟩; have cqx:=pw_cell_below hbx cq; have ctx:=pw_cell_below hbx ct; have clx:=pw_cell_below hbx cl) | fail
  all_goals
   have cox:wx.cell? ⟨Bo,0,none⟩ = some (.slice A1 (setI (acc.filter p)).length d1):=pw_cell_below (below_step hB0.out hbx) co
   have fox:wx.frozen? ⟨Bo,0,none⟩ = false:=(((below_step hB0.out hbx)).frozen (p:=⟨Bo,0,none⟩) bo).trans fo
   have HBz:Aside0 (Below W.heap.size W wx):=⟨(below_step hB0.out hbx)⟩
   have HRz:=am_ (Kd.R_below HR.out HBz.out)
   have bz:Bo < wx.heap.size:=by have:=HBz.out.size; omega
   have HBA:Aside0 (∀ o,Bo < (wx.alloc o).heap.size):=⟨fun o => by simp; omega⟩
   have HLT:Aside0 (Bo < wx.heap.size ∧ Bl < wx.heap.size ∧ Bq < wx.heap.size ∧ Bt < wx.heap.size ∧ W.heap.size ≤ wx.heap.size):=⟨by have:=HBz.out.size; omega⟩
   clear co fo cl cq ct
   go_wp2_with ((at_builtin; refine Kd.R_append_row (w0:=W) (h1:=fun _ => rfl) (Value.int .u64) (0:Int) base rfl _ _ _ _ _ 8 rfl Tryz.underlying59 hi5 rfl (by decide) (.slice A1 (setI (acc.filter p)).length d1) (setI (acc.filter p)) [(x:Int)] _ 1 _ (fun k => k ≠ Bo ∧ k ≠ Bl ∧ k ≠ Bq ∧ k ≠ Bt ∧ some k ≠ (Value.slice A L.length c).ownBlock) rfl rfl ?xF ?xA ?xB ?xC ?xD ?xE ?_; (case xF => exact fun k hk => HNew.out _ _ HLT.out.2.2.2.2 hk); (case xA => exact Kd.R_alloc HRz.out _); (case xB => exact lit1_C (Value.int .u64) (fun _ => rfl) 72 _ (x:Int)); (case xC => exact (below_alloc HBz.out _).mono HBW.out); (case xD => simp; omega); (case xE => have h_:=HFL.out; omega); intro v1 w1 ho hb hg hat; obtain ⟨A2,d2,rfl⟩:=Kd.R_slice ho; have cx:w1.cell? ⟨Bo,0,none⟩ = some (.slice A1 (setI (acc.filter p)).length d1):=YtehjfaddhmdicaaGreatDoorW.PrintWords.cell_grown hg ((World.cell?_alloc_lt _ _ _ bz).trans cox) hnv; have fx:w1.frozen? ⟨Bo,0,none⟩ = false:=(World.frozen?_of_block (a:=⟨Bo,0,none⟩) (hg.block Bo (HBA.out _) hnv)).trans ((World.frozen?_of_block (w:=wx) (a:=⟨Bo,0,none⟩) (Below.heap_alloc _ _ _ bz)).trans fox); have HE:=am_ (HEnd.out _ _ A2 d2 _ HBz.out rfl ho hg hat); clear ho hb hg hat))
   rw [List.length_append] at HE
   exact bodyPost_end (v:=.tuple #[]) (by simp [results,Tryz.results60,go_sem]) rfl ⟨rfl,HE.out⟩
 | true =>
  have h2:nd = 0:=by simpa using hyes
  have h2b:(nd == 0) = true:=beq_iff_eq.2 h2
  clear hyes h2
  go_enter Tryz.func60,Tryz.ntmps60
  go_wp2_with fail
  first | go_region_law (first
   | (go_simp; go_at_call 61; refine (impl_countOf.calls K A c L _ cn _ (Kd.C_below HL.out.2 hB0.out) HL.out.1 HC.out).mono ?_; rintro e wx ⟨rfl,hbx⟩; have cqx:=pw_cell_below hbx cq; have ctx:=pw_cell_below hbx ct; have clx:=pw_cell_below hbx cl)
   | (go_simp; go_at_call 62; refine (impl_needless.calls K A c L _ nd _ (Kd.C_below HL.out.2 (below_step hB0.out hbx)) HL.out.1 HN.out).mono ?_; rintro e wy ⟨rfl,hby⟩; have cqy:=pw_cell_below hby cqx; have cty:=pw_cell_below hby ctx; have cly:=pw_cell_below hby clx)) | fail
  all_goals
   have cox:wy.cell? ⟨Bo,0,none⟩ = some (.slice A1 (setI (acc.filter p)).length d1):=pw_cell_below (below_step (below_step hB0.out hbx) hby) co
   have fox:wy.frozen? ⟨Bo,0,none⟩ = false:=(((below_step (below_step hB0.out hbx) hby)).frozen (p:=⟨Bo,0,none⟩) bo).trans fo
   have HBz:Aside0 (Below W.heap.size W wy):=⟨(below_step (below_step hB0.out hbx) hby)⟩
   have HRz:=am_ (Kd.R_below HR.out HBz.out)
   have bz:Bo < wy.heap.size:=by have:=HBz.out.size; omega
   have HBA:Aside0 (∀ o,Bo < (wy.alloc o).heap.size):=⟨fun o => by simp; omega⟩
   have HLT:Aside0 (Bo < wy.heap.size ∧ Bl < wy.heap.size ∧ Bq < wy.heap.size ∧ Bt < wy.heap.size ∧ W.heap.size ≤ wy.heap.size):=⟨by have:=HBz.out.size; omega⟩
   clear co fo cl cq ct
   go_wp2_with ((at_builtin; refine Kd.R_append_row (w0:=W) (h1:=fun _ => rfl) (Value.int .u64) (0:Int) base rfl _ _ _ _ _ 8 rfl Tryz.underlying59 hi5 rfl (by decide) (.slice A1 (setI (acc.filter p)).length d1) (setI (acc.filter p)) [(x:Int)] _ 1 _ (fun k => k ≠ Bo ∧ k ≠ Bl ∧ k ≠ Bq ∧ k ≠ Bt ∧ some k ≠ (Value.slice A L.length c).ownBlock) rfl rfl ?xF ?xA ?xB ?xC ?xD ?xE ?_; (case xF => exact fun k hk => HNew.out _ _ HLT.out.2.2.2.2 hk); (case xA => exact Kd.R_alloc HRz.out _); (case xB => exact lit1_C (Value.int .u64) (fun _ => rfl) 72 _ (x:Int)); (case xC => exact (below_alloc HBz.out _).mono HBW.out); (case xD => simp; omega); (case xE => have h_:=HFL.out; omega); intro v1 w1 ho hb hg hat; obtain ⟨A2,d2,rfl⟩:=Kd.R_slice ho; have cx:w1.cell? ⟨Bo,0,none⟩ = some (.slice A1 (setI (acc.filter p)).length d1):=YtehjfaddhmdicaaGreatDoorW.PrintWords.cell_grown hg ((World.cell?_alloc_lt _ _ _ bz).trans cox) hnv; have fx:w1.frozen? ⟨Bo,0,none⟩ = false:=(World.frozen?_of_block (a:=⟨Bo,0,none⟩) (hg.block Bo (HBA.out _) hnv)).trans ((World.frozen?_of_block (w:=wy) (a:=⟨Bo,0,none⟩) (Below.heap_alloc _ _ _ bz)).trans fox); have HE:=am_ (HEnd.out _ _ A2 d2 _ HBz.out rfl ho hg hat); clear ho hb hg hat))
   rw [List.length_append] at HE
   exact bodyPost_end (v:=.tuple #[]) (by simp [results,Tryz.results60,go_sem]) rfl ⟨rfl,HE.out⟩
def withP (cnt nd:Nat → Int) (sq:Int) (td:Bool) (s:Nat):Bool:=decide (cnt s = sq) && (!td || decide (nd s = 0))
theorem withCB (Bl Bq Bt Bo base:Nat) (hbase:base ≤ Bo) (A:Option Addr) (c:Nat) (L:List S100) (hne:Bl ≠ Bo ∧ Bq ≠ Bo ∧ Bt ≠ Bo ∧ some Bo ≠ (Value.slice A L.length c).ownBlock) (sq:Int) (td:Bool) (K:Nat) (cnt nd:Nat → Int) (hcn:∀ x,x < 2 ^ 60 → impl_countOf.f K L ((x:Nat):Int) = some (cnt x)) (hnd:∀ x,x < 2 ^ 60 → impl_needless.f K L ((x:Nat):Int) = some (nd x)) :
  CB Tryz.prog 60 #[.pointer (some ⟨Bl,0,none⟩),.pointer (some ⟨Bq,0,none⟩),.pointer (some ⟨Bt,0,none⟩),.pointer (some ⟨Bo,0,none⟩)] en64 (fun n => n < 2 ^ 60) (64 ^ 4) (WithInv Bl Bq Bt Bo base A c L sq td (withP cnt nd sq td)) where
 call:=fun acc O W x hlen hx hI => by
  cases hp:withP cnt nd sq td x with
  | false => exact withLit_no Bl Bq Bt Bo base A c L sq td _ K x (cnt x) (nd x) (hcn x hx) (hnd x hx) rfl hp acc O W hI
  | true => exact withLit_yes Bl Bq Bt Bo base hbase A c L hne sq td _ K x (cnt x) (nd x) (hcn x hx) (hnd x hx) rfl hp acc O W hlen hI
 move:=fun acc O W W' hI hz ho ht hu hk => hI.move hk
 lt:=fun acc O W hI k hk => hI.lt k hk
theorem cell_new {w:World} {c:Array Value} {t:TypeId} {n i:Nat} {v:Value} (hn:n = w.heap.size) (hv:c[i]? = some v):(w.alloc (.cells c t)).cell? ⟨n,i,none⟩ = some v:=(World.cell?_alloc_at (w:=w) c t n i hn).trans hv
theorem frozen_new {w:World} {c:Array Value} {t:TypeId} {n i:Nat} (hn:n = w.heap.size):(w.alloc (.cells c t)).frozen? ⟨n,i,none⟩ = false:=by subst hn; go_simp
set_option maxRecDepth 100000 in
set_option maxHeartbeats 8000000 in
theorem with_any (K:Nat) (fW fH:Int) (A2 A3:Option Addr) (c2 c3:Nat) (l2 l3:List Int) (mt s al:Nat) (mv:Bool) (sq:Int) (td:Bool) (L:List S100) (cnt nd:Nat → Int) (w:World)
  (hr2:Kd.C (Kd.int .i64) w A2 l2.length l2) (hc2:l2.length ≤ c2) (hr3:Kd.C (Kd.int .i64) w A3 l3.length l3) (hc3:l3.length ≤ c3) (hT:TB w) (hm:mt ≤ if mv then 2 else 4) (hs:s < 2 ^ 60) (hal:al < 2 ^ 60) (hset:impl_Figure_set.f K fW fH l2 l3 = some (s:Int)) (ha:impl_grid_all.f fW fH = some (al:Int)) (hsq:impl_grid_squares.f K fW fH = some L)
  (hcn:∀ x,x < 2 ^ 60 → impl_countOf.f K L ((x:Nat):Int) = some (cnt x)) (hnd:∀ x,x < 2 ^ 60 → impl_needless.f K L ((x:Nat):Int) = some (nd x)) :
  Calls Tryz.prog 43 #[.agg #[.int .i64 fW,.int .i64 fH,.slice A2 l2.length c2,.slice A3 l3.length c3,.int .i64 (mt:Int),.bool mv],.int .i64 sq,.bool td] w fun e w' => ∃ v,e = .returned v ∧ Kd.R (Kd.int .u64) 72 w' w.heap.size (fun _ => True) v (setI ((waysW mv mt al s).filter (withP cnt nd sq td))) ∧ Below w.heap.size w w':=by
 have hmf:∀ (fn:Fn) (first cap:Array Value) (w:World),(Instr.makeFunc fn first cap).run Tryz.prog w = .ok (.func fn first cap) w:=fun _ _ _ _ => rfl
 have eg:∀ args w,(callFunc 60 args).run Tryz.prog w = .ok (.enter 60 args) w:=enters_of Tryz.func60 (by kernel_rfl) rfl
 have HE:Aside0 (∀ (W:World) (Bl Bq Bt Bo:Nat) (A:Option Addr) (c:Nat) (v:Value),Below w.heap.size w W → w.heap.size ≤ Bl → w.heap.size ≤ Bq → w.heap.size ≤ Bt → w.heap.size ≤ Bo → (Bl ≠ Bo ∧ Bq ≠ Bo ∧ Bt ≠ Bo ∧ some Bo ≠ (Value.slice A L.length c).ownBlock) → W.cell? ⟨Bo,0,none⟩ = some v → W.frozen? ⟨Bo,0,none⟩ = false → W.cell? ⟨Bl,0,none⟩ = some (.slice A L.length c) → W.cell? ⟨Bq,0,none⟩ = some (.int .i64 sq) → W.cell? ⟨Bt,0,none⟩ = some (.bool td) →
   Kd.R k100 100 W w.heap.size (fun _ => True) (.slice A L.length c) L → Kd.R (Kd.int .u64) 72 W w.heap.size (fun k => k ≠ Bo ∧ k ≠ Bl ∧ k ≠ Bq ∧ k ≠ Bt ∧ some k ≠ (Value.slice A L.length c).ownBlock) v [] →
   Calls Tryz.prog 59 #[.agg #[.int .i64 fW,.int .i64 fH,.slice A2 l2.length c2,.slice A3 l3.length c3,.int .i64 (mt:Int),.bool mv],.func (.func 60) #[] #[.pointer (some ⟨Bl,0,none⟩),.pointer (some ⟨Bq,0,none⟩),.pointer (some ⟨Bt,0,none⟩),.pointer (some ⟨Bo,0,none⟩)]] W
    fun e w' => e = .returned (.tuple #[]) ∧ ∃ v',w'.cell? ⟨Bo,0,none⟩ = some v' ∧ Kd.R (Kd.int .u64) 72 w' w.heap.size (fun _ => True) v' (setI ((waysW mv mt al s).filter (withP cnt nd sq td))) ∧ Below w.heap.size w w'):=⟨fun W Bl Bq Bt Bo A c v hW h1 h2 h3 h4 hne co fo cl cq ct hL hR => by
  refine (each_any _ _ _ (withCB Bl Bq Bt Bo w.heap.size h4 A c L hne sq td K cnt nd hcn hnd) eg K fW fH A2 A3 c2 c3 l2 l3 mt s al mv w (fun k => (k = Bo ∨ k = Bl ∨ k = Bq ∨ k = Bt ∨ some k = (Value.slice A L.length c).ownBlock) ∨ some k = v.ownBlock) W hr2 hc2 hr3 hc3 hT hm hs hal hset ha hW (fun k hk => ?_)
   ⟨v,co,fo,cl,cq,ct,Kd.R_tight rfl hL,by simpa [setI] using hR,fun k => Iff.rfl⟩).mono ?_
  ·rcases hk with (rfl | rfl | rfl | rfl | h) | h
   ·exact h4
   ·exact h1
   ·exact h2
   ·exact h3
   ·exact Kd.R_base hL k h.symm
   ·exact Kd.R_base hR k h.symm
  ·rintro e w9 ⟨rfl,O',⟨v',co9,_,_,_,_,_,hR9,_⟩,hF,hO'⟩
   refine ⟨rfl,v',co9,by rw [List.nil_append] at hR9; exact Kd.R_mono hR9 (fun _ _ => trivial),hW.trans (hF.toBelow hW.size (fun k hk h => ?_))⟩
   rcases h with (rfl | rfl | rfl | rfl | h) | h
   ·omega
   ·omega
   ·omega
   ·omega
   ·have:=Kd.R_base hL k h.symm; omega
   ·have:=Kd.R_base hR k h.symm; omega⟩
 have HR2:=am_ hr2
 have HR3:=am_ hr3
 have HQ2:=am_ hc2
 have HQ3:=am_ hc3
 have HS:=am_ hsq
 clear hr2 hr3 hc2 hc3 hT hm hs hal hset ha hsq hcn hnd eg
 generalize setI ((waysW mv mt al s).filter (withP cnt nd sq td)) = R at HE ⊢
 go_enter Tryz.func43,Tryz.ntmps43
 go_wp2_with fail
 go_at_call 41
 refine (impl_Figure_grid.calls fW fH A2 c2 l2 A3 c3 l3 fW fH _ (Kd.C_alloc (Kd.C_alloc (Kd.C_alloc HR2.out _) _) _) HQ2.out (Kd.C_alloc (Kd.C_alloc (Kd.C_alloc HR3.out _) _) _) HQ3.out rfl).mono ?_
 rintro e w1 ⟨rfl,hb⟩
 have Q0:w1.heap[w.heap.size]? = some (.cells #[.int .i64 fW,.int .i64 fH,.slice A2 l2.length c2,.slice A3 l3.length c3,.int .i64 (mt:Int),.bool mv] 42 (0,0)):=blk_keep (blk_alloc (blk_alloc (heap_alloc_new w _) _) _) hb
 have cq:w1.cell? ⟨w.heap.size + 1,0,none⟩ = some (.int .i64 sq):=pw_cell_below hb (pw_cell_below (below_alloc (Below.refl _ _) _) (cell_new (by simp) rfl))
 have ct:w1.cell? ⟨w.heap.size + 1 + 1,0,none⟩ = some (.bool td):=pw_cell_below hb (cell_new (by simp) rfl)
 have hz1:w.heap.size + 1 + 1 < w1.heap.size:=by have h_:=hb.size; simp at h_; omega
 have HB:=am_ (below_step (below_alloc (below_alloc (below_alloc (Below.refl w.heap.size w) _) _) _) hb)
 clear hb
 go_wp2_with fail
 go_at_call 58
 refine (impl_grid_squares.calls K fW fH L _ HS.out).mono ?_
 rintro e w2 ⟨v2,rfl,hr,hb⟩
 obtain ⟨A,c,rfl⟩:=Kd.R_slice hr
 have Q2:w2.heap[w.heap.size]? = some (.cells #[.int .i64 fW,.int .i64 fH,.slice A2 l2.length c2,.slice A3 l3.length c3,.int .i64 (mt:Int),.bool mv] 42 (0,0)):=blk_keep Q0 hb
 have hz2:w1.heap.size ≤ w2.heap.size:=hb.size
 have cq2:=pw_cell_below hb cq
 have ct2:=pw_cell_below hb ct
 have HL:=am_ (Kd.R_lower hr (show w.heap.size ≤ w1.heap.size by omega))
 have HB2:=am_ (below_step HB.out hb)
 have HQ:=am_ Q2
 clear hr hb Q0 cq ct HB
 have p0:w2.cell? ⟨w.heap.size,0,none⟩ = some (.int .i64 fW):=(bc_ Q2 0).trans rfl
 have p1:w2.cell? ⟨w.heap.size,1,none⟩ = some (.int .i64 fH):=(bc_ Q2 1).trans rfl
 have p2:w2.cell? ⟨w.heap.size,2,none⟩ = some (.slice A2 l2.length c2):=(bc_ Q2 2).trans rfl
 have p3:w2.cell? ⟨w.heap.size,3,none⟩ = some (.slice A3 l3.length c3):=(bc_ Q2 3).trans rfl
 have p4:w2.cell? ⟨w.heap.size,4,none⟩ = some (.int .i64 (mt:Int)):=(bc_ Q2 4).trans rfl
 have p5:w2.cell? ⟨w.heap.size,5,none⟩ = some (.bool mv):=(bc_ Q2 5).trans rfl
 have hz3:w.heap.size < w2.heap.size:=by omega
 have hz4:w.heap.size < w2.heap.size + 1:=by omega
 have hz5:w.heap.size < w2.heap.size + 1 + 1:=by omega
 clear Q2
 go_wp2_with fail
 go_at_call 59
 refine (HE.out _ (w2.heap.size + 1) (w.heap.size + 1) (w.heap.size + 1 + 1) (w2.heap.size + 1 + 1) A c (.slice (some ⟨w2.heap.size,0,none⟩) 0 0) ?xB (by omega) (by omega) (by omega) (by omega) ⟨by omega,by omega,by omega,fun h => ?xN⟩ ?xo ?xf ?xl ?xq ?xt ?xL ?xR).mono ?_
 ·exact below_alloc (below_alloc (below_alloc HB2.out _) _) _
 ·have:=Kd.R_lt HL.out _ h.symm; omega
 ·exact cell_new (by simp) rfl
 ·exact frozen_new (by simp)
 ·exact pw_cell_below (below_alloc (Below.refl _ _) _) (cell_new (by simp) rfl)
 ·exact pw_cell_below (below_alloc (below_alloc (below_alloc (Below.refl _ _) _) _) _) cq2
 ·exact pw_cell_below (below_alloc (below_alloc (below_alloc (Below.refl _ _) _) _) _) ct2
 ·exact Kd.R_alloc (Kd.R_alloc (Kd.R_alloc HL.out _) _) _
 ·refine Kd.R_mono (Kd.R_alloc (Kd.R_alloc (R_lit0 (Kd.int .u64) 72 w2 w.heap.size (by omega)) _) _) (fun k hk => ⟨by omega,by omega,by omega,by omega,fun h => ?_⟩)
  have:=Kd.R_lt HL.out _ h.symm
  omega
 rintro e w9 ⟨rfl,v',co9,hr9,hb9⟩
 have HR9:=am_ hr9
 have HB9:=am_ hb9
 clear hr9 hb9
 go_wp2_with fail
 go_ret
 exact ⟨_,rfl,HR9.out,HB9.out⟩

end Go.Proofs.YtehjfaddhmdicaaGreatDoor.P
namespace Go.Proofs.YtehjfaddhmdicaaGreatDoor.P
open Go.RowKit Go.Proofs.YtehjfaddhmdicaaGreatDoorW.PrintWords Go.Proofs.YtehjfaddhmdicaaGreatDoorW.PrintLast Go.Proofs.YtehjfaddhmdicaaGreatDoorW.PrintMore
attribute [local go_sem] max2_int min2_int max_two min_two max_three min_three max_four min_four   -- for this text's walks alone
set_option linter.unusedVariables false
set_option linter.unusedSimpArgs false

def impl_isFew.f (k:Nat) (a0_0:Int) (a0_1:Int) (l0_2:List Int) (l0_3:List Int):Option (Bool):=(impl_IsFigure.f k a0_0 a0_1 l0_2 l0_3).bind fun t286 => (if t286 = true then (some (decide ((wrap64 (a0_0 * a0_1)) ≤ 9))) else (some false))
theorem impl_isFew.mono:∀ a0 a1 a2 a3 k,LeO (impl_isFew.f k a0 a1 a2 a3) (impl_isFew.f (k + 1) a0 a1 a2 a3):=by
  intro a0 a1 a2 a3 k
  unfold impl_isFew.f
  repeat' first | (with_reducible first | exact impl_IsFigure.mono _ _ _ _ _ | exact LeO.refl _ | exact LeO.none _ | refine LeO.ite ?_ ?_ | refine LeO.bind ?_ (fun _ => ?_)) | exact impl_IsFigure.mono _ _ _ _ _
set_option maxHeartbeats 8000000 in
set_option maxRecDepth 100000 in
theorem impl_isFew.calls (k:Nat) (a0_0:Int) (a0_1:Int) (A0_2:Option Addr) (c0_2:Nat) (l0_2:List Int) (A0_3:Option Addr) (c0_3:Nat) (l0_3:List Int) (r:Bool) (w:World) (hr0_2:Kd.C (Kd.int .i64) w A0_2 l0_2.length l0_2) (hc0_2:l0_2.length ≤ c0_2) (hr0_3:Kd.C (Kd.int .i64) w A0_3 l0_3.length l0_3) (hc0_3:l0_3.length ≤ c0_3) (h:impl_isFew.f k a0_0 a0_1 l0_2 l0_3 = some r) :
    Calls Tryz.prog 70 #[.agg #[.int .i64 a0_0,.int .i64 a0_1,.slice A0_2 l0_2.length c0_2,.slice A0_3 l0_3.length c0_3]] w fun e w' => e = .returned (.bool r) ∧ Below w.heap.size w w':=by
  have hu26:=Tryz.underlying26
  have HR0_2:=am_ hr0_2
  have HC0_2:=am_ hc0_2
  clear hr0_2 hc0_2
  have HR0_3:=am_ hr0_3
  have HC0_3:=am_ hc0_3
  clear hr0_3 hc0_3
  have HB:=am_ (Below.refl w.heap.size w)
  have H:((impl_IsFigure.f k a0_0 a0_1 l0_2 l0_3).bind fun t286 => (if t286 = true then (some (decide ((wrap64 (a0_0 * a0_1)) ≤ 9))) else (some false))) = some r:=h
  clear h
  replace H:=bi_ H
  obtain ⟨t286,A20,H⟩:=H
  replace H:(if t286 = true then (some (decide ((wrap64 (a0_0 * a0_1)) ≤ 9))) else (some false)) = some r:=H
  have A2:=am_ A20
  clear A20
  by_cases c3:t286 = true
  · subst c3
    have H1:(some (decide ((wrap64 (a0_0 * a0_1)) ≤ 9))) = some r:=by rw [if_pos rfl] at H; exact H
    clear H
    have H:=H1
    clear H1
    obtain rfl:=Option.some.inj H
    go_enter Tryz.func70,Tryz.ntmps70
    go_wp2_with (first | ((with_reducible refine gate_dst (N:=1) rfl ?_); refine boxE_ (N:=1) (cs:=#[.int .i64 a0_0,.int .i64 a0_1,.slice A0_2 l0_2.length c0_2,.slice A0_3 l0_3.length c0_3]) (t:=26) ?_; intro gb285 hg w4 hbox hb; have n0_:=am_ (below_step (bl0_ HB.out) hb); have n1_:=am_ (hbox); have n2_:=am_ ((bs0_ hg HB.out:w.heap.size ≤ gb285)); have n3_:=am_ ((bs0_ hg HB.out:w.heap.size ≤ gb285)); clear HB; have HB:=n0_; have BK285:=n1_; have GW285:=n2_; have GE285:=n3_; clear n0_ n1_ n2_ n3_; clear hb hbox hg; have hcz5_0:w4.cell? ⟨gb285,0,none⟩ = some (.int .i64 a0_0):=(bc_ BK285.out 0).trans rfl; have hcz5_1:w4.cell? ⟨gb285,1,none⟩ = some (.int .i64 a0_1):=(bc_ BK285.out 1).trans rfl; have hcz5_2:w4.cell? ⟨gb285,2,none⟩ = some (.slice A0_2 l0_2.length c0_2):=(bc_ BK285.out 2).trans rfl; have hcz5_3:w4.cell? ⟨gb285,3,none⟩ = some (.slice A0_3 l0_3.length c0_3):=(bc_ BK285.out 3).trans rfl; have hfz5_0:=bz_ BK285.out 0; have hfz5_1:=bz_ BK285.out 1; have hfz5_2:=bz_ BK285.out 2; have hfz5_3:=bz_ BK285.out 3) | ((with_reducible refine gate_callee (f:=88) rfl ?_); refine goesL_ (some 4) rfl rfl Tryz.func88 (by kernel_rfl) rfl #[.agg #[.int .i64 a0_0,.int .i64 a0_1,.slice A0_2 l0_2.length c0_2,.slice A0_3 l0_3.length c0_3]] rfl ob_ ?_; (with_reducible refine (impl_IsFigure.calls k a0_0 a0_1 _ _ l0_2 _ _ l0_3 true _ ?side1 ?side2 ?side3 ?side4 A2.out).mono ?_); (case side1 => exact kc_ (Kd.C_below HR0_2.out HB.out)); (case side2 => exact HC0_2.out); (case side3 => exact kc_ (Kd.C_below HR0_3.out HB.out)); (case side4 => exact HC0_3.out); rintro e w6 ⟨rfl,hb⟩; refine ⟨_,rfl,?_⟩; have n0_:=am_ (bb_ BK285.out hb); have n1_:=am_ (below_step (bl1_ HB.out GE285.out) hb); clear BK285; clear HB; have BK285:=n0_; have HB:=n1_; clear n0_ n1_; (try clear hb); (try clear hb2); (try clear hk); (try clear hi); have hcz7_0:w6.cell? ⟨gb285,0,none⟩ = some (.int .i64 a0_0):=(bc_ BK285.out 0).trans rfl; have hcz7_1:w6.cell? ⟨gb285,1,none⟩ = some (.int .i64 a0_1):=(bc_ BK285.out 1).trans rfl; have hcz7_2:w6.cell? ⟨gb285,2,none⟩ = some (.slice A0_2 l0_2.length c0_2):=(bc_ BK285.out 2).trans rfl; have hcz7_3:w6.cell? ⟨gb285,3,none⟩ = some (.slice A0_3 l0_3.length c0_3):=(bc_ BK285.out 3).trans rfl; have hfz7_0:=bz_ BK285.out 0; have hfz7_1:=bz_ BK285.out 1; have hfz7_2:=bz_ BK285.out 2; have hfz7_3:=bz_ BK285.out 3))
    go_ret
    exact ⟨er_,bl1_ HB.out GE285.out⟩
  · replace c3:=Bool.eq_false_iff.mpr c3
    subst c3
    have H1:(some false) = some r:=by rw [if_neg (show ¬ (false = true) by decide)] at H; exact H
    clear H
    have H:=H1
    clear H1
    obtain rfl:=Option.some.inj H
    go_enter Tryz.func70,Tryz.ntmps70
    go_wp2_with (first | ((with_reducible refine gate_dst (N:=1) rfl ?_); refine boxE_ (N:=1) (cs:=#[.int .i64 a0_0,.int .i64 a0_1,.slice A0_2 l0_2.length c0_2,.slice A0_3 l0_3.length c0_3]) (t:=26) ?_; intro gb285 hg w8 hbox hb; have n0_:=am_ (below_step (bl0_ HB.out) hb); have n1_:=am_ (hbox); have n2_:=am_ ((bs0_ hg HB.out:w.heap.size ≤ gb285)); have n3_:=am_ ((bs0_ hg HB.out:w.heap.size ≤ gb285)); clear HB; have HB:=n0_; have BK285:=n1_; have GW285:=n2_; have GE285:=n3_; clear n0_ n1_ n2_ n3_; clear hb hbox hg; have hcz9_0:w8.cell? ⟨gb285,0,none⟩ = some (.int .i64 a0_0):=(bc_ BK285.out 0).trans rfl; have hcz9_1:w8.cell? ⟨gb285,1,none⟩ = some (.int .i64 a0_1):=(bc_ BK285.out 1).trans rfl; have hcz9_2:w8.cell? ⟨gb285,2,none⟩ = some (.slice A0_2 l0_2.length c0_2):=(bc_ BK285.out 2).trans rfl; have hcz9_3:w8.cell? ⟨gb285,3,none⟩ = some (.slice A0_3 l0_3.length c0_3):=(bc_ BK285.out 3).trans rfl; have hfz9_0:=bz_ BK285.out 0; have hfz9_1:=bz_ BK285.out 1; have hfz9_2:=bz_ BK285.out 2; have hfz9_3:=bz_ BK285.out 3) | ((with_reducible refine gate_callee (f:=88) rfl ?_); refine goesL_ (some 4) rfl rfl Tryz.func88 (by kernel_rfl) rfl #[.agg #[.int .i64 a0_0,.int .i64 a0_1,.slice A0_2 l0_2.length c0_2,.slice A0_3 l0_3.length c0_3]] rfl ob_ ?_; (with_reducible refine (impl_IsFigure.calls k a0_0 a0_1 _ _ l0_2 _ _ l0_3 false _ ?side1 ?side2 ?side3 ?side4 A2.out).mono ?_); (case side1 => exact kc_ (Kd.C_below HR0_2.out HB.out)); (case side2 => exact HC0_2.out); (case side3 => exact kc_ (Kd.C_below HR0_3.out HB.out)); (case side4 => exact HC0_3.out); rintro e w10 ⟨rfl,hb⟩; refine ⟨_,rfl,?_⟩; have n0_:=am_ (bb_ BK285.out hb); have n1_:=am_ (below_step (bl1_ HB.out GE285.out) hb); clear BK285; clear HB; have BK285:=n0_; have HB:=n1_; clear n0_ n1_; (try clear hb); (try clear hb2); (try clear hk); (try clear hi)))
    go_ret
    exact ⟨er_,bl1_ HB.out GE285.out⟩


def impl_way_isRight.f (k:Nat) (a0_0:Int) (a0_1:Int) (l0_2:List Int) (l0_3:List Int) (a0_4:Int) (a0_5:Bool):Option (Bool):=if a0_5 = true then ((impl_isFew.f k a0_0 a0_1 l0_2 l0_3).bind fun t288 => (if t288 = true then ((impl_within.f a0_4 0 2).bind fun t289 => (some t289)) else (some false))) else ((impl_isFew.f k a0_0 a0_1 l0_2 l0_3).bind fun t290 => (if t290 = true then ((impl_within.f a0_4 0 4).bind fun t291 => (some t291)) else (some false)))
theorem impl_way_isRight.mono:∀ a0 a1 a2 a3 a4 a5 k,LeO (impl_way_isRight.f k a0 a1 a2 a3 a4 a5) (impl_way_isRight.f (k + 1) a0 a1 a2 a3 a4 a5):=by
 intro a0 a1 a2 a3 a4 a5 k
 unfold impl_way_isRight.f
 repeat' first | (with_reducible first | exact impl_isFew.mono _ _ _ _ _ | exact LeO.refl _ | exact LeO.none _ | refine LeO.ite ?_ ?_ | refine LeO.bind ?_ (fun _ => ?_)) | exact impl_isFew.mono _ _ _ _ _
set_option maxHeartbeats 8000000 in
set_option maxRecDepth 100000 in
theorem impl_way_isRight.calls (k:Nat) (a0_0:Int) (a0_1:Int) (A0_2:Option Addr) (c0_2:Nat) (l0_2:List Int) (A0_3:Option Addr) (c0_3:Nat) (l0_3:List Int) (a0_4:Int) (a0_5:Bool) (r:Bool) (w:World) (hr0_2:Kd.C (Kd.int .i64) w A0_2 l0_2.length l0_2) (hc0_2:l0_2.length ≤ c0_2) (hr0_3:Kd.C (Kd.int .i64) w A0_3 l0_3.length l0_3) (hc0_3:l0_3.length ≤ c0_3) (h:impl_way_isRight.f k a0_0 a0_1 l0_2 l0_3 a0_4 a0_5 = some r) :
  Calls Tryz.prog 53 #[.agg #[.int .i64 a0_0,.int .i64 a0_1,.slice A0_2 l0_2.length c0_2,.slice A0_3 l0_3.length c0_3,.int .i64 a0_4,.bool a0_5]] w fun e w' => e = .returned (.bool r) ∧ Below w.heap.size w w':=by
 have hu42:=Tryz.underlying42
 have hu26:=Tryz.underlying26
 have HR0_2:=am_ hr0_2
 have HC0_2:=am_ hc0_2
 clear hr0_2 hc0_2
 have HR0_3:=am_ hr0_3
 have HC0_3:=am_ hc0_3
 clear hr0_3 hc0_3
 have HB:=am_ (Below.refl w.heap.size w)
 have H:(if a0_5 = true then ((impl_isFew.f k a0_0 a0_1 l0_2 l0_3).bind fun t288 => (if t288 = true then ((impl_within.f a0_4 0 2).bind fun t289 => (some t289)) else (some false))) else ((impl_isFew.f k a0_0 a0_1 l0_2 l0_3).bind fun t290 => (if t290 = true then ((impl_within.f a0_4 0 4).bind fun t291 => (some t291)) else (some false)))) = some r:=h
 clear h
 by_cases c2:a0_5 = true
 ·subst c2
  have H1:((impl_isFew.f k a0_0 a0_1 l0_2 l0_3).bind fun t288 => (if t288 = true then ((impl_within.f a0_4 0 2).bind fun t289 => (some t289)) else (some false))) = some r:=by rw [if_pos rfl] at H; exact H
  clear H
  have H:=H1
  clear H1
  replace H:=bi_ H
  obtain ⟨t288,A30,H⟩:=H
  replace H:(if t288 = true then ((impl_within.f a0_4 0 2).bind fun t289 => (some t289)) else (some false)) = some r:=H
  have A3:=am_ A30
  clear A30
  by_cases c4:t288 = true
  ·subst c4
   have H1:((impl_within.f a0_4 0 2).bind fun t289 => (some t289)) = some r:=by rw [if_pos rfl] at H; exact H
   clear H
   have H:=H1
   clear H1
   replace H:=bi_ H
   obtain ⟨t289,A50,H⟩:=H
   replace H:(some t289) = some r:=H
   have A5:=am_ A50
   clear A50
   obtain rfl:=Option.some.inj H
   go_enter Tryz.func53,Tryz.ntmps53
   go_wp2_with (first | ((with_reducible refine gate_dst (N:=1) rfl ?_); refine boxE_ (N:=1) (cs:=#[.int .i64 a0_0,.int .i64 a0_1,.slice A0_2 l0_2.length c0_2,.slice A0_3 l0_3.length c0_3,.int .i64 a0_4,.bool true]) (t:=42) ?_; intro gb287 hg w6 hbox hb; have n0_:=am_ (below_step (bl0_ HB.out) hb); have n1_:=am_ (hbox); have n2_:=am_ ((bs0_ hg HB.out:w.heap.size ≤ gb287)); have n3_:=am_ ((bs0_ hg HB.out:w.heap.size ≤ gb287)); clear HB; have HB:=n0_; have BK287:=n1_; have GW287:=n2_; have GE287:=n3_; clear n0_ n1_ n2_ n3_; clear hb hbox hg; have hcz7_0:w6.cell? ⟨gb287,0,none⟩ = some (.int .i64 a0_0):=(bc_ BK287.out 0).trans rfl; have hcz7_1:w6.cell? ⟨gb287,1,none⟩ = some (.int .i64 a0_1):=(bc_ BK287.out 1).trans rfl; have hcz7_2:w6.cell? ⟨gb287,2,none⟩ = some (.slice A0_2 l0_2.length c0_2):=(bc_ BK287.out 2).trans rfl; have hcz7_3:w6.cell? ⟨gb287,3,none⟩ = some (.slice A0_3 l0_3.length c0_3):=(bc_ BK287.out 3).trans rfl; have hcz7_4:w6.cell? ⟨gb287,4,none⟩ = some (.int .i64 a0_4):=(bc_ BK287.out 4).trans rfl; have hcz7_5:w6.cell? ⟨gb287,5,none⟩ = some (.bool true):=(bc_ BK287.out 5).trans rfl; have hfz7_0:=bz_ BK287.out 0; have hfz7_1:=bz_ BK287.out 1; have hfz7_2:=bz_ BK287.out 2; have hfz7_3:=bz_ BK287.out 3; have hfz7_4:=bz_ BK287.out 4; have hfz7_5:=bz_ BK287.out 5) | ((with_reducible refine gate_callee (f:=70) rfl ?_); refine goesL_ (some 8) rfl rfl Tryz.func70 (by kernel_rfl) rfl #[.agg #[.int .i64 a0_0,.int .i64 a0_1,.slice A0_2 l0_2.length c0_2,.slice A0_3 l0_3.length c0_3]] rfl ob_ ?_; (with_reducible refine (impl_isFew.calls k a0_0 a0_1 _ _ l0_2 _ _ l0_3 true _ ?side1 ?side2 ?side3 ?side4 A3.out).mono ?_); (case side1 => exact kc_ (Kd.C_below HR0_2.out HB.out)); (case side2 => exact HC0_2.out); (case side3 => exact kc_ (Kd.C_below HR0_3.out HB.out)); (case side4 => exact HC0_3.out); rintro e w8 ⟨rfl,hb⟩; refine ⟨_,rfl,?_⟩; have n0_:=am_ (bb_ BK287.out hb); have n1_:=am_ (below_step (bl1_ HB.out GE287.out) hb); clear BK287; clear HB; have BK287:=n0_; have HB:=n1_; clear n0_ n1_; (try clear hb); (try clear hb2); (try clear hk); (try clear hi); have hcz9_0:w8.cell? ⟨gb287,0,none⟩ = some (.int .i64 a0_0):=(bc_ BK287.out 0).trans rfl; have hcz9_1:w8.cell? ⟨gb287,1,none⟩ = some (.int .i64 a0_1):=(bc_ BK287.out 1).trans rfl; have hcz9_2:w8.cell? ⟨gb287,2,none⟩ = some (.slice A0_2 l0_2.length c0_2):=(bc_ BK287.out 2).trans rfl; have hcz9_3:w8.cell? ⟨gb287,3,none⟩ = some (.slice A0_3 l0_3.length c0_3):=(bc_ BK287.out 3).trans rfl; have hcz9_4:w8.cell? ⟨gb287,4,none⟩ = some (.int .i64 a0_4):=(bc_ BK287.out 4).trans rfl; have hcz9_5:w8.cell? ⟨gb287,5,none⟩ = some (.bool true):=(bc_ BK287.out 5).trans rfl; have hfz9_0:=bz_ BK287.out 0; have hfz9_1:=bz_ BK287.out 1; have hfz9_2:=bz_ BK287.out 2; have hfz9_3:=bz_ BK287.out 3; have hfz9_4:=bz_ BK287.out 4; have hfz9_5:=bz_ BK287.out 5) | (go_at_call 71; (with_reducible refine (impl_within.calls a0_4 0 2 t289 _ A5.out).mono ?_); rintro e w' ⟨rfl,⟨nd,rfl⟩⟩))
   go_ret
   exact ⟨er_,bl1_ HB.out GE287.out⟩
  ·replace c4:=Bool.eq_false_iff.mpr c4
   subst c4
   have H1:(some false) = some r:=by rw [if_neg (show ¬ (false = true) by decide)] at H; exact H
   clear H
   have H:=H1
   clear H1
   obtain rfl:=Option.some.inj H
   go_enter Tryz.func53,Tryz.ntmps53
   go_wp2_with (first | ((with_reducible refine gate_dst (N:=1) rfl ?_); refine boxE_ (N:=1) (cs:=#[.int .i64 a0_0,.int .i64 a0_1,.slice A0_2 l0_2.length c0_2,.slice A0_3 l0_3.length c0_3,.int .i64 a0_4,.bool true]) (t:=42) ?_; intro gb287 hg w10 hbox hb; have n0_:=am_ (below_step (bl0_ HB.out) hb); have n1_:=am_ (hbox); have n2_:=am_ ((bs0_ hg HB.out:w.heap.size ≤ gb287)); have n3_:=am_ ((bs0_ hg HB.out:w.heap.size ≤ gb287)); clear HB; have HB:=n0_; have BK287:=n1_; have GW287:=n2_; have GE287:=n3_; clear n0_ n1_ n2_ n3_; clear hb hbox hg; have hcz11_0:w10.cell? ⟨gb287,0,none⟩ = some (.int .i64 a0_0):=(bc_ BK287.out 0).trans rfl; have hcz11_1:w10.cell? ⟨gb287,1,none⟩ = some (.int .i64 a0_1):=(bc_ BK287.out 1).trans rfl; have hcz11_2:w10.cell? ⟨gb287,2,none⟩ = some (.slice A0_2 l0_2.length c0_2):=(bc_ BK287.out 2).trans rfl; have hcz11_3:w10.cell? ⟨gb287,3,none⟩ = some (.slice A0_3 l0_3.length c0_3):=(bc_ BK287.out 3).trans rfl; have hcz11_4:w10.cell? ⟨gb287,4,none⟩ = some (.int .i64 a0_4):=(bc_ BK287.out 4).trans rfl; have hcz11_5:w10.cell? ⟨gb287,5,none⟩ = some (.bool true):=(bc_ BK287.out 5).trans rfl; have hfz11_0:=bz_ BK287.out 0; have hfz11_1:=bz_ BK287.out 1; have hfz11_2:=bz_ BK287.out 2; have hfz11_3:=bz_ BK287.out 3; have hfz11_4:=bz_ BK287.out 4; have hfz11_5:=bz_ BK287.out 5) | ((with_reducible refine gate_callee (f:=70) rfl ?_); refine goesL_ (some 8) rfl rfl Tryz.func70 (by kernel_rfl) rfl #[.agg #[.int .i64 a0_0,.int .i64 a0_1,.slice A0_2 l0_2.length c0_2,.slice A0_3 l0_3.length c0_3]] rfl ob_ ?_; (with_reducible refine (impl_isFew.calls k a0_0 a0_1 _ _ l0_2 _ _ l0_3 false _ ?side1 ?side2 ?side3 ?side4 A3.out).mono ?_); (case side1 => exact kc_ (Kd.C_below HR0_2.out HB.out)); (case side2 => exact HC0_2.out); (case side3 => exact kc_ (Kd.C_below HR0_3.out HB.out)); (case side4 => exact HC0_3.out); rintro e w12 ⟨rfl,hb⟩; refine ⟨_,rfl,?_⟩; have n0_:=am_ (bb_ BK287.out hb); have n1_:=am_ (below_step (bl1_ HB.out GE287.out) hb); clear BK287; clear HB; have BK287:=n0_; have HB:=n1_; clear n0_ n1_; (try clear hb); (try clear hb2); (try clear hk); (try clear hi)))
   go_ret
   exact ⟨er_,bl1_ HB.out GE287.out⟩
 ·replace c2:=Bool.eq_false_iff.mpr c2
  subst c2
  have H1:((impl_isFew.f k a0_0 a0_1 l0_2 l0_3).bind fun t290 => (if t290 = true then ((impl_within.f a0_4 0 4).bind fun t291 => (some t291)) else (some false))) = some r:=by rw [if_neg (show ¬ (false = true) by decide)] at H; exact H
  clear H
  have H:=H1
  clear H1
  replace H:=bi_ H
  obtain ⟨t290,A130,H⟩:=H
  replace H:(if t290 = true then ((impl_within.f a0_4 0 4).bind fun t291 => (some t291)) else (some false)) = some r:=H
  have A13:=am_ A130
  clear A130
  by_cases c14:t290 = true
  ·subst c14
   have H1:((impl_within.f a0_4 0 4).bind fun t291 => (some t291)) = some r:=by rw [if_pos rfl] at H; exact H
   clear H
   have H:=H1
   clear H1
   replace H:=bi_ H
   obtain ⟨t291,A150,H⟩:=H
   replace H:(some t291) = some r:=H
   have A15:=am_ A150
   clear A150
   obtain rfl:=Option.some.inj H
   go_enter Tryz.func53,Tryz.ntmps53
   go_wp2_with (first | ((with_reducible refine gate_dst (N:=1) rfl ?_); refine boxE_ (N:=1) (cs:=#[.int .i64 a0_0,.int .i64 a0_1,.slice A0_2 l0_2.length c0_2,.slice A0_3 l0_3.length c0_3,.int .i64 a0_4,.bool false]) (t:=42) ?_; intro gb287 hg w16 hbox hb; have n0_:=am_ (below_step (bl0_ HB.out) hb); have n1_:=am_ (hbox); have n2_:=am_ ((bs0_ hg HB.out:w.heap.size ≤ gb287)); have n3_:=am_ ((bs0_ hg HB.out:w.heap.size ≤ gb287)); clear HB; have HB:=n0_; have BK287:=n1_; have GW287:=n2_; have GE287:=n3_; clear n0_ n1_ n2_ n3_; clear hb hbox hg; have hcz17_0:w16.cell? ⟨gb287,0,none⟩ = some (.int .i64 a0_0):=(bc_ BK287.out 0).trans rfl; have hcz17_1:w16.cell? ⟨gb287,1,none⟩ = some (.int .i64 a0_1):=(bc_ BK287.out 1).trans rfl; have hcz17_2:w16.cell? ⟨gb287,2,none⟩ = some (.slice A0_2 l0_2.length c0_2):=(bc_ BK287.out 2).trans rfl; have hcz17_3:w16.cell? ⟨gb287,3,none⟩ = some (.slice A0_3 l0_3.length c0_3):=(bc_ BK287.out 3).trans rfl; have hcz17_4:w16.cell? ⟨gb287,4,none⟩ = some (.int .i64 a0_4):=(bc_ BK287.out 4).trans rfl; have hcz17_5:w16.cell? ⟨gb287,5,none⟩ = some (.bool false):=(bc_ BK287.out 5).trans rfl; have hfz17_0:=bz_ BK287.out 0; have hfz17_1:=bz_ BK287.out 1; have hfz17_2:=bz_ BK287.out 2; have hfz17_3:=bz_ BK287.out 3; have hfz17_4:=bz_ BK287.out 4; have hfz17_5:=bz_ BK287.out 5) | ((with_reducible refine gate_callee (f:=70) rfl ?_); refine goesL_ (some 8) rfl rfl Tryz.func70 (by kernel_rfl) rfl #[.agg #[.int .i64 a0_0,.int .i64 a0_1,.slice A0_2 l0_2.length c0_2,.slice A0_3 l0_3.length c0_3]] rfl ob_ ?_; (with_reducible refine (impl_isFew.calls k a0_0 a0_1 _ _ l0_2 _ _ l0_3 true _ ?side1 ?side2 ?side3 ?side4 A13.out).mono ?_); (case side1 => exact kc_ (Kd.C_below HR0_2.out HB.out)); (case side2 => exact HC0_2.out); (case side3 => exact kc_ (Kd.C_below HR0_3.out HB.out)); (case side4 => exact HC0_3.out); rintro e w18 ⟨rfl,hb⟩; refine ⟨_,rfl,?_⟩; have n0_:=am_ (bb_ BK287.out hb); have n1_:=am_ (below_step (bl1_ HB.out GE287.out) hb); clear BK287; clear HB; have BK287:=n0_; have HB:=n1_; clear n0_ n1_; (try clear hb); (try clear hb2); (try clear hk); (try clear hi); have hcz19_0:w18.cell? ⟨gb287,0,none⟩ = some (.int .i64 a0_0):=(bc_ BK287.out 0).trans rfl; have hcz19_1:w18.cell? ⟨gb287,1,none⟩ = some (.int .i64 a0_1):=(bc_ BK287.out 1).trans rfl; have hcz19_2:w18.cell? ⟨gb287,2,none⟩ = some (.slice A0_2 l0_2.length c0_2):=(bc_ BK287.out 2).trans rfl; have hcz19_3:w18.cell? ⟨gb287,3,none⟩ = some (.slice A0_3 l0_3.length c0_3):=(bc_ BK287.out 3).trans rfl; have hcz19_4:w18.cell? ⟨gb287,4,none⟩ = some (.int .i64 a0_4):=(bc_ BK287.out 4).trans rfl; have hcz19_5:w18.cell? ⟨gb287,5,none⟩ = some (.bool false):=(bc_ BK287.out 5).trans rfl; have hfz19_0:=bz_ BK287.out 0; have hfz19_1:=bz_ BK287.out 1; have hfz19_2:=bz_ BK287.out 2; have hfz19_3:=bz_ BK287.out 3; have hfz19_4:=bz_ BK287.out 4; have hfz19_5:=bz_ BK287.out 5) | (go_at_call 71; (with_reducible refine (impl_within.calls a0_4 0 4 t291 _ A15.out).mono ?_); rintro e w' ⟨rfl,⟨nd,rfl⟩⟩))
   go_ret
   exact ⟨er_,bl1_ HB.out GE287.out⟩
  ·replace c14:=Bool.eq_false_iff.mpr c14
   subst c14
   have H1:(some false) = some r:=by rw [if_neg (show ¬ (false = true) by decide)] at H; exact H
   clear H
   have H:=H1
   clear H1
   obtain rfl:=Option.some.inj H
   go_enter Tryz.func53,Tryz.ntmps53
   go_wp2_with (first | ((with_reducible refine gate_dst (N:=1) rfl ?_); refine boxE_ (N:=1) (cs:=#[.int .i64 a0_0,.int .i64 a0_1,.slice A0_2 l0_2.length c0_2,.slice A0_3 l0_3.length c0_3,.int .i64 a0_4,.bool false]) (t:=42) ?_; intro gb287 hg w20 hbox hb; have n0_:=am_ (below_step (bl0_ HB.out) hb); have n1_:=am_ (hbox); have n2_:=am_ ((bs0_ hg HB.out:w.heap.size ≤ gb287)); have n3_:=am_ ((bs0_ hg HB.out:w.heap.size ≤ gb287)); clear HB; have HB:=n0_; have BK287:=n1_; have GW287:=n2_; have GE287:=n3_; clear n0_ n1_ n2_ n3_; clear hb hbox hg; have hcz21_0:w20.cell? ⟨gb287,0,none⟩ = some (.int .i64 a0_0):=(bc_ BK287.out 0).trans rfl; have hcz21_1:w20.cell? ⟨gb287,1,none⟩ = some (.int .i64 a0_1):=(bc_ BK287.out 1).trans rfl; have hcz21_2:w20.cell? ⟨gb287,2,none⟩ = some (.slice A0_2 l0_2.length c0_2):=(bc_ BK287.out 2).trans rfl; have hcz21_3:w20.cell? ⟨gb287,3,none⟩ = some (.slice A0_3 l0_3.length c0_3):=(bc_ BK287.out 3).trans rfl; have hcz21_4:w20.cell? ⟨gb287,4,none⟩ = some (.int .i64 a0_4):=(bc_ BK287.out 4).trans rfl; have hcz21_5:w20.cell? ⟨gb287,5,none⟩ = some (.bool false):=(bc_ BK287.out 5).trans rfl; have hfz21_0:=bz_ BK287.out 0; have hfz21_1:=bz_ BK287.out 1; have hfz21_2:=bz_ BK287.out 2; have hfz21_3:=bz_ BK287.out 3; have hfz21_4:=bz_ BK287.out 4; have hfz21_5:=bz_ BK287.out 5) | ((with_reducible refine gate_callee (f:=70) rfl ?_); refine goesL_ (some 8) rfl rfl Tryz.func70 (by kernel_rfl) rfl #[.agg #[.int .i64 a0_0,.int .i64 a0_1,.slice A0_2 l0_2.length c0_2,.slice A0_3 l0_3.length c0_3]] rfl ob_ ?_; (with_reducible refine (impl_isFew.calls k a0_0 a0_1 _ _ l0_2 _ _ l0_3 false _ ?side1 ?side2 ?side3 ?side4 A13.out).mono ?_); (case side1 => exact kc_ (Kd.C_below HR0_2.out HB.out)); (case side2 => exact HC0_2.out); (case side3 => exact kc_ (Kd.C_below HR0_3.out HB.out)); (case side4 => exact HC0_3.out); rintro e w22 ⟨rfl,hb⟩; refine ⟨_,rfl,?_⟩; have n0_:=am_ (bb_ BK287.out hb); have n1_:=am_ (below_step (bl1_ HB.out GE287.out) hb); clear BK287; clear HB; have BK287:=n0_; have HB:=n1_; clear n0_ n1_; (try clear hb); (try clear hb2); (try clear hk); (try clear hi)))
   go_ret
   exact ⟨er_,bl1_ HB.out GE287.out⟩


def impl_isNumber.f (a0:Int):Option (Bool):=(impl_within.f a0 0 100).bind fun t292 => (some t292)
set_option maxHeartbeats 8000000 in
set_option maxRecDepth 100000 in
theorem impl_isNumber.calls (a0:Int) (r:Bool) (w:World) (h:impl_isNumber.f a0 = some r) :
    Calls Tryz.prog 54 #[.int .i64 a0] w fun e w' => e = .returned (.bool r) ∧ Drawn0 w w':=by
  have H:((impl_within.f a0 0 100).bind fun t292 => (some t292)) = some r:=h
  clear h
  replace H:=bi_ H
  obtain ⟨t292,A20,H⟩:=H
  replace H:(some t292) = some r:=H
  have A2:=am_ A20
  clear A20
  obtain rfl:=Option.some.inj H
  go_enter Tryz.func54,Tryz.ntmps54
  go_wp2_with (first | ((with_reducible refine gate_callee (f:=71) rfl ?_); refine goesL_ (some 4) rfl rfl Tryz.func71 (by kernel_rfl) rfl #[.int .i64 a0,.int .i64 0,.int .i64 100] rfl ob_ ?_; (with_reducible refine (impl_within.calls a0 0 100 t292 _ A2.out).mono ?_); rintro e w' ⟨rfl,⟨nd,rfl⟩⟩; refine ⟨_,rfl,?_⟩))
  go_ret
  exact ⟨by first | rfl | (simp; done) | (simp [*]; done),by repeat (first | exact Drawn0.refl _ | apply Drawn0.step)⟩


structure FigOK (K:Nat) (fW fH:Int) (l2 l3:List Int) (s al:Nat) (L:List S100) (cnt nd:Nat → Int):Prop where
  hs:s < 2 ^ 60
  hal:al < 2 ^ 60
  hset:impl_Figure_set.f K fW fH l2 l3 = some (s:Int)
  ha:impl_grid_all.f fW fH = some (al:Int)
  hsq:impl_grid_squares.f K fW fH = some L
  hcn:∀ x,x < 2 ^ 60 → impl_countOf.f K L ((x:Nat):Int) = some (cnt x)
  hnd:∀ x,x < 2 ^ 60 → impl_needless.f K L ((x:Nat):Int) = some (nd x)
def mostM (mv:Bool):Int:=if mv then 2 else 4
def rightM (few:Bool) (mt:Int) (mv:Bool):Bool:=few && (decide (0 ≤ mt) && decide (mt ≤ mostM mv))
def numQ (sq:Int):Bool:=decide (0 ≤ sq) && decide (sq ≤ 100)
def countR (few:Bool) (s al:Nat) (cnt nd:Nat → Int) (mt:Int) (mv:Bool) (sq:Int) (td:Bool):Int × Bool :=
  if rightM few mt mv = true ∧ numQ sq = true then (((waysW mv mt.toNat al s).filter (withP cnt nd sq td)).length,true) else (0,false)
theorem isRight_f {K:Nat} {fW fH:Int} {l2 l3:List Int} {few:Bool} (h:impl_isFew.f K fW fH l2 l3 = some few) (mt:Int) (mv:Bool):impl_way_isRight.f K fW fH l2 l3 mt mv = some (rightM few mt mv):=by
  unfold impl_way_isRight.f rightM mostM impl_within.f
  rw [h]
  cases mv <;> cases few <;> by_cases h0:0 ≤ mt <;> simp [h0]
theorem isNumber_f (sq:Int):impl_isNumber.f sq = some (numQ sq):=by
  unfold impl_isNumber.f numQ impl_within.f
  by_cases h0:0 ≤ sq <;> simp [h0]
set_option maxRecDepth 100000 in
set_option maxHeartbeats 8000000 in
theorem count_any (K:Nat) (fW fH:Int) (A2 A3:Option Addr) (c2 c3:Nat) (l2 l3:List Int) (mt:Int) (mv:Bool) (sq:Int) (td few:Bool) (s al:Nat) (L:List S100) (cnt nd:Nat → Int) (w:World)
    (hr2:Kd.C (Kd.int .i64) w A2 l2.length l2) (hc2:l2.length ≤ c2) (hr3:Kd.C (Kd.int .i64) w A3 l3.length l3) (hc3:l3.length ≤ c3) (hT:TB w) (hfew:impl_isFew.f K fW fH l2 l3 = some few) (hok:few = true → FigOK K fW fH l2 l3 s al L cnt nd) :
    Calls Tryz.prog 40 #[.agg #[.int .i64 fW,.int .i64 fH,.slice A2 l2.length c2,.slice A3 l3.length c3,.int .i64 mt,.bool mv],.int .i64 sq,.bool td] w fun e w' => e = .returned (.tuple #[.int .i64 (countR few s al cnt nd mt mv sq td).1,.bool (countR few s al cnt nd mt mv sq td).2]) ∧ Below w.heap.size w w':=by
  have HI:=am_ (isRight_f hfew mt mv)
  have HN:=am_ (isNumber_f sq)
  have HR2:=am_ hr2
  have HR3:=am_ hr3
  have HQ2:=am_ hc2
  have HQ3:=am_ hc3
  by_cases h1:rightM few mt mv = true
  · by_cases h2:numQ sq = true
    · have hcr:countR few s al cnt nd mt mv sq td = ((((waysW mv mt.toNat al s).filter (withP cnt nd sq td)).length:Int),true):=by unfold countR; rw [if_pos ⟨h1,h2⟩]
      rw [hcr]
      have hfw:few = true ∧ 0 ≤ mt ∧ mt ≤ mostM mv:=by unfold rightM at h1; simpa using h1
      obtain ⟨hfw,hm0,hm1⟩:=hfw
      have ok:=hok hfw
      obtain ⟨m,rfl⟩:=Int.eq_ofNat_of_zero_le hm0
      rw [Int.toNat_natCast]
      have HW:Aside0 (∀ W,Below w.heap.size w W → Calls Tryz.prog 43 #[.agg #[.int .i64 fW,.int .i64 fH,.slice A2 l2.length c2,.slice A3 l3.length c3,.int .i64 (m:Int),.bool mv],.int .i64 sq,.bool td] W fun e w' => ∃ A c,e = .returned (.slice A ((waysW mv m al s).filter (withP cnt nd sq td)).length c) ∧ Below W.heap.size W w'):=⟨fun W hW => by
        refine (with_any K fW fH A2 A3 c2 c3 l2 l3 m s al mv sq td L cnt nd W (Kd.C_below hr2 hW) hc2 (Kd.C_below hr3 hW) hc3 (hT.below hW) (by unfold mostM at hm1; cases mv <;> simp at hm1 ⊢ <;> omega) ok.hs ok.hal ok.hset ok.ha ok.hsq ok.hcn ok.hnd).mono ?_
        rintro e w' ⟨v,rfl,hr,hb⟩
        obtain ⟨A,c,rfl⟩:=Kd.R_slice hr
        exact ⟨A,c,by unfold setI; rw [List.length_map],hb⟩⟩
      rw [h1] at HI
      rw [h2] at HN
      clear hr2 hr3 hc2 hc3 hT hfew hok ok hcr h1 h2 hfw hm0 hm1
      generalize ((waysW mv m al s).filter (withP cnt nd sq td)).length = R at HW ⊢
      go_enter Tryz.func40,Tryz.ntmps40
      go_wp2_with fail
      go_at_call 53
      refine (impl_way_isRight.calls K fW fH A2 c2 l2 A3 c3 l3 (m:Int) mv true _ (Kd.C_alloc HR2.out _) HQ2.out (Kd.C_alloc HR3.out _) HQ3.out HI.out).mono ?_
      rintro e w1 ⟨rfl,hb⟩
      have Q0:w1.heap[w.heap.size]? = some (.cells #[.int .i64 fW,.int .i64 fH,.slice A2 l2.length c2,.slice A3 l3.length c3,.int .i64 (m:Int),.bool mv] 42 (0,0)):=blk_keep (heap_alloc_new w _) hb
      have p0:w1.cell? ⟨w.heap.size,0,none⟩ = some (.int .i64 fW):=(bc_ Q0 0).trans rfl
      have p1:w1.cell? ⟨w.heap.size,1,none⟩ = some (.int .i64 fH):=(bc_ Q0 1).trans rfl
      have p2:w1.cell? ⟨w.heap.size,2,none⟩ = some (.slice A2 l2.length c2):=(bc_ Q0 2).trans rfl
      have p3:w1.cell? ⟨w.heap.size,3,none⟩ = some (.slice A3 l3.length c3):=(bc_ Q0 3).trans rfl
      have p4:w1.cell? ⟨w.heap.size,4,none⟩ = some (.int .i64 (m:Int)):=(bc_ Q0 4).trans rfl
      have p5:w1.cell? ⟨w.heap.size,5,none⟩ = some (.bool mv):=(bc_ Q0 5).trans rfl
      have HB:=am_ (below_step (below_alloc (Below.refl w.heap.size w) _) hb)
      clear hb Q0
      go_wp2_with (first
        | (go_at_call 54; refine (impl_isNumber.calls _ _ _ HN.out).mono ?_; rintro e w2 ⟨rfl,⟨nd_,rfl⟩⟩)
        | (go_at_call 43; refine (HW.out _ ?xB).mono ?_; (case xB => first | exact HB.out | exact pw_below_drewN HB.out _); rintro e w3 ⟨A,c,rfl,hb3⟩; have HB3:Aside0 (Below w.heap.size w w3):=⟨by first | exact below_step HB.out hb3 | exact below_step (pw_below_drewN HB.out _) hb3⟩; clear hb3))
      go_ret2
      exact ⟨rfl,HB3.out⟩
    · have hcr:countR few s al cnt nd mt mv sq td = (0,false):=by unfold countR; rw [if_neg (fun h => h2 h.2)]
      rw [hcr]
      rw [h1] at HI
      rw [Bool.eq_false_iff.2 h2] at HN
      clear hr2 hr3 hc2 hc3 hT hfew hok hcr h1 h2
      go_enter Tryz.func40,Tryz.ntmps40
      go_wp2_with (first
        | (go_at_call 53; refine (impl_way_isRight.calls K fW fH A2 c2 l2 A3 c3 l3 mt mv true _ (Kd.C_alloc HR2.out _) HQ2.out (Kd.C_alloc HR3.out _) HQ3.out HI.out).mono ?_; rintro e w1 ⟨rfl,hb⟩; have HB:=am_ (below_step (below_alloc (Below.refl w.heap.size w) _) hb); clear hb)
        | (go_at_call 54; refine (impl_isNumber.calls _ _ _ HN.out).mono ?_; rintro e w2 ⟨rfl,⟨nd_,rfl⟩⟩))
      go_ret2
      exact ⟨rfl,pw_below_drewN HB.out _⟩
  · have hcr:countR few s al cnt nd mt mv sq td = (0,false):=by unfold countR; rw [if_neg (fun h => h1 h.1)]
    rw [hcr]
    rw [Bool.eq_false_iff.2 h1] at HI
    clear hr2 hr3 hc2 hc3 hT hfew hok hcr h1
    go_enter Tryz.func40,Tryz.ntmps40
    go_wp2_with (first
      | (go_at_call 53; refine (impl_way_isRight.calls K fW fH A2 c2 l2 A3 c3 l3 mt mv false _ (Kd.C_alloc HR2.out _) HQ2.out (Kd.C_alloc HR3.out _) HQ3.out HI.out).mono ?_; rintro e w1 ⟨rfl,hb⟩; have HB:=am_ (below_step (below_alloc (Below.refl w.heap.size w) _) hb); clear hb))
    go_ret2
    exact ⟨rfl,HB.out⟩


def edgesN (w h:Nat):Nat:=w * (h + 1) + h * (w + 1)
def bitsSame (w h:Nat):Bool:=(spec_moBits.f 100 (w:Int) (h:Int) == some ((List.range (edgesN w h)).map fun n => ((2 ^ n:Nat):Int))) && (impl_grid_all.f (w:Int) (h:Int) == some ((2 ^ edgesN w h - 1:Nat):Int))
theorem bits_11:bitsSame 1 1 = true:=by decide +kernel
theorem bits_12:bitsSame 1 2 = true:=by decide +kernel
theorem bits_13:bitsSame 1 3 = true:=by decide +kernel
theorem bits_14:bitsSame 1 4 = true:=by decide +kernel
theorem bits_21:bitsSame 2 1 = true:=by decide +kernel
theorem bits_22:bitsSame 2 2 = true:=by decide +kernel
theorem bits_23:bitsSame 2 3 = true:=by decide +kernel
theorem bits_24:bitsSame 2 4 = true:=by decide +kernel
theorem bits_31:bitsSame 3 1 = true:=by decide +kernel
theorem bits_32:bitsSame 3 2 = true:=by decide +kernel
theorem bits_33:bitsSame 3 3 = true:=by decide +kernel
theorem bits_34:bitsSame 3 4 = true:=by decide +kernel
theorem bits_41:bitsSame 4 1 = true:=by decide +kernel
theorem bits_42:bitsSame 4 2 = true:=by decide +kernel
theorem bits_43:bitsSame 4 3 = true:=by decide +kernel
theorem bits_44:bitsSame 4 4 = true:=by decide +kernel
theorem bits_all (w h:Nat) (h1:1 ≤ w) (h2:w ≤ 4) (h3:1 ≤ h) (h4:h ≤ 4):bitsSame w h = true:=by
 have hw:w = 1 ∨ w = 2 ∨ w = 3 ∨ w = 4:=by omega
 have hh:h = 1 ∨ h = 2 ∨ h = 3 ∨ h = 4:=by omega
 rcases hw with rfl | rfl | rfl | rfl <;> rcases hh with rfl | rfl | rfl | rfl
 ·exact bits_11
 ·exact bits_12
 ·exact bits_13
 ·exact bits_14
 ·exact bits_21
 ·exact bits_22
 ·exact bits_23
 ·exact bits_24
 ·exact bits_31
 ·exact bits_32
 ·exact bits_33
 ·exact bits_34
 ·exact bits_41
 ·exact bits_42
 ·exact bits_43
 ·exact bits_44
theorem edgesN_le {w h:Nat} (h2:w ≤ 4) (h4:h ≤ 4):edgesN w h ≤ 40:=by
 unfold edgesN
 have h5:w * (h + 1) ≤ 4 * 5:=Nat.mul_le_mul h2 (by omega)
 have h6:h * (w + 1) ≤ 4 * 5:=Nat.mul_le_mul h4 (by omega)
 omega
theorem bitsN_range {M N:Nat} (hM:M < 2 ^ N) (hN:N ≤ 64):bitsN M = (List.range N).filter fun i => M.testBit i:=by
 unfold bitsN
 have e:List.range 64 = List.range N ++ List.range' N (64 - N):=by
  rw [List.range_eq_range',List.range_eq_range']
  have:=List.range'_append_1 (s:=0) (m:=N) (n:=64 - N)
  rw [Nat.zero_add] at this
  rw [this]
  congr 1
  omega
 rw [e,List.filter_append]
 have h0:(List.range' N (64 - N)).filter (fun i => M.testBit i) = []:=by
  rw [List.filter_eq_nil_iff]
  intro i hi
  rw [List.mem_range'_1] at hi
  rw [Nat.testBit_lt_two_pow (Nat.lt_of_lt_of_le hM (Nat.pow_le_pow_right (by omega) hi.1))]
  simp
 rw [h0,List.append_nil]
theorem and_bit (M n:Nat) (hM:M < 2 ^ 60) (hn:n < 60):(Go.bits .and .i64 (M:Int) ((2 ^ n:Nat):Int) != 0) = M.testBit n:=by
 rw [and_i64 _ _ hM (pow_lt60 hn),Nat.and_comm]
 have h2:2 ^ n &&& M = if M.testBit n = true then 2 ^ n else 0:=by
  apply Nat.eq_of_testBit_eq
  intro i
  rw [Nat.testBit_and,Nat.testBit_two_pow]
  by_cases hi:n = i
  ·subst hi
   cases h:M.testBit n <;> simp
  ·cases h:M.testBit n <;> simp [hi]
 rw [h2]
 cases h:M.testBit n with
 | false => rfl
 | true =>
  have:=Nat.two_pow_pos n
  simp only [if_true]
  rw [bne_iff_ne]
  exact_mod_cast (by omega:2 ^ n ≠ 0)
def g2 (n:Nat):Int:=((2 ^ n:Nat):Int)
theorem choose_eq:∀ (m:Nat) (l:List Nat) (c:Nat),(∀ x ∈ l,x < 60) → c < 2 ^ 60 → chooseI m (l.map g2) (c:Int) = (subsW m (l.map fun n:Nat => (n:Int)) c).map fun n:Nat => (n:Int)
 | 0,_,_,_,_ => rfl
 | m + 1,[],_,_,_ => rfl
 | m + 1,x :: l,c,hl,hc => by
  have hx:=hl x List.mem_cons_self
  have hl':∀ y ∈ l,y < 60:=fun y hy => hl y (List.mem_cons_of_mem _ hy)
  show chooseI m (l.map g2) (Go.bits .or .i64 (c:Int) (g2 x)) ++ chooseI (m + 1) (l.map g2) (c:Int) = ((subsW m (l.map fun n:Nat => (n:Int)) (c ||| 2 ^ (x:Int).toNat)) ++ subsW (m + 1) (l.map fun n:Nat => (n:Int)) c).map fun n:Nat => (n:Int)
  unfold g2
  rw [or_i64 _ _ hc (pow_lt60 hx),List.map_append,Int.toNat_natCast]
  have e1:=choose_eq m l (c ||| 2 ^ x) hl' (Nat.or_lt_two_pow hc (pow_lt60 hx))
  have e2:=choose_eq (m + 1) l c hl' hc
  unfold g2 at e1 e2
  rw [e1,e2]
theorem bitsN_lt {s:Nat} (hs:s < 2 ^ 60):∀ x ∈ bitsN s,x < 60:=fun x hx => by
 have:=bitsI_lt s hs (x:Int) (List.mem_map.2 ⟨x,hx,rfl⟩)
 omega
theorem made_eq {M N:Nat} (hM:M < 2 ^ N) (hN:N ≤ 59) (m:Nat) (put:Bool):madeL (M:Int) ((List.range N).map g2) m put = (waysW put m (2 ^ N - 1) M).map fun n:Nat => (n:Int):=by
 have hM60:M < 2 ^ 60:=Nat.lt_of_lt_of_le hM (Nat.pow_le_pow_right (by omega) (by omega))
 have hpN:=Nat.two_pow_pos N
 have hal:2 ^ N - 1 < 2 ^ N:=by omega
 have hfr:=diffN_lt M hal
 have hfr60:diffN (2 ^ N - 1) M < 2 ^ 60:=Nat.lt_of_lt_of_le hfr (Nat.pow_le_pow_right (by omega) (by omega))
 have e1:((List.range N).map g2).filter (fun b => Go.bits .and .i64 (M:Int) b != 0) = (bitsN M).map g2:=by
  rw [List.filter_map,bitsN_range hM (by omega)]
  congr 1
  apply List.filter_congr
  intro n hn
  exact and_bit M n hM60 (by have:=List.mem_range.1 hn; omega)
 have e2:((List.range N).map g2).filter (fun b => !(Go.bits .and .i64 (M:Int) b != 0)) = (bitsN (diffN (2 ^ N - 1) M)).map g2:=by
  rw [List.filter_map,bitsN_range hfr (by omega)]
  congr 1
  apply List.filter_congr
  intro n hn
  have hn':=List.mem_range.1 hn
  show (!(Go.bits .and .i64 (M:Int) (g2 n) != 0)) = _
  unfold g2
  rw [and_bit M n hM60 (by omega),diffN_test,Nat.testBit_two_pow_sub_one]
  simp [hn']
 unfold madeL
 rw [e1,e2,show (0:Int) = ((0:Nat):Int) from rfl,choose_eq m _ 0 (bitsN_lt hM60) (by decide),choose_eq m _ 0 (bitsN_lt hfr60) (by decide)]
 have hb:∀ s,(bitsN s).map (fun n:Nat => (n:Int)) = bitsI s:=fun s => rfl
 rw [hb,hb]
 have hsub:=subsW_lt m (bitsI M) 0 (by decide) (bitsI_lt M hM60)
 have hput:=subsW_lt m (bitsI (diffN (2 ^ N - 1) M)) 0 (by decide) (bitsI_lt _ hfr60)
 unfold waysW piecesW
 cases put with
 | false =>
  rw [if_neg (by simp),if_neg (by simp),List.map_map]
  generalize subsW m (bitsI M) 0 = T at hsub
  clear e1 e2 hput
  induction T with
  | nil => rfl
  | cons a T ih =>
   rw [List.map_cons,List.flatMap_cons,List.map_append,ih (fun z hz => hsub z (List.mem_cons_of_mem _ hz))]
   show Go.bits .andNot .i64 (M:Int) (a:Int) :: _ = _
   rw [andNot_i64 _ _ hM60 (hsub a List.mem_cons_self)]
   rfl
 | true =>
  rw [if_pos rfl,if_pos rfl]
  unfold putsW
  generalize subsW m (bitsI M) 0 = T at hsub
  generalize subsW m (bitsI (diffN (2 ^ N - 1) M)) 0 = U at hput
  clear e1 e2
  induction T with
  | nil => rfl
  | cons a T ih =>
   rw [List.map_cons,List.flatMap_cons,List.flatMap_cons,List.map_append,ih (fun z hz => hsub z (List.mem_cons_of_mem _ hz)),andNot_i64 _ _ hM60 (hsub a List.mem_cons_self)]
   congr 1
   rw [List.map_map,List.map_map]
   apply List.map_congr_left
   intro p hp
   exact or_i64 _ _ (diffN_lt a hM60) (hput p hp)
theorem moThose_l0 (PL:List S85) (sq:Int) (td:Bool) (p:Nat → Bool) (W:List Nat) (k0:Nat) (hW:W.length ≤ 64 ^ 4)
  (hp:∀ x ∈ W,∀ k,k0 ≤ k → ∃ cn nd:Int,spec_sqCount.f k PL (x:Int) = some cn ∧ spec_sqNeeded.f k PL (x:Int) = some nd ∧ p x = (decide (cn = sq) && (!td || decide (nd = (x:Int))))):∀ (d k i:Nat) (acc:List Int),W.length - i = d → i ≤ W.length → d + k0 + 1 ≤ k → acc.length ≤ i →
  spec_moThose.l0 k sq td PL acc (W.map fun n:Nat => (n:Int)) (W.length:Int) (i:Int) = some (acc ++ ((W.drop i).filter p).map fun n:Nat => (n:Int)):=by
 intro d
 induction d with
 | zero =>
  intro k i acc h1 h2 h3 h4
  obtain ⟨k,rfl⟩:∃ q,k = q + 1:=⟨k - 1,by omega⟩
  simp only [spec_moThose.l0]
  rw [if_neg (by omega),List.drop_of_length_le (by omega)]
  simp
 | succ d ih =>
  intro k i acc h1 h2 h3 h4
  obtain ⟨k,rfl⟩:∃ q,k = q + 1:=⟨k - 1,by omega⟩
  have hi:i < W.length:=by omega
  have hrd:rd (W.map fun n:Nat => (n:Int)) (i:Int) = ((W[i]:Nat):Int):=by
   unfold rd
   rw [Int.toNat_natCast,List.getD_eq_getElem?_getD,List.getElem?_map,List.getElem?_eq_getElem hi]
   rfl
  obtain ⟨cn,nd,hc,hn,hpx⟩:=hp _ (List.getElem_mem hi) k (by omega)
  have h64:(64:Nat) ^ 4 = 16777216:=by decide
  have e2:wrap64 ((i:Int) + 1) = ((i + 1:Nat):Int):=by unfold wrap64; omega
  have keep:=ih k (i + 1) (acc ++ [((W[i]:Nat):Int)]) (by omega) (by omega) (by omega) (by simp; omega)
  have skip:=ih k (i + 1) acc (by omega) (by omega) (by omega) (by omega)
  have hlen:acc.length < 17592186044416:=by omega
  simp only [spec_moThose.l0]
  rw [if_pos (by omega),if_pos (by omega),if_pos (by rw [List.length_map]; omega),hrd,hc,Option.bind_some,e2,List.drop_eq_getElem_cons hi]
  have yes:p W[i] = true → some ((acc ++ [((W[i]:Nat):Int)]) ++ ((W.drop (i + 1)).filter p).map fun n:Nat => (n:Int)) = some (acc ++ ((W[i] :: W.drop (i + 1)).filter p).map fun n:Nat => (n:Int)):=fun h => by
   rw [List.filter_cons_of_pos h,List.map_cons,List.append_assoc]; rfl
  have no:p W[i] = false → some (acc ++ ((W.drop (i + 1)).filter p).map fun n:Nat => (n:Int)) = some (acc ++ ((W[i] :: W.drop (i + 1)).filter p).map fun n:Nat => (n:Int)):=fun h => by
   rw [List.filter_cons_of_neg (by rw [h]; simp)]
  by_cases h5:cn = sq
  ·rw [if_pos h5]
   rw [decide_eq_true h5,Bool.true_and] at hpx
   cases td with
   | false =>
    rw [if_neg (by simp),if_pos hlen,keep]
    exact yes (by rw [hpx]; rfl)
   | true =>
    rw [if_pos rfl,hn,Option.bind_some]
    by_cases h6:nd = ((W[i]:Nat):Int)
    ·rw [if_pos h6,if_pos hlen,keep]
     exact yes (by rw [hpx,decide_eq_true h6]; rfl)
    ·rw [if_neg h6,skip]
     exact no (by rw [hpx,decide_eq_false h6]; rfl)
  ·rw [if_neg h5,skip]
   exact no (by rw [hpx,decide_eq_false h5]; rfl)
def fewB (w h:Int) (a u:List Int):Bool:=figB w h a u && decide (w * h ≤ 9)
theorem isFew_f (w h:Int) (a u:List Int) (ha:a.length ≤ 1000000) (hu:u.length ≤ 1000000) (k:Nat) (hk:1000010 < k):impl_isFew.f k w h a u = some (fewB w h a u):=by
 unfold impl_isFew.f fewB
 rw [IsFigure_f w h a u ha hu k hk,Option.bind_some]
 cases hf:figB w h a u with
 | false => rfl
 | true =>
  unfold figB at hf
  simp only [Bool.and_eq_true] at hf
  obtain ⟨hg,-⟩:=hf
  obtain ⟨b1,b2,b3,b4⟩:=grid_bounds (by simp only [Bool.and_eq_true]; exact hg)
  have h1:w * h ≤ 4 * 4:=Int.mul_le_mul b2 b4 (by omega) (by omega)
  have h2:0 ≤ w * h:=Int.mul_nonneg (by omega) (by omega)
  have e:wrap64 (w * h) = w * h:=by unfold wrap64; omega
  rw [if_pos rfl,e,Bool.true_and]
theorem sqFew_f (w h:Int) (a u:List Int) (ha:a.length ≤ 1000000) (hu:u.length ≤ 1000000) (k:Nat) (hk:1000010 < k):spec_sqFew.f k w h a u = some (fewB w h a u):=by
 unfold spec_sqFew.f fewB
 rw [fiGood_f w h a u ha hu k hk,Option.bind_some]
 cases hf:figB w h a u with
 | false => rfl
 | true =>
  unfold figB at hf
  simp only [Bool.and_eq_true] at hf
  obtain ⟨hg,-⟩:=hf
  obtain ⟨b1,b2,b3,b4⟩:=grid_bounds (by simp only [Bool.and_eq_true]; exact hg)
  have h1:w * h ≤ 4 * 4:=Int.mul_le_mul b2 b4 (by omega) (by omega)
  have h2:0 ≤ w * h:=Int.mul_nonneg (by omega) (by omega)
  have e:wrap64 (w * h) = w * h:=by unfold wrap64; omega
  rw [if_pos rfl,e,Bool.true_and]
theorem moAsked_f (w h:Int) (a u:List Int) (ha:a.length ≤ 1000000) (hu:u.length ≤ 1000000) (mt:Int) (mv:Bool) (k:Nat) (hk:1000010 < k):spec_moAsked.f k w h a u mt mv = some (rightM (fewB w h a u) mt mv):=by
 unfold spec_moAsked.f rightM mostM
 rw [sqFew_f w h a u ha hu k hk]
 cases mv with
 | false =>
  rw [if_neg (by simp),Option.bind_some,l1In_f]
  cases fewB w h a u <;> simp
 | true =>
  rw [if_pos rfl,Option.bind_some,l1In_f]
  cases fewB w h a u <;> simp
theorem moSquares_f (sq:Int):spec_moSquares.f sq = some (numQ sq):=by
 unfold spec_moSquares.f numQ
 rw [l1In_f,Option.bind_some]
theorem figMask_edges {w h:Nat} {a u:List Int} (hf:figB (w:Int) (h:Int) a u = true):figMask (w:Int) (h:Int) a u < 2 ^ edgesN w h:=by
 have hf0:=hf
 unfold figB at hf
 simp only [Bool.and_eq_true] at hf
 obtain ⟨hg,-,-,hi1,hi2⟩:=hf
 have e1:((w:Int) * ((h:Int) + 1)).toNat = w * (h + 1):=by
  have:(w:Int) * ((h:Int) + 1) = ((w * (h + 1):Nat):Int):=by rw [Int.natCast_mul]; rfl
  rw [this,Int.toNat_natCast]
 apply Nat.lt_pow_two_of_testBit
 intro i hi
 unfold figMask
 rw [bitsFrom_test,bitsFrom_test,Nat.zero_testBit,Bool.false_or,Bool.or_eq_false_iff,e1]
 unfold edgesN at hi
 constructor
 ·rw [List.any_eq_false]
  intro x hx
  have hb:=inB_mem hi1 x hx
  have e2:(w:Int) * ((h:Int) + 1) = ((w * (h + 1):Nat):Int):=by rw [Int.natCast_mul]; rfl
  rw [e2] at hb
  simp
  omega
 ·rw [List.any_eq_false]
  intro x hx
  have hb:=inB_mem hi2 x hx
  have e2:(h:Int) * ((w:Int) + 1) = ((h * (w + 1):Nat):Int):=by rw [Int.natCast_mul]; rfl
  rw [e2] at hb
  simp
  omega
theorem few_all2 {w h:Int} {a u:List Int} (hf:fewB w h a u = true) (ha:a.length ≤ 1000000) (hu:u.length ≤ 1000000) (k:Nat) (hk:20000000 < k) :
  ∃ (s al N:Nat) (L:List S100) (cnt nd:Nat → Int),FigOK k w h a u s al L cnt nd ∧ (s < 2 ^ N ∧ al < 2 ^ N ∧ N = edgesN w.toNat h.toNat) ∧ ∀ (mt:Int) (mv:Bool) (sq:Int) (td:Bool),rightM true mt mv = true → (waysW mv mt.toNat al s).length ≤ 64 ^ 4 ∧ spec_moThose.f k w h a u mt sq mv td = some (((waysW mv mt.toNat al s).filter (withP cnt nd sq td)).map fun n:Nat => (n:Int)):=by
 unfold fewB at hf
 rw [Bool.and_eq_true] at hf
 obtain ⟨hf,-⟩:=hf
 have hf1:=hf
 unfold figB at hf1
 simp only [Bool.and_eq_true] at hf1
 obtain ⟨hg,-⟩:=hf1
 obtain ⟨b1,b2,b3,b4⟩:=grid_bounds (by simp only [Bool.and_eq_true]; exact hg)
 clear hg
 obtain ⟨w,rfl⟩:=Int.eq_ofNat_of_zero_le (show 0 ≤ w by omega)
 obtain ⟨h,rfl⟩:=Int.eq_ofNat_of_zero_le (show 0 ≤ h by omega)
 have hM:=figMask_edges hf
 have hM60:=figMask_lt hf
 obtain ⟨L,PL,E,hL,hP,hLE,hPE,hE,hl⟩:=squares_f b1 b2 b3 b4 k (by omega)
 have hEl:E.length ≤ 30:=by have:=congrArg List.length hLE; simp at this; omega
 have hN:=edgesN_le (w:=w) (h:=h) (by omega) (by omega)
 have hbits:=bits_all w h (by omega) (by omega) (by omega) (by omega)
 unfold bitsSame at hbits
 rw [Bool.and_eq_true,beq_iff_eq,beq_iff_eq] at hbits
 obtain ⟨hb1,hb2⟩:=hbits
 have hmask:=sqMask_f hf ha hu k (by omega)
 have hset:=set_f hf ha hu k (by omega)
 generalize figMask (w:Int) (h:Int) a u = M at hM hM60 hmask hset
 have hal:2 ^ edgesN w h - 1 < 2 ^ 60:=by
  have:=Nat.pow_le_pow_right (show 0 < 2 by omega) (show edgesN w h ≤ 59 by omega)
  omega
 refine ⟨M,2 ^ edgesN w h - 1,edgesN w h,L,fun x => (cntN E x:Nat),fun x => (restN E x x:Nat),⟨hM60,hal,hset,hb2,hL,fun x hx => countOf_f hLE hE hEl x hx k (by omega),fun x hx => needless_f hLE hE hl x hx k (by omega)⟩,⟨hM,Nat.sub_lt (Nat.two_pow_pos _) (by omega),rfl⟩,fun mt mv sq td hr => ?_⟩
 unfold rightM mostM at hr
 simp only [Bool.true_and,Bool.and_eq_true,decide_eq_true_eq] at hr
 obtain ⟨m,rfl⟩:=Int.eq_ofNat_of_zero_le hr.1
 rw [Int.toNat_natCast]
 have hbk:spec_moBits.f k (w:Int) (h:Int) = some ((List.range (edgesN w h)).map g2):=up_rounds (fun k => spec_moBits.mono _ _ k) (show 100 ≤ k by omega) hb1
 have hmade:spec_moMade.f k (w:Int) (h:Int) a u (m:Int) mv = some ((waysW mv m (2 ^ edgesN w h - 1) M).map fun n:Nat => (n:Int)):=by
  unfold spec_moMade.f
  rw [hmask,Option.bind_some,hbk,Option.bind_some,if_pos ⟨hr.1,hr.2,by rw [List.length_map,List.length_range]; omega⟩,Int.toNat_natCast,made_eq hM (by omega)]
 unfold spec_moThose.f
 rw [hP,Option.bind_some,hmade,Option.bind_some]
 have hlt:=waysW_lt (mv:=mv) (mt:=m) hM60 hal
 have hlen:(waysW mv m (2 ^ edgesN w h - 1) M).length ≤ 64 ^ 4:=by
  unfold waysW piecesW
  have h0:=subsW_len m (bitsI M) 0
  have h1:(bitsI M).length ^ m ≤ 64 ^ m:=Nat.pow_le_pow_left (bitsI_len M) m
  cases mv with
  | false =>
   rw [if_neg (by simp),flatMap_one]
   have h2:64 ^ m ≤ 64 ^ 4:=Nat.pow_le_pow_right (by omega) (by have:=hr.2; simp at this; omega)
   omega
  | true =>
   rw [if_pos rfl]
   have h2:=flatMap_le (putsW_len m (2 ^ edgesN w h - 1) M) (subsW m (bitsI M) 0)
   have h3:64 ^ m ≤ 64 ^ 2:=Nat.pow_le_pow_right (by omega) (by have:=hr.2; simp at this; omega)
   have h4:(subsW m (bitsI M) 0).length * 64 ^ m ≤ 64 ^ 2 * 64 ^ 2:=Nat.mul_le_mul (by omega) h3
   omega
 have q:=moThose_l0 PL sq td (withP (fun x => (cntN E x:Nat)) (fun x => (restN E x x:Nat)) sq td) (waysW mv m (2 ^ edgesN w h - 1) M) 40 hlen (fun x hx k hk => ⟨_,_,sqCount_f hPE hE hEl x (hlt x hx) k hk,sqNeeded_f hPE hE hEl x (hlt x hx) k hk,by
  unfold withP
  congr 2
  rw [decide_eq_decide]
  constructor
  ·intro h
   have h':((restN E x x:Nat):Int) = 0:=h
   exact_mod_cast (tidy_iff E x).1 (by exact_mod_cast h')
  ·intro h
   show ((restN E x x:Nat):Int) = 0
   exact_mod_cast (tidy_iff E x).2 (by exact_mod_cast h)⟩) _ k 0 [] rfl (Nat.zero_le _) (by rw [Nat.sub_zero]; exact Nat.le_trans (Nat.add_le_add_right (Nat.add_le_add_right hlen 40) 1) (Nat.le_trans (by decide) (Nat.le_of_lt hk))) (Nat.le_refl _)
 rw [List.drop_zero,List.nil_append] at q
 rw [List.length_map]
 exact ⟨hlen,q⟩
theorem few_all {w h:Int} {a u:List Int} (hf:fewB w h a u = true) (ha:a.length ≤ 1000000) (hu:u.length ≤ 1000000) (k:Nat) (hk:20000000 < k) :
  ∃ (s al:Nat) (L:List S100) (cnt nd:Nat → Int),FigOK k w h a u s al L cnt nd ∧ ∀ (mt:Int) (mv:Bool) (sq:Int) (td:Bool),rightM true mt mv = true → spec_moThose.f k w h a u mt sq mv td = some (((waysW mv mt.toNat al s).filter (withP cnt nd sq td)).map fun n:Nat => (n:Int)):=by
 obtain ⟨s,al,N,L,cnt,nd,h1,-,h2⟩:=few_all2 hf ha hu k hk
 exact ⟨s,al,L,cnt,nd,h1,fun mt mv sq td hr => (h2 mt mv sq td hr).2⟩


set_option maxRecDepth 100000 in
set_option maxHeartbeats 8000000 in
theorem laws_toIntS_full (A0:Option Addr) (c0:Nat) (l0:List Int) (w:World) (hr0:Kd.C (Kd.int .i64) w A0 l0.length l0) (hc0:l0.length ≤ c0) (hbig:l0.length ≤ 1000000) :
    Calls Tryz.prog 26 #[.slice A0 l0.length c0,.bool false] w fun e w' => ∃ (g c:Nat),e = .returned (.slice (some ⟨g,0,none⟩) l0.length c) ∧ Kd.R (Kd.int .i64) 3 w' w.heap.size (fun _ => True) (.slice (some ⟨g,0,none⟩) (fullOf l0).length c) (fullOf l0) ∧ Below w.heap.size w w':=by
  have HR0:=am_ hr0
  clear hr0
  have HB:=am_ (Below.refl w.heap.size w)
  obtain ⟨n,hn⟩:∃ n,n = l0.length:=⟨_,rfl⟩
  have HN:=am_ hn
  rw [← hn] at hbig hc0 ⊢
  have hf:=roomN_f n
  have HF:=am_ hf
  have hm:=roomN_le n
  have hp:=roomN_pos n
  generalize hm':roomN n = m at hm hp HF
  have HM:=am_ hm'
  clear hf hn hm'
  obtain ⟨j,hj⟩:∃ j:Int,j = (n:Int) + (m:Int):=⟨_,rfl⟩
  have hjw:IntKind.i64.wrap ((n:Int) + (m:Int)) = j:=by rw [hj]; exact Go.IntWalk.i64_in _ (by omega)
  have hj0:0 ≤ j:=by omega
  have hj1:j.toNat * 8 ≤ 281474976710656:=by omega
  have hjn:j.toNat = n + m:=by omega
  have HJ:=am_ hj
  have HJN:=am_ hjn
  clear hj hjn
  go_enter Tryz.func26,Tryz.ntmps26
  go_wp2_with (first
    | (go_at_call 39; refine (laws_roomBehind.calls (n:Int) (m:Int) _ HF.out).mono ?_; rintro e w' ⟨rfl,⟨nd,rfl⟩⟩)
    | ((with_reducible refine gate_dst (N:=20) rfl ?_); refine Kd.R_make (Kd.int .i64) _ 3 rfl (N:=20) rfl 22 _ _ rfl j rfl rfl Tryz.underlying22 (.int .i64 0) 8 info3 rfl (by decide) (by omega) 0 (ok:=fun _ => True) (okp:=fun _ => True) rfl (fun _ hk => hk) trivial hj0 hj1 (pw_below_drewN HB.out _) HB.out.size ?_;
       intro v1 w2 ho hb hg_ hnew_; have HO:=am_ ho; have HB2:=am_ hb; clear ho hb hg_ hnew_))
  have hlen:(List.replicate j.toNat (0:Int)).length = n + m:=by rw [List.length_replicate,HJN.out]
  obtain ⟨g,c,eV,-,-,-⟩:=Kd.R_form HO.out (by rw [hlen]; omega)
  rw [hlen] at eV
  subst eV
  clear hlen
  obtain ⟨N,hN⟩:∃ N,N = n + m:=⟨_,rfl⟩
  have HNN:=am_ hN
  rw [← hN] at HO ⊢
  have hNn:n ≤ N:=by omega
  have hNb:N ≤ 2000001:=by omega
  clear hN
  have hX0:Aside0 (List.replicate j.toNat (0:Int) = l0.take 0 ++ List.replicate (N - 0) 0):=⟨by rw [HJN.out,← HNN.out]; exact room_at0 _ _⟩
  generalize List.replicate j.toNat (0:Int) = X0 at HO hX0
  go_loopg [6] n (fun gg u6 wr => ∃ (kk:Nat) (X:List Int),u6 = .int .i64 kk ∧ kk ≤ n ∧ n - kk ≤ gg ∧ Aside0 (X = l0.take kk ++ List.replicate (N - kk) 0) ∧ Aside0 (Kd.R (Kd.int .i64) 3 wr w.heap.size (fun _ => True) (.slice (some ⟨g,0,none⟩) N c) X) ∧ Aside0 (Below w.heap.size w wr))
  case atStart => exact ⟨0,X0,rfl,Nat.zero_le _,by omega,hX0,⟨by exact HO.out⟩,HB2⟩
  case round =>
    clear hX0 HO HB2
    obtain ⟨kk,X,rfl,h1,h2,HX,HO,HB3⟩:=hrel
    by_cases hlt:kk < n
    · have hltz:(kk:Int) < (n:Int):=by omega
      have hk0:(0:Int) ≤ (kk:Int):=by omega
      have hkN:(kk:Int) < (N:Int):=by omega
      obtain ⟨ad,eA,hx⟩:=Kd.at_int (Kd.C_below HR0.out HB3.out) (kk:Int) hk0 (by rw [← HN.out]; exact hltz)
      cases eA
      rw [Int.toNat_natCast] at hx
      obtain ⟨hy,hyf⟩:=Kd.R_celln 0 HO.out (kk:Int) hk0 hkN
      have HP:=Kd.R_putg HO.out (kk:Int) (rd l0 (kk:Int))
      rw [Int.toNat_natCast] at hy hyf HP
      have HPA:=am_ HP
      clear HP
      go_wp2_with (first | ((with_reducible refine gate_store (t:=3) (p:=33) rfl ?_); refine store_event (t:=3) (p:=33) (v:=?vo) (w1:=(wr.setCell ⟨g,kk,none⟩ (.int .i64 (rd l0 (kk:Int))))) ?hg ?ho ?hn ?hr ?_; (case ho => rfl); (case hg => rfl); (case hn => rfl); (case hr => first | (go_simp; done) | (go_simp; rfl)); intro w4 hw; have HO4:Aside0 (Kd.R (Kd.int .i64) 3 w4 w.heap.size (fun _ => True) (.slice (some ⟨g,0,none⟩) N c) (X.set kk (rd l0 (kk:Int)))):=⟨by rw [hw]; exact HPA.out.1⟩; have HB4:Aside0 (Below w.heap.size w w4):=⟨by rw [hw]; exact HB3.out.setCell (p:=⟨g,kk,none⟩) (Kd.R_base HO.out g (by simp [Value.ownBlock])) _⟩; clear hw HPA hy hyf))
      go_roundg (n - (kk + 1))
      case measure => omega
      case rel => exact ⟨kk + 1,_,by go_num,by omega,by omega,⟨by rw [HX.out,HN.out] at *; exact room_step1 l0 N kk (by omega) (by omega)⟩,HO4,HB4⟩
    · have e:kk = n:=by omega
      have HX2:Aside0 (X = l0 ++ List.replicate (kk - l0.length) (-7000000000000000101) ++ List.replicate (N - kk) 0):=⟨by rw [HX.out,e,HN.out]; exact room_mid l0 N⟩
      clear hlt h1 h2 HX
      have hnn:(kk:Int) = (n:Int):=by omega
      subst e
      clear hnn
      go_wp2_with fail
      go_loopg [7] (N - kk) (fun gg u7 wr => ∃ (k2:Nat) (X:List Int),u7 = .int .i64 k2 ∧ kk ≤ k2 ∧ k2 ≤ N ∧ N - k2 ≤ gg ∧ Aside0 (X = l0 ++ List.replicate (k2 - l0.length) (-7000000000000000101) ++ List.replicate (N - k2) 0) ∧ Aside0 (Kd.R (Kd.int .i64) 3 wr w.heap.size (fun _ => True) (.slice (some ⟨g,0,none⟩) N c) X) ∧ Aside0 (Below w.heap.size w wr))
      case atStart => exact ⟨kk,X,rfl,Nat.le_refl _,by omega,by omega,HX2,HO,HB3⟩
      case round =>
        clear HX2 HO HB3
        obtain ⟨k2,X,rfl,h0,h1,h2,HX,HO,HB3⟩:=hrel
        by_cases hlt:k2 < N
        · have hltz:(k2:Int) < (N:Int):=by omega
          have hk0:(0:Int) ≤ (k2:Int):=by omega
          obtain ⟨hy,hyf⟩:=Kd.R_celln 0 HO.out (k2:Int) hk0 hltz
          have HP:=Kd.R_putg HO.out (k2:Int) (-7000000000000000101)
          rw [Int.toNat_natCast] at hy hyf HP
          have HPA:=am_ HP
          clear HP
          have HB4:Aside0 (Below w.heap.size w (wr.setCell ⟨g,k2,none⟩ (.int .i64 (-7000000000000000101)))):=⟨HB3.out.setCell (p:=⟨g,k2,none⟩) (Kd.R_base HO.out g (by simp [Value.ownBlock])) _⟩
          go_wp2_with fail
          go_roundg (N - (k2 + 1))
          case measure => omega
          case rel => exact ⟨k2 + 1,_,by go_num,by omega,by omega,by omega,⟨by rw [HX.out]; exact room_step2 l0 N k2 (by rw [← HN.out]; omega) (by omega)⟩,⟨HPA.out.1⟩,HB4⟩
        · have e:k2 = N:=by omega
          have HXE:Aside0 (X = fullOf l0):=⟨by rw [HX.out,e,HNN.out,← HM.out,HN.out]; exact room_end l0⟩
          have HLE:Aside0 (N = (fullOf l0).length):=⟨by rw [fullOf_length,← HN.out,HM.out,HNN.out]⟩
          have hge:(N:Int) ≤ (k2:Int):=by omega
          have hcap:N ≤ c:=(Kd.R_reads' HO.out).2.1
          have hk0:(0:Int) ≤ (kk:Int):=by omega
          have hkc:(kk:Int) ≤ (c:Int):=by omega
          clear hlt h0 h1 h2 HX hge
          subst e
          go_wp2_with fail
          go_ret
          exact ⟨g,c,rfl,by have h:=HO.out; rw [HXE.out,HLE.out] at h; exact h,HB3.out⟩


set_option maxRecDepth 100000 in
set_option maxHeartbeats 8000000 in
theorem laws_toFigure_full (a0_0:Int) (a0_1:Int) (A0_2:Option Addr) (c0_2:Nat) (l0_2:List Int) (A0_3:Option Addr) (c0_3:Nat) (l0_3:List Int) (w:World) (hr0_2:Kd.C (Kd.int .i64) w A0_2 l0_2.length l0_2) (hc0_2:l0_2.length ≤ c0_2) (hr0_3:Kd.C (Kd.int .i64) w A0_3 l0_3.length l0_3) (hc0_3:l0_3.length ≤ c0_3) (hbig2:l0_2.length ≤ 1000000) (hbig3:l0_3.length ≤ 1000000) :
    Calls Tryz.prog 9 #[.agg #[.int .i64 a0_0,.int .i64 a0_1,.slice A0_2 l0_2.length c0_2,.slice A0_3 l0_3.length c0_3],.bool false] w fun e w' => ∃ (g2 c2 g3 c3:Nat),e = .returned (.agg #[.int .i64 a0_0,.int .i64 a0_1,.slice (some ⟨g2,0,none⟩) l0_2.length c2,.slice (some ⟨g3,0,none⟩) l0_3.length c3]) ∧
      Kd.R (Kd.int .i64) 3 w' w.heap.size (fun _ => True) (.slice (some ⟨g2,0,none⟩) (fullOf l0_2).length c2) (fullOf l0_2) ∧ Kd.R (Kd.int .i64) 3 w' w.heap.size (fun _ => True) (.slice (some ⟨g3,0,none⟩) (fullOf l0_3).length c3) (fullOf l0_3) ∧ g2 ≠ g3 ∧ Below w.heap.size w w':=by
  have hu24:=Tryz.underlying24
  have hu28:=Tryz.underlying26
  have HR2:=am_ hr0_2
  have HR3:=am_ hr0_3
  have HC2:=am_ hc0_2
  have HC3:=am_ hc0_3
  have HG2:=am_ hbig2
  have HG3:=am_ hbig3
  clear hr0_2 hr0_3 hc0_2 hc0_3 hbig2 hbig3
  go_enter Tryz.func9,Tryz.ntmps9
  go_wp2_with (first
    | (go_at_call 26; (with_reducible refine (laws_toIntS_full A0_2 c0_2 l0_2 _ ?s1 HC2.out HG2.out).mono ?_); (case s1 => exact Kd.C_alloc (Kd.C_alloc (Kd.C_alloc HR2.out _) _) _); rintro e w1 ⟨g2,c2,rfl,ho,hb⟩;
       have B0:=am_ (blk_keep (heap3_0 w _ _ _) hb); have B1:=am_ (blk_keep (heap3_1 w _ _ _) hb); have B2:=am_ (blk_keep (heap3_2 w _ _ _) hb); have HB:=am_ ((below_alloc (below_alloc (below_alloc (Below.refl w.heap.size w) _) _) _).trans (hb.mono (by first | (simp; done) | (simp; omega))));
       have G2:=am_ (Kd.R_base ho g2 (by simp [Value.ownBlock])); have HO:=am_ ho; clear hb ho;
       have k1:w1.cell? ⟨w.heap.size + 1 + 1,2,none⟩ = some (.slice none 0 0):=(bc_ B2.out 2).trans rfl; have k2:w1.frozen? ⟨w.heap.size + 1 + 1,2,none⟩ = false:=bz_ B2.out 2; have k3:w1.cell? ⟨w.heap.size,3,none⟩ = some (.slice A0_3 l0_3.length c0_3):=(bc_ B0.out 3).trans rfl)
    | (go_at_call 26; (with_reducible refine (laws_toIntS_full A0_3 c0_3 l0_3 _ ?s2 HC3.out HG3.out).mono ?_); (case s2 => exact Kd.C_below HR3.out (below_set (g:=w.heap.size + 1 + 1) HB.out (by omega))); rintro e w2 ⟨g3,c3,rfl,ho,hb⟩;
       have D0:=am_ (blk_keep (blk_far (p:=⟨w.heap.size + 1 + 1,2,none⟩) B0.out (by simp; omega) _) hb); have D1:=am_ (blk_keep (blk_far (p:=⟨w.heap.size + 1 + 1,2,none⟩) B1.out (by simp) _) hb); have D2:=am_ (blk_keep (blk_set B2.out 2 _) hb); have HB2:=am_ (below_step (below_set (g:=w.heap.size + 1 + 1) (j:=2) (v:=.slice (some ⟨g2,0,none⟩) l0_2.length c2) HB.out (by omega)) hb);
       have P2:=am_ (Kd.R_below (Kd.R_far (p:=⟨w.heap.size + 1 + 1,2,none⟩) (Kd.R_types (Kd.R_types HO.out B1.out (by decide)) B2.out (by decide)) (fun _ hk => hk.2) (.slice (some ⟨g2,0,none⟩) l0_2.length c2)) hb);
       have P3:=am_ (Kd.R_types (Kd.R_types ho D1.out (by decide)) D2.out (by decide)); have HNE:Aside0 (g2 ≠ g3):=⟨fun e => by have a1:=Kd.R_lt HO.out g2 (by simp [Value.ownBlock]); have a2:=Kd.R_base ho g3 (by simp [Value.ownBlock]); simp at a2; omega⟩; have HS1:=am_ HB.out.size; clear hb ho HO HB k1 k2 k3;
       have e0:w2.cell? ⟨w.heap.size + 1 + 1,0,none⟩ = some (.int .i64 a0_0):=(bc_ D2.out 0).trans rfl; have e1:w2.cell? ⟨w.heap.size + 1 + 1,1,none⟩ = some (.int .i64 a0_1):=(bc_ D2.out 1).trans rfl; have e2:w2.cell? ⟨w.heap.size + 1 + 1,2,none⟩ = some (.slice (some ⟨g2,0,none⟩) l0_2.length c2):=(bc_ D2.out 2).trans rfl; have e3:w2.cell? ⟨w.heap.size + 1 + 1,3,none⟩ = some (.slice none 0 0):=(bc_ D2.out 3).trans rfl; have e4:w2.frozen? ⟨w.heap.size + 1 + 1,3,none⟩ = false:=bz_ D2.out 3;
       have f0:w2.cell? ⟨w.heap.size + 1,0,none⟩ = some (.int .i64 0):=(bc_ D1.out 0).trans rfl; have f1:w2.cell? ⟨w.heap.size + 1,1,none⟩ = some (.int .i64 0):=(bc_ D1.out 1).trans rfl; have f2:w2.cell? ⟨w.heap.size + 1,2,none⟩ = some (.slice none 0 0):=(bc_ D1.out 2).trans rfl; have f3:w2.cell? ⟨w.heap.size + 1,3,none⟩ = some (.slice none 0 0):=(bc_ D1.out 3).trans rfl;
       have h0:w2.frozen? ⟨w.heap.size + 1,0,none⟩ = false:=bz_ D1.out 0; have h1:w2.frozen? ⟨w.heap.size + 1,1,none⟩ = false:=bz_ D1.out 1; have h2:w2.frozen? ⟨w.heap.size + 1,2,none⟩ = false:=bz_ D1.out 2; have h3:w2.frozen? ⟨w.heap.size + 1,3,none⟩ = false:=bz_ D1.out 3))
  refine bodyPost_ret (v:=.agg #[.int .i64 a0_0,.int .i64 a0_1,.slice (some ⟨g2,0,none⟩) l0_2.length c2,.slice (some ⟨g3,0,none⟩) l0_3.length c3]) (results_cell_row rfl _ _ (w.heap.size + 1) 26 #[.int .i64 a0_0,.int .i64 a0_1,.slice (some ⟨g2,0,none⟩) l0_2.length c2,.slice (some ⟨g3,0,none⟩) l0_3.length c3] (0,0) _ rfl (by refine blk_put (cs:=#[.int .i64 a0_0,.int .i64 a0_1,.slice (some ⟨g2,0,none⟩) l0_2.length c2,.slice none 0 0]) ?_ 3 _ rfl; refine blk_put (cs:=#[.int .i64 a0_0,.int .i64 a0_1,.slice none 0 0,.slice none 0 0]) ?_ 2 _ rfl; refine blk_put (cs:=#[.int .i64 a0_0,.int .i64 0,.slice none 0 0,.slice none 0 0]) ?_ 1 _ rfl; refine blk_put (cs:=#[.int .i64 0,.int .i64 0,.slice none 0 0,.slice none 0 0]) ?_ 0 _ rfl; refine blk_far ?_ (by simp) _; exact D1.out) Tryz.underlying26 rfl (by kernel_rfl)) rfl ⟨g2,c2,g3,c3,rfl,?_,?_,HNE.out,?_⟩
  · exact Kd.R_mono (Kd.R_lower (Kd.R_far (p:=⟨w.heap.size + 1,3,none⟩) (Kd.R_far (p:=⟨w.heap.size + 1,2,none⟩) (Kd.R_far (p:=⟨w.heap.size + 1,1,none⟩) (Kd.R_far (p:=⟨w.heap.size + 1,0,none⟩) (Kd.R_far (p:=⟨w.heap.size + 1 + 1,3,none⟩) P2.out (fun _ hk => hk.2) _) (fun _ hk => hk.1.2) _) (fun _ hk => hk.1.2) _) (fun _ hk => hk.1.2) _) (fun _ hk => hk.1.2) _) (by simp; omega)) (fun _ _ => trivial)
  · exact Kd.R_mono (Kd.R_lower (Kd.R_far (p:=⟨w.heap.size + 1,3,none⟩) (Kd.R_far (p:=⟨w.heap.size + 1,2,none⟩) (Kd.R_far (p:=⟨w.heap.size + 1,1,none⟩) (Kd.R_far (p:=⟨w.heap.size + 1,0,none⟩) (Kd.R_far (p:=⟨w.heap.size + 1 + 1,3,none⟩) P3.out (fun _ hk => hk.2) _) (fun _ hk => hk.1.2) _) (fun _ hk => hk.1.2) _) (fun _ hk => hk.1.2) _) (fun _ hk => hk.1.2) _) (by simp; exact HS1.out)) (fun _ _ => trivial)
  · exact below_set (g:=w.heap.size + 1) (below_set (g:=w.heap.size + 1) (below_set (g:=w.heap.size + 1) (below_set (g:=w.heap.size + 1) (below_set (g:=w.heap.size + 1 + 1) HB2.out (by omega)) (by omega)) (by omega)) (by omega)) (by omega)


theorem laws_eqIntS_l0_refl (L:List Int) (hL:L.length ≤ 4000000):∀ (d:Nat) (k:Nat) (i:Nat),L.length - i = d → i ≤ L.length → d < k → laws_eqIntS.l0 k L L (i:Int) = some true:=by
  intro d
  induction d with
  | zero =>
    intro k i h1 h2 h3
    obtain ⟨k,rfl⟩:∃ m,k = m + 1:=⟨k - 1,by omega⟩
    simp only [laws_eqIntS.l0]
    rw [if_neg (by omega)]
  | succ d ih =>
    intro k i h1 h2 h3
    obtain ⟨k,rfl⟩:∃ m,k = m + 1:=⟨k - 1,by omega⟩
    simp only [laws_eqIntS.l0]
    rw [if_pos (by omega),if_pos (by omega),if_pos (by omega),if_pos True.intro,show wrap64 ((i:Int) + 1) = ((i + 1:Nat):Int) by unfold wrap64; omega]
    exact ih k (i + 1) (by omega) (by omega) (by omega)
theorem laws_eqIntS_refl (L:List Int) (hL:L.length ≤ 4000000) (k:Nat) (hk:L.length < k):laws_eqIntS.f k L L = some true:=by
  unfold laws_eqIntS.f
  rw [if_pos rfl]
  exact laws_eqIntS_l0_refl L hL L.length k 0 (by omega) (by omega) hk
set_option maxRecDepth 100000 in
set_option maxHeartbeats 8000000 in
theorem laws_intactIntS_full (g0 c0 g1 c1:Nat) (l:List Int) (w:World) (hr0:Kd.C (Kd.int .i64) w (some ⟨g0,0,none⟩) (fullOf l).length (fullOf l)) (hc0:(fullOf l).length ≤ c0) (hr1:Kd.C (Kd.int .i64) w (some ⟨g1,0,none⟩) (fullOf l).length (fullOf l)) (hc1:(fullOf l).length ≤ c1) (hbig:l.length ≤ 1000000) :
    Calls Tryz.prog 29 #[.slice (some ⟨g0,0,none⟩) l.length c0,.slice (some ⟨g1,0,none⟩) l.length c1] w fun e w' => e = .returned (.bool true) ∧ Drawn0 w w':=by
  have HF:=am_ (roomN_f l.length)
  have hm:=roomN_le l.length
  have hL:=fullOf_length l
  have hq:laws_eqIntS.f (l.length + roomN l.length + 1) (fullOf l) (fullOf l) = some true:=laws_eqIntS_refl _ (by omega) _ (by omega)
  have HQ:=am_ hq
  clear hq
  generalize fullOf l = L at hr0 hr1 hc0 hc1 HQ hL
  generalize hn:l.length = n at hbig HF hm HQ hL ⊢
  clear hn
  generalize roomN n = m at HF hm HQ hL
  obtain ⟨N,hN⟩:∃ N,N = n + m:=⟨_,rfl⟩
  have hLN:L.length = N:=by omega
  have HR0:Aside0 (∀ W,Drawn0 w W → Kd.C (Kd.int .i64) W (some ⟨g0,0,none⟩) L.length L):=⟨fun W h => by obtain ⟨⟨q,rfl⟩⟩:=h; exact Kd.C_drewN hr0 q⟩
  have HR1:Aside0 (∀ W,Drawn0 w W → Kd.C (Kd.int .i64) W (some ⟨g1,0,none⟩) L.length L):=⟨fun W h => by obtain ⟨⟨q,rfl⟩⟩:=h; exact Kd.C_drewN hr1 q⟩
  have HCL:=am_ hLN
  rw [hLN] at hc0 hc1
  have hsum:IntKind.i64.wrap ((n:Int) + (m:Int)) = (N:Int):=by rw [hN]; exact (Go.IntWalk.i64_in _ (by omega)).trans (by simp)
  have p0:(0:Int) ≤ (N:Int):=by omega
  have p1:(N:Int) ≤ (c0:Int):=by omega
  have p2:(N:Int) ≤ (c1:Int):=by omega
  have HE:Aside0 (∀ W:World,Drawn0 w W → Calls Tryz.prog 28 #[.slice (some ⟨g0,0,none⟩) N c0,.slice (some ⟨g1,0,none⟩) N c1] W fun e w' => e = .returned (.bool true) ∧ Drawn0 W w'):=⟨fun W hW => by
    have h:=laws_eqIntS.calls (n + m + 1) (some ⟨g0,0,none⟩) c0 L (some ⟨g1,0,none⟩) c1 L true W (HR0.out W hW) (by omega) (HR1.out W hW) (by omega) HQ.out
    rw [HCL.out] at h
    exact h⟩
  clear hr0 hr1 hL hLN hN hm HQ HCL HR0 HR1 hbig
  go_enter Tryz.func29,Tryz.ntmps29
  go_wp2_with (first
    | (go_at_call 39; refine (laws_roomBehind.calls (n:Int) (m:Int) _ HF.out).mono ?_; rintro e w' ⟨rfl,⟨nd,rfl⟩⟩))
  go_quiet ((go_at_call 28; refine (HE.out _ ?d1).mono ?_; (case d1 => repeat (first | exact Drawn0.refl _ | apply Drawn0.step)); rintro e w' ⟨rfl,⟨nd2,rfl⟩⟩; first | exact ⟨rfl,_,World.drewN_drewN _ _ _⟩ | exact ⟨rfl,_,Eq.trans (World.drewN_drewN _ _ _) (congrArg (World.drewN _) (Nat.add_assoc _ _ _))⟩))
  go_wp2
  go_ret
  exact ⟨rfl,by repeat (first | exact Drawn0.refl _ | apply Drawn0.step)⟩


set_option maxRecDepth 100000 in
set_option maxHeartbeats 8000000 in
theorem laws_intactFigure_full (a0 a1:Int) (g2 c2 g3 c3 h2 d2 h3 d3:Nat) (l m:List Int) (w:World) (r2:Kd.C (Kd.int .i64) w (some ⟨g2,0,none⟩) (fullOf l).length (fullOf l)) (b2:(fullOf l).length ≤ c2) (r3:Kd.C (Kd.int .i64) w (some ⟨g3,0,none⟩) (fullOf m).length (fullOf m)) (b3:(fullOf m).length ≤ c3)
    (s2:Kd.C (Kd.int .i64) w (some ⟨h2,0,none⟩) (fullOf l).length (fullOf l)) (e2:(fullOf l).length ≤ d2) (s3:Kd.C (Kd.int .i64) w (some ⟨h3,0,none⟩) (fullOf m).length (fullOf m)) (e3:(fullOf m).length ≤ d3) (hl:l.length ≤ 1000000) (hm:m.length ≤ 1000000) :
    Calls Tryz.prog 12 #[.agg #[.int .i64 a0,.int .i64 a1,.slice (some ⟨g2,0,none⟩) l.length c2,.slice (some ⟨g3,0,none⟩) m.length c3],.agg #[.int .i64 a0,.int .i64 a1,.slice (some ⟨h2,0,none⟩) l.length d2,.slice (some ⟨h3,0,none⟩) m.length d3]] w fun e w' => e = .returned (.bool true) ∧ Below w.heap.size w w':=by
  have hu28:=Tryz.underlying26
  have H2:Aside0 (∀ W,Below w.heap.size w W → Calls Tryz.prog 29 #[.slice (some ⟨g2,0,none⟩) l.length c2,.slice (some ⟨h2,0,none⟩) l.length d2] W fun e w' => e = .returned (.bool true) ∧ Drawn0 W w'):=⟨fun W hW => laws_intactIntS_full g2 c2 h2 d2 l W (Kd.C_below r2 hW) b2 (Kd.C_below s2 hW) e2 hl⟩
  have H3:Aside0 (∀ W,Below w.heap.size w W → Calls Tryz.prog 29 #[.slice (some ⟨g3,0,none⟩) m.length c3,.slice (some ⟨h3,0,none⟩) m.length d3] W fun e w' => e = .returned (.bool true) ∧ Drawn0 W w'):=⟨fun W hW => laws_intactIntS_full g3 c3 h3 d3 m W (Kd.C_below r3 hW) b3 (Kd.C_below s3 hW) e3 hm⟩
  clear r2 r3 s2 s3 b2 b3 e2 e3 hl hm
  generalize l.length = n2 at H2 ⊢
  generalize m.length = n3 at H3 ⊢
  have HB:Aside0 (Below w.heap.size w w):=⟨Below.refl _ _⟩
  go_enter Tryz.func12,Tryz.ntmps12
  go_wp2_with (first
    | (go_at_call 29; (with_reducible refine (H2.out _ ?s1).mono ?_); (case s1 => repeat (first | exact HB.out | apply below_alloc | apply pw_below_drewN | apply below_drew1)); rintro e w' ⟨rfl,⟨nd,rfl⟩⟩)
    | (go_at_call 29; (with_reducible refine (H3.out _ ?s1).mono ?_); (case s1 => repeat (first | exact HB.out | apply below_alloc | apply pw_below_drewN | apply below_drew1)); rintro e w' ⟨rfl,⟨nd,rfl⟩⟩))
  go_ret
  exact ⟨rfl,by repeat (first | exact HB.out | apply below_alloc | apply pw_below_drewN | apply below_drew1)⟩

end Go.Proofs.YtehjfaddhmdicaaGreatDoor.P
