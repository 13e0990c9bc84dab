/- For every input the law FnExactPartsOfFigure answers true: the program's PartsOfFigure tells what the reference's PartsOfFigure tells; no condition. (part 2 of the proof; the words of the kit's print tool and the texts of this seat, merged by a program) -/
import Derived.Laws.Bits64b
import Derived.Lib.TrailingZeros
import Derived.Test.YtjnajeplfgdklaaDoorMPOF1
namespace Go.Proofs.YtjnajeplfgdklaaDoor.P
open Go.RowKit Go.Proofs.YtjnajeplfgdklaaDoorW.PrintWords Go.Proofs.YtjnajeplfgdklaaDoorW.PrintLast Go.Proofs.YtjnajeplfgdklaaDoorW.PrintMore
attribute [local go_sem] max2_int min2_int max_two min_two max_three min_three max_four min_four   -- for this text's walks alone
set_option linter.unusedVariables false
set_option linter.unusedSimpArgs false

def impl_within.f (a0:Int) (a1:Int) (a2:Int):Option (Bool):=if a1 ≤ a0 then (some (decide (a0 ≤ a2))) else (some false)
set_option maxHeartbeats 8000000 in
set_option maxRecDepth 100000 in
theorem impl_within.calls (a0:Int) (a1:Int) (a2:Int) (r:Bool) (w:World) (h:impl_within.f a0 a1 a2 = some r) :
    Calls Tryd.prog 79 #[.int .i64 a0,.int .i64 a1,.int .i64 a2] w fun e w' => e = .returned (.bool r) ∧ Drawn0 w w':=by
  have H:(if a1 ≤ a0 then (some (decide (a0 ≤ a2))) else (some false)) = some r:=h
  clear h
  by_cases c4:a1 ≤ a0
  · rw [if_pos c4] at H
    have c4b0:decide (a1 ≤ a0) = true:=decide_eq_true c4
    clear c4
    obtain rfl:=Option.some.inj H
    go_enter Tryd.func79,Tryd.ntmps79
    go_wp2
    go_ret
    exact ⟨by first | rfl | (simp; done) | (simp [*]; done),by repeat (first | exact Drawn0.refl _ | apply Drawn0.step)⟩
  · rw [if_neg c4] at H
    have c4b0:decide (a1 ≤ a0) = false:=decide_eq_false c4
    clear c4
    obtain rfl:=Option.some.inj H
    go_enter Tryd.func79,Tryd.ntmps79
    go_wp2
    go_ret
    exact ⟨by first | rfl | (simp; done) | (simp [*]; done),by repeat (first | exact Drawn0.refl _ | apply Drawn0.step)⟩


def impl_isGrid.f (a0:Int) (a1:Int):Option (Bool):=(impl_within.f a0 1 4).bind fun t212 => (if t212 = true then ((impl_within.f a1 1 4).bind fun t213 => (some t213)) else (some false))
set_option maxHeartbeats 8000000 in
set_option maxRecDepth 100000 in
theorem impl_isGrid.calls (a0:Int) (a1:Int) (r:Bool) (w:World) (h:impl_isGrid.f a0 a1 = some r) :
    Calls Tryd.prog 75 #[.int .i64 a0,.int .i64 a1] w fun e w' => e = .returned (.bool r) ∧ Drawn0 w w':=by
  have H:((impl_within.f a0 1 4).bind fun t212 => (if t212 = true then ((impl_within.f a1 1 4).bind fun t213 => (some t213)) else (some false))) = some r:=h
  clear h
  replace H:=Option.bind_eq_some_iff.mp H
  obtain ⟨t212,A30,H⟩:=H
  replace H:(if t212 = true then ((impl_within.f a1 1 4).bind fun t213 => (some t213)) else (some false)) = some r:=H
  have A3:=Aside0.mk A30
  clear A30
  by_cases c4:t212 = true
  · subst c4
    have H1:((impl_within.f a1 1 4).bind fun t213 => (some t213)) = some r:=by rw [if_pos rfl] at H; exact H
    clear H
    have H:=H1
    clear H1
    replace H:=Option.bind_eq_some_iff.mp H
    obtain ⟨t213,A50,H⟩:=H
    replace H:(some t213) = some r:=H
    have A5:=Aside0.mk A50
    clear A50
    obtain rfl:=Option.some.inj H
    go_enter Tryd.func75,Tryd.ntmps75
    go_wp2_with (first | ((with_reducible refine gate_callee (f:=79) rfl ?_); refine goesL_ (some 6) rfl rfl Tryd.func79 (by kernel_rfl) rfl #[.int .i64 a0,.int .i64 1,.int .i64 4] rfl ob_ ?_; (with_reducible refine (impl_within.calls a0 1 4 true _ A3.out).mono ?_); rintro e w' ⟨rfl,⟨nd,rfl⟩⟩; refine ⟨_,rfl,?_⟩) | (go_at_call 79; (with_reducible refine (impl_within.calls a1 1 4 t213 _ A5.out).mono ?_); rintro e w' ⟨rfl,⟨nd,rfl⟩⟩))
    go_ret
    exact ⟨by first | rfl | (simp; done) | (simp [*]; done),by repeat (first | exact Drawn0.refl _ | apply Drawn0.step)⟩
  · replace c4:=Bool.eq_false_iff.mpr c4
    subst c4
    have H1:(some false) = some r:=by rw [if_neg (show ¬ (false = true) by decide)] at H; exact H
    clear H
    have H:=H1
    clear H1
    obtain rfl:=Option.some.inj H
    go_enter Tryd.func75,Tryd.ntmps75
    go_wp2_with (first | ((with_reducible refine gate_callee (f:=79) rfl ?_); refine goesL_ (some 6) rfl rfl Tryd.func79 (by kernel_rfl) rfl #[.int .i64 a0,.int .i64 1,.int .i64 4] rfl ob_ ?_; (with_reducible refine (impl_within.calls a0 1 4 false _ A3.out).mono ?_); rintro e w' ⟨rfl,⟨nd,rfl⟩⟩; refine ⟨_,rfl,?_⟩))
    go_ret
    exact ⟨by first | rfl | (simp; done) | (simp [*]; done),by repeat (first | exact Drawn0.refl _ | apply Drawn0.step)⟩


def impl_isRising.l0:Nat → List Int → Int → Option (Bool)
  | 0,_,_ => none
  | k + 1,x0,x3 => if x3 < (x0.length:Int) then (if 0 ≤ x3 then (if 0 ≤ (wrap64 (x3 - 1)) then (if (wrap64 (x3 - 1)) < (x0.length:Int) then (if (rd x0 x3) ≤ (rd x0 (wrap64 (x3 - 1))) then (some false) else (impl_isRising.l0 k x0 (wrap64 (x3 + 1)))) else (none)) else (none)) else (none)) else (some true)
def impl_isRising.f (k:Nat) (l0:List Int):Option (Bool):=impl_isRising.l0 k l0 1
theorem impl_isRising.mono_l:∀ k,(∀ y0 y1,LeO (impl_isRising.l0 k y0 y1) (impl_isRising.l0 (k + 1) y0 y1))
  | 0 => fun _ _ r h => by simp [impl_isRising.l0] at h
  | k + 1 => by
    have ih0:=impl_isRising.mono_l k
    · intro y0 y1
      unfold impl_isRising.l0
      repeat' first
      | (with_reducible exact ih0 _ _)
      | (with_reducible exact LeO.refl _)
      | (with_reducible exact LeO.none _)
      | (with_reducible refine LeO.ite ?_ ?_)
      | (with_reducible refine LeO.bind ?_ (fun _ => ?_))
      | exact ih0 _ _
      | exact LeO.none _
      | refine LeO.ite ?_ ?_
      | refine LeO.bind ?_ (fun _ => ?_)
theorem impl_isRising.mono:∀ a0 k,LeO (impl_isRising.f k a0) (impl_isRising.f (k + 1) a0):=by
  intro a0 k
  have ih0:=impl_isRising.mono_l k
  unfold impl_isRising.f
  repeat' first
      | (with_reducible exact ih0 _ _)
      | (with_reducible exact LeO.refl _)
      | (with_reducible exact LeO.none _)
      | (with_reducible refine LeO.ite ?_ ?_)
      | (with_reducible refine LeO.bind ?_ (fun _ => ?_))
      | exact ih0 _ _
      | exact LeO.none _
      | refine LeO.ite ?_ ?_
      | refine LeO.bind ?_ (fun _ => ?_)
set_option maxHeartbeats 8000000 in
set_option maxRecDepth 100000 in
theorem impl_isRising.calls (k:Nat) (A0:Option Addr) (c0:Nat) (l0:List Int) (r:Bool) (w:World) (hr0:Kd.C (Kd.int .i64) w A0 l0.length l0) (hc0:l0.length ≤ c0) (h:impl_isRising.f k l0 = some r) :
    Calls Tryd.prog 76 #[.slice A0 l0.length c0] w fun e w' => e = .returned (.bool r) ∧ Drawn0 w w':=by
  have HR0:=Aside0.mk hr0
  have HC0:=Aside0.mk hc0
  clear hr0 hc0
  have H:(impl_isRising.l0 k l0 1) = some r:=h
  clear h
  have H':=Aside0.mk H
  clear H
  go_enter Tryd.func76,Tryd.ntmps76
  go_wp2
  repeat (go_quiet (fail); try go_wp2)
  go_loopg [3] k (fun kq v3 w' => ∃ (x3_1:Int),v3 = .int .i64 x3_1 ∧ Aside0 (impl_isRising.l0 kq l0 x3_1 = some r) ∧ Aside0 (kq ≤ k) ∧ Drawn0 w w')
  case atStart => exact ⟨(1),rs_,H',⟨Nat.le_refl _⟩,by repeat (first | exact Drawn0.refl _ | apply Drawn0.step)⟩
  case round =>
    clear H'
    obtain ⟨x3_1,rfl,HA,HK1,⟨m1,rfl⟩⟩:=hrel
    cases gk with
    | zero => exact absurd HA.out (by simp [impl_isRising.l0])
    | succ k1 =>
      have H:=HA.out
      clear HA
      simp only [impl_isRising.l0] at H
      by_cases c2:x3_1 < (l0.length:Int)
      · rw [if_pos c2] at H
        have c2b0:decide (x3_1 < (l0.length:Int)) = true:=decide_eq_true c2
        clear c2
        by_cases c3:0 ≤ x3_1
        · rw [if_pos c3] at H
          have c3b0:decide (0 ≤ x3_1) = true:=decide_eq_true c3
          clear c3
          obtain ⟨ji4,hji4⟩:∃ j_:Int,(wrap64 (x3_1 - 1)) = j_:=⟨_,rfl⟩
          replace H:(if 0 ≤ (ji4) then (if (ji4) < (l0.length:Int) then (if (rd l0 x3_1) ≤ (rd l0 (ji4)) then (some false) else (impl_isRising.l0 k1 l0 (wrap64 (x3_1 + 1)))) else (none)) else (none)) = some r:=by first | (rw [hji4] at H; exact H) | (simp only [hji4] at H ⊢; exact H)
          have hji4w:(IntKind.i64.wrap (x3_1 - 1)) = ji4:=(i64_w _).trans hji4
          by_cases c5:0 ≤ (ji4)
          · rw [if_pos c5] at H
            have c5b0:decide (0 ≤ (ji4)) = true:=decide_eq_true c5
            clear c5
            by_cases c6:(ji4) < (l0.length:Int)
            · rw [if_pos c6] at H
              have c6b0:decide ((ji4) < (l0.length:Int)) = true:=decide_eq_true c6
              clear c6
              by_cases c7:(rd l0 x3_1) ≤ (rd l0 (ji4))
              · rw [if_pos c7] at H
                have c7b0:decide ((rd l0 x3_1) ≤ (rd l0 (ji4))) = true:=decide_eq_true c7
                clear c7
                obtain rfl:=Option.some.inj H
                have p214:0 ≤ (x3_1:Int):=of_decide_eq_true as_
                have q214:x3_1 < (l0.length:Int):=of_decide_eq_true as_
                obtain ⟨ad214,e214,hx214_0⟩:=Kd.at_int HR0.out x3_1 p214 q214
                cases e214
                replace p214:=eq_true p214
                replace q214:=eq_true q214
                have p215:0 ≤ ((ji4):Int):=of_decide_eq_true as_
                have q215:(ji4) < (l0.length:Int):=of_decide_eq_true as_
                obtain ⟨ad215,e215,hx215_0⟩:=Kd.at_int HR0.out (ji4) p215 q215
                obtain rfl:ad214 = ad215:=(by injection e215)
                replace p215:=eq_true p215
                replace q215:=eq_true q215
                go_wp2
                repeat (go_quiet (fail); try go_wp2)
                go_ret
                exact ⟨by first | rfl | (simp; done) | (simp only [← hji4] <;> (first | rfl | simp)) | (simp [*]; done),by repeat (first | exact Drawn0.refl _ | apply Drawn0.step)⟩
              · rw [if_neg c7] at H
                have c7b0:decide ((rd l0 x3_1) ≤ (rd l0 (ji4))) = false:=decide_eq_false c7
                clear c7
                have H':=Aside0.mk H
                clear H
                have p214:0 ≤ (x3_1:Int):=of_decide_eq_true as_
                have q214:x3_1 < (l0.length:Int):=of_decide_eq_true as_
                obtain ⟨ad214,e214,hx214_0⟩:=Kd.at_int HR0.out x3_1 p214 q214
                cases e214
                replace p214:=eq_true p214
                replace q214:=eq_true q214
                have p215:0 ≤ ((ji4):Int):=of_decide_eq_true as_
                have q215:(ji4) < (l0.length:Int):=of_decide_eq_true as_
                obtain ⟨ad215,e215,hx215_0⟩:=Kd.at_int HR0.out (ji4) p215 q215
                obtain rfl:ad214 = ad215:=(by injection e215)
                replace p215:=eq_true p215
                replace q215:=eq_true q215
                go_wp2
                repeat (go_quiet (fail); try go_wp2)
                go_roundg k1
                case measure => have:=HK1.out; omega
                case rel => exact ⟨(wrap64 (x3_1 + 1)),rs_,H',⟨by have:=HK1.out; omega⟩,by repeat (first | exact Drawn0.refl _ | apply Drawn0.step)⟩
            · rw [if_neg c6] at H
              exact absurd H (by simp)
          · rw [if_neg c5] at H
            exact absurd H (by simp)
        · rw [if_neg c3] at H
          exact absurd H (by simp)
      · rw [if_neg c2] at H
        have c2b0:decide (x3_1 < (l0.length:Int)) = false:=decide_eq_false c2
        clear c2
        obtain rfl:=Option.some.inj H
        go_wp2
        repeat (go_quiet (fail); try go_wp2)
        go_ret
        exact ⟨by first | rfl | (simp; done) | (simp [*]; done),by repeat (first | exact Drawn0.refl _ | apply Drawn0.step)⟩


set_option maxHeartbeats 2000000 in
theorem containsI_any (g:Nat) (lb:Array Value) (p:Int → Bool) (eg:∀ args w,(callFunc g args).run Tryd.prog w = .ok (.enter g args) w) (A0:Option Addr) (c0:Nat) (l0:List Int) (w:World) (hr0:Kd.C (Kd.int .i64) w A0 l0.length l0) (hp:PredI g lb p w) :
    Calls Tryd.prog 99 #[.slice A0 l0.length c0,.func (.func g) #[] lb] w fun e w' => e = .returned (.bool (l0.any p)) ∧ Below w.heap.size w w':=by
  rw [← idxFrom_ge p l0 0]
  have h:=indexI_any g lb p eg A0 c0 l0 w hr0 hp
  clear hr0 hp
  go_enter Tryd.func99,Tryd.ntmps99
  go_wp2_with (go_at_call 109; refine h.mono ?_; rintro e w' ⟨rfl,hb'⟩)
  go_ret
  exact ⟨rfl,hb'⟩


def impl_areWithin.f (l0:List Int) (a1:Int) (a2:Int):Option Bool:=some (l0.all fun x => decide (a1 ≤ x) && decide (x ≤ a2))
theorem areWithin_lit (a1 a2 x:Int) (B1 B2:Nat) (W:World) (h1:W.cell? ⟨B1,0,none⟩ = some (.int .i64 a1)) (h2:W.cell? ⟨B2,0,none⟩ = some (.int .i64 a2)) :
    Calls Tryd.prog 100 #[.int .i64 x,.pointer (some ⟨B1,0,none⟩),.pointer (some ⟨B2,0,none⟩)] W fun e w' => e = .returned (.bool (!(decide (a1 ≤ x) && decide (x ≤ a2)))) ∧ Below W.heap.size W w':=by
  have hw:impl_within.f x a1 a2 = some (decide (a1 ≤ x) && decide (x ≤ a2)):=by
    unfold impl_within.f
    by_cases h:a1 ≤ x <;> simp [h]
  have HW:=Aside0.mk hw
  clear hw
  generalize (decide (a1 ≤ x) && decide (x ≤ a2)) = r at HW ⊢
  go_enter Tryd.func100,Tryd.ntmps100
  go_wp2_with (go_at_call 79; refine (impl_within.calls _ _ _ r _ HW.out).mono ?_; rintro e w' ⟨rfl,⟨nd,rfl⟩⟩)
  go_ret
  exact ⟨by first | rfl | simp,pw_below_drewN (Below.refl _ _) nd⟩
theorem impl_areWithin.calls (A0:Option Addr) (c0:Nat) (l0:List Int) (a1:Int) (a2:Int) (r:Bool) (w:World) (hr0:Kd.C (Kd.int .i64) w A0 l0.length l0) (hc0:l0.length ≤ c0) (h:impl_areWithin.f l0 a1 a2 = some r) :
    Calls Tryd.prog 77 #[.slice A0 l0.length c0,.int .i64 a1,.int .i64 a2] w fun e w' => e = .returned (.bool r) ∧ Below w.heap.size w w':=by
  obtain rfl:=Option.some.inj h
  clear h
  have eg:∀ args w,(callFunc 100 args).run Tryd.prog w = .ok (.enter 100 args) w:=Go.Proofs.enters_of Tryd.func100 (by kernel_rfl) rfl
  have hcon:∀ W:World,Aside0 (Below w.heap.size w W) → W.cell? ⟨w.heap.size,0,none⟩ = some (.int .i64 a1) → W.cell? ⟨w.heap.size + 1,0,none⟩ = some (.int .i64 a2) → w.heap.size + 1 < W.heap.size → Calls Tryd.prog 99 #[.slice A0 l0.length c0,.func (.func 100) #[] #[.pointer (some ⟨w.heap.size,0,none⟩),.pointer (some ⟨w.heap.size + 1,0,none⟩)]] W fun e w' => e = .returned (.bool (!(l0.all fun x => decide (a1 ≤ x) && decide (x ≤ a2)))) ∧ Below W.heap.size W w':=fun W hB h1 h2 hs => by
    have hp:PredI 100 #[.pointer (some ⟨w.heap.size,0,none⟩),.pointer (some ⟨w.heap.size + 1,0,none⟩)] (fun x => !(decide (a1 ≤ x) && decide (x ≤ a2))) W:=fun W2 x hb =>
      areWithin_lit a1 a2 x _ _ W2 ((hb.cell (p:=⟨w.heap.size,0,none⟩) (by show w.heap.size < _; omega)).trans h1) ((hb.cell (p:=⟨w.heap.size + 1,0,none⟩) hs).trans h2)
    have:=containsI_any _ _ _ eg A0 c0 l0 W (Kd.C_below hr0 hB.out) hp
    rw [show (l0.any fun x => !(decide (a1 ≤ x) && decide (x ≤ a2))) = !(l0.all fun x => decide (a1 ≤ x) && decide (x ≤ a2)) by rw [List.not_all_eq_any_not]] at this
    exact this
  clear hr0 hc0 eg
  have HC:=Aside0.mk hcon
  clear hcon
  have hmf:∀ (fn:Fn) (first cap:Array Value) (w:World),(Instr.makeFunc fn first cap).run Tryd.prog w = .ok (.func fn first cap) w:=fun _ _ _ _ => rfl
  generalize (l0.all fun x => decide (a1 ≤ x) && decide (x ≤ a2)) = r at HC
  go_enter Tryd.func77,Tryd.ntmps77
  go_wp2_with (go_at_call 99; refine (HC.out _ ⟨((Below.refl _ _).alloc (Nat.le_refl _) _).alloc (by simp) _⟩ (by simp) (by simp) (by simp)).mono ?_; rintro e w' ⟨rfl,hb'⟩)
  go_ret
  exact ⟨by simp,(((Below.refl _ _).alloc (Nat.le_refl _) _).alloc (by simp) _).trans (hb'.mono (by simp; omega))⟩


def impl_grid_uprights.f (a0_0:Int) (a0_1:Int):Option (Int):=some (wrap64 (a0_1 * (wrap64 (a0_0 + 1))))
set_option maxHeartbeats 8000000 in
set_option maxRecDepth 100000 in
theorem impl_grid_uprights.calls (a0_0:Int) (a0_1:Int) (r:Int) (w:World) (h:impl_grid_uprights.f a0_0 a0_1 = some r) :
    Calls Tryd.prog 78 #[.agg #[.int .i64 a0_0,.int .i64 a0_1]] w fun e w' => e = .returned (.int .i64 r) ∧ Below w.heap.size w w':=by
  have hu49:=Tryd.underlying49
  have HB:=Aside0.mk (Below.refl w.heap.size w)
  have H:(some (wrap64 (a0_1 * (wrap64 (a0_0 + 1))))) = some r:=h
  clear h
  obtain rfl:=Option.some.inj H
  go_enter Tryd.func78,Tryd.ntmps78
  go_wp2_with (first | ((with_reducible refine gate_dst (N:=1) rfl ?_); refine boxE_ (N:=1) (cs:=#[.int .i64 a0_0,.int .i64 a0_1]) (t:=49) ?_; intro gb216 hg w2 hbox hb; have n0_:=Aside0.mk (below_step (bl0_ HB.out) hb); have n1_:=Aside0.mk (hbox); have n2_:=Aside0.mk ((bs0_ hg HB.out:w.heap.size ≤ gb216)); have n3_:=Aside0.mk ((bs0_ hg HB.out:w.heap.size ≤ gb216)); clear HB; have HB:=n0_; have BK216:=n1_; have GW216:=n2_; have GE216:=n3_; clear n0_ n1_ n2_ n3_; clear hb hbox hg; have hcz3_0:w2.cell? ⟨gb216,0,none⟩ = some (.int .i64 a0_0):=(blk_cell BK216.out 0).trans rfl; have hcz3_1:w2.cell? ⟨gb216,1,none⟩ = some (.int .i64 a0_1):=(blk_cell BK216.out 1).trans rfl; have hfz3_0:=blk_frozen BK216.out 0; have hfz3_1:=blk_frozen BK216.out 1))
  go_ret
  exact ⟨er_,bl1_ HB.out GE216.out⟩


def impl_IsFigure.f (k:Nat) (a0_0:Int) (a0_1:Int) (l0_2:List Int) (l0_3:List Int):Option (Bool):=(impl_isGrid.f a0_0 a0_1).bind fun t218 => (if t218 = true then ((impl_isRising.f k l0_2).bind fun t219 => (if t219 = true then ((impl_isRising.f k l0_3).bind fun t220 => (if t220 = true then ((impl_Figure_grid.f a0_0 a0_1 l0_2 l0_3).bind fun bt221 => ((impl_grid_levels.f bt221.1 bt221.2).bind fun t223 => ((impl_areWithin.f l0_2 0 (wrap64 (t223 - 1))).bind fun t224 => (if t224 = true then ((impl_Figure_grid.f a0_0 a0_1 l0_2 l0_3).bind fun bt225 => ((impl_grid_uprights.f bt225.1 bt225.2).bind fun t227 => ((impl_areWithin.f l0_3 0 (wrap64 (t227 - 1))).bind fun t228 => (some t228)))) else (some false))))) else (some false))) else (some false))) else (some false))
theorem impl_IsFigure.mono:∀ a0 a1 a2 a3 k,LeO (impl_IsFigure.f k a0 a1 a2 a3) (impl_IsFigure.f (k + 1) a0 a1 a2 a3):=by
 intro a0 a1 a2 a3 k
 unfold impl_IsFigure.f
 repeat' first
   | (with_reducible exact impl_isRising.mono _ _)
   | (with_reducible exact LeO.refl _)
   | (with_reducible exact LeO.none _)
   | (with_reducible refine LeO.ite ?_ ?_)
   | (with_reducible refine LeO.bind ?_ (fun _ => ?_))
   | exact impl_isRising.mono _ _
   | exact LeO.none _
   | refine LeO.ite ?_ ?_
   | refine LeO.bind ?_ (fun _ => ?_)
def impl_IsFigure.T1:Bool × List (List Nat × List Nat):=(true,[([],[]),([0],[0]),([],[]),([2],[2]),([1,3],[1,3]),([4,4],[4]),([5],[5]),([6,5],[5,6]),([7,5,5],[5,7]),([5,8],[5,8]),([9,8],[9]),([10],[10]),([11,10],[10,11]),([12,10,10],[10,12]),([10,13],[10,13]),([14,13],[14]),([15],[15]),([16,15],[15,16]),([15],[15]),([18,15,15],[15,18]),([19,19,15],[15,19]),([20,15],[15,20]),([17,21,20,15],[15,17,21]),([15,22],[15,22]),([23,22],[23]),([24],[24]),([25,24],[24,25]),([24],[24]),([27,24,24],[24,27]),([28,28,24],[24,28]),([29,24],[24,29]),([26,30,29,24],[24,26,30]),([24,31],[24,31]),([32,31,0,1,2,3,4,5,6,7,8,9,10,11,12,13,14,15,16,17,18,19,20,21,22,23,24,25,26,27,28,29,30,31,32],[32])])
def impl_IsFigure.B1:List Nat:=[0,1,0,4,15,31,63,127,255,511,1023,2047,4095,8191,16383,32767,65535,131071,65535,327679,851967,1900543,4194303,8388607,16777215,33554431,67108863,33554431,167772159,436207615,973078527,2147483647,4294967295,8589934591]
theorem impl_IsFigure.tab1:rtab .any (opsOf Tryd.f48 1) = impl_IsFigure.T1:=by kernel_rfl
theorem impl_IsFigure.bits1:waitsOk impl_IsFigure.T1.2 impl_IsFigure.B1 = true:=by kernel_rfl
set_option maxHeartbeats 8000000 in
set_option maxRecDepth 100000 in
theorem impl_IsFigure.calls (k:Nat) (a0_0:Int) (a0_1:Int) (A0_2:Option Addr) (c0_2:Nat) (l0_2:List Int) (A0_3:Option Addr) (c0_3:Nat) (l0_3:List Int) (r:Bool) (w:World) (hr0_2:Kd.C (Kd.int .i64) w A0_2 l0_2.length l0_2) (hc0_2:l0_2.length ≤ c0_2) (hr0_3:Kd.C (Kd.int .i64) w A0_3 l0_3.length l0_3) (hc0_3:l0_3.length ≤ c0_3) (h:impl_IsFigure.f k a0_0 a0_1 l0_2 l0_3 = some r) :
  Calls Tryd.prog 48 #[.agg #[.int .i64 a0_0,.int .i64 a0_1,.slice A0_2 l0_2.length c0_2,.slice A0_3 l0_3.length c0_3]] w fun e w' => e = .returned (.bool r) ∧ Below w.heap.size w w':=by
 have hu26:=Tryd.underlying26
 have HR0_2:=Aside0.mk hr0_2
 have HC0_2:=Aside0.mk hc0_2
 clear hr0_2 hc0_2
 have HR0_3:=Aside0.mk hr0_3
 have HC0_3:=Aside0.mk hc0_3
 clear hr0_3 hc0_3
 have HB:=Aside0.mk (Below.refl w.heap.size w)
 have H:((impl_isGrid.f a0_0 a0_1).bind fun t218 => (if t218 = true then ((impl_isRising.f k l0_2).bind fun t219 => (if t219 = true then ((impl_isRising.f k l0_3).bind fun t220 => (if t220 = true then ((impl_Figure_grid.f a0_0 a0_1 l0_2 l0_3).bind fun bt221 => ((impl_grid_levels.f bt221.1 bt221.2).bind fun t223 => ((impl_areWithin.f l0_2 0 (wrap64 (t223 - 1))).bind fun t224 => (if t224 = true then ((impl_Figure_grid.f a0_0 a0_1 l0_2 l0_3).bind fun bt225 => ((impl_grid_uprights.f bt225.1 bt225.2).bind fun t227 => ((impl_areWithin.f l0_3 0 (wrap64 (t227 - 1))).bind fun t228 => (some t228)))) else (some false))))) else (some false))) else (some false))) else (some false))) = some r:=h
 clear h
 replace H:=Option.bind_eq_some_iff.mp H
 obtain ⟨t218,A20,H⟩:=H
 replace H:(if t218 = true then ((impl_isRising.f k l0_2).bind fun t219 => (if t219 = true then ((impl_isRising.f k l0_3).bind fun t220 => (if t220 = true then ((impl_Figure_grid.f a0_0 a0_1 l0_2 l0_3).bind fun bt221 => ((impl_grid_levels.f bt221.1 bt221.2).bind fun t223 => ((impl_areWithin.f l0_2 0 (wrap64 (t223 - 1))).bind fun t224 => (if t224 = true then ((impl_Figure_grid.f a0_0 a0_1 l0_2 l0_3).bind fun bt225 => ((impl_grid_uprights.f bt225.1 bt225.2).bind fun t227 => ((impl_areWithin.f l0_3 0 (wrap64 (t227 - 1))).bind fun t228 => (some t228)))) else (some false))))) else (some false))) else (some false))) else (some false)) = some r:=H
 have A2:=Aside0.mk A20
 clear A20
 by_cases c3:t218 = true
 ·subst c3
  have H1:((impl_isRising.f k l0_2).bind fun t219 => (if t219 = true then ((impl_isRising.f k l0_3).bind fun t220 => (if t220 = true then ((impl_Figure_grid.f a0_0 a0_1 l0_2 l0_3).bind fun bt221 => ((impl_grid_levels.f bt221.1 bt221.2).bind fun t223 => ((impl_areWithin.f l0_2 0 (wrap64 (t223 - 1))).bind fun t224 => (if t224 = true then ((impl_Figure_grid.f a0_0 a0_1 l0_2 l0_3).bind fun bt225 => ((impl_grid_uprights.f bt225.1 bt225.2).bind fun t227 => ((impl_areWithin.f l0_3 0 (wrap64 (t227 - 1))).bind fun t228 => (some t228)))) else (some false))))) else (some false))) else (some false))) = some r:=by rw [if_pos rfl] at H; exact H
  clear H
  have H:=H1
  clear H1
  replace H:=Option.bind_eq_some_iff.mp H
  obtain ⟨t219,A40,H⟩:=H
  replace H:(if t219 = true then ((impl_isRising.f k l0_3).bind fun t220 => (if t220 = true then ((impl_Figure_grid.f a0_0 a0_1 l0_2 l0_3).bind fun bt221 => ((impl_grid_levels.f bt221.1 bt221.2).bind fun t223 => ((impl_areWithin.f l0_2 0 (wrap64 (t223 - 1))).bind fun t224 => (if t224 = true then ((impl_Figure_grid.f a0_0 a0_1 l0_2 l0_3).bind fun bt225 => ((impl_grid_uprights.f bt225.1 bt225.2).bind fun t227 => ((impl_areWithin.f l0_3 0 (wrap64 (t227 - 1))).bind fun t228 => (some t228)))) else (some false))))) else (some false))) else (some false)) = some r:=H
  have A4:=Aside0.mk A40
  clear A40
  by_cases c5:t219 = true
  ·subst c5
   have H1:((impl_isRising.f k l0_3).bind fun t220 => (if t220 = true then ((impl_Figure_grid.f a0_0 a0_1 l0_2 l0_3).bind fun bt221 => ((impl_grid_levels.f bt221.1 bt221.2).bind fun t223 => ((impl_areWithin.f l0_2 0 (wrap64 (t223 - 1))).bind fun t224 => (if t224 = true then ((impl_Figure_grid.f a0_0 a0_1 l0_2 l0_3).bind fun bt225 => ((impl_grid_uprights.f bt225.1 bt225.2).bind fun t227 => ((impl_areWithin.f l0_3 0 (wrap64 (t227 - 1))).bind fun t228 => (some t228)))) else (some false))))) else (some false))) = some r:=by rw [if_pos rfl] at H; exact H
   clear H
   have H:=H1
   clear H1
   replace H:=Option.bind_eq_some_iff.mp H
   obtain ⟨t220,A60,H⟩:=H
   replace H:(if t220 = true then ((impl_Figure_grid.f a0_0 a0_1 l0_2 l0_3).bind fun bt221 => ((impl_grid_levels.f bt221.1 bt221.2).bind fun t223 => ((impl_areWithin.f l0_2 0 (wrap64 (t223 - 1))).bind fun t224 => (if t224 = true then ((impl_Figure_grid.f a0_0 a0_1 l0_2 l0_3).bind fun bt225 => ((impl_grid_uprights.f bt225.1 bt225.2).bind fun t227 => ((impl_areWithin.f l0_3 0 (wrap64 (t227 - 1))).bind fun t228 => (some t228)))) else (some false))))) else (some false)) = some r:=H
   have A6:=Aside0.mk A60
   clear A60
   by_cases c7:t220 = true
   ·subst c7
    have H1:((impl_Figure_grid.f a0_0 a0_1 l0_2 l0_3).bind fun bt221 => ((impl_grid_levels.f bt221.1 bt221.2).bind fun t223 => ((impl_areWithin.f l0_2 0 (wrap64 (t223 - 1))).bind fun t224 => (if t224 = true then ((impl_Figure_grid.f a0_0 a0_1 l0_2 l0_3).bind fun bt225 => ((impl_grid_uprights.f bt225.1 bt225.2).bind fun t227 => ((impl_areWithin.f l0_3 0 (wrap64 (t227 - 1))).bind fun t228 => (some t228)))) else (some false))))) = some r:=by rw [if_pos rfl] at H; exact H
    clear H
    have H:=H1
    clear H1
    replace H:=Option.bind_eq_some_iff.mp H
    obtain ⟨⟨t221,t222⟩,A80,H⟩:=H
    replace H:((impl_grid_levels.f t221 t222).bind fun t223 => ((impl_areWithin.f l0_2 0 (wrap64 (t223 - 1))).bind fun t224 => (if t224 = true then ((impl_Figure_grid.f a0_0 a0_1 l0_2 l0_3).bind fun bt225 => ((impl_grid_uprights.f bt225.1 bt225.2).bind fun t227 => ((impl_areWithin.f l0_3 0 (wrap64 (t227 - 1))).bind fun t228 => (some t228)))) else (some false)))) = some r:=H
    have A8:=Aside0.mk A80
    clear A80
    replace H:=Option.bind_eq_some_iff.mp H
    obtain ⟨t223,A90,H⟩:=H
    replace H:((impl_areWithin.f l0_2 0 (wrap64 (t223 - 1))).bind fun t224 => (if t224 = true then ((impl_Figure_grid.f a0_0 a0_1 l0_2 l0_3).bind fun bt225 => ((impl_grid_uprights.f bt225.1 bt225.2).bind fun t227 => ((impl_areWithin.f l0_3 0 (wrap64 (t227 - 1))).bind fun t228 => (some t228)))) else (some false))) = some r:=H
    have A9:=Aside0.mk A90
    clear A90
    replace H:=Option.bind_eq_some_iff.mp H
    obtain ⟨t224,A100,H⟩:=H
    replace H:(if t224 = true then ((impl_Figure_grid.f a0_0 a0_1 l0_2 l0_3).bind fun bt225 => ((impl_grid_uprights.f bt225.1 bt225.2).bind fun t227 => ((impl_areWithin.f l0_3 0 (wrap64 (t227 - 1))).bind fun t228 => (some t228)))) else (some false)) = some r:=H
    have A10:=Aside0.mk A100
    clear A100
    by_cases c11:t224 = true
    ·subst c11
     have H1:((impl_Figure_grid.f a0_0 a0_1 l0_2 l0_3).bind fun bt225 => ((impl_grid_uprights.f bt225.1 bt225.2).bind fun t227 => ((impl_areWithin.f l0_3 0 (wrap64 (t227 - 1))).bind fun t228 => (some t228)))) = some r:=by rw [if_pos rfl] at H; exact H
     clear H
     have H:=H1
     clear H1
     replace H:=Option.bind_eq_some_iff.mp H
     obtain ⟨⟨t225,t226⟩,A120,H⟩:=H
     replace H:((impl_grid_uprights.f t225 t226).bind fun t227 => ((impl_areWithin.f l0_3 0 (wrap64 (t227 - 1))).bind fun t228 => (some t228))) = some r:=H
     have A12:=Aside0.mk A120
     clear A120
     replace H:=Option.bind_eq_some_iff.mp H
     obtain ⟨t227,A130,H⟩:=H
     replace H:((impl_areWithin.f l0_3 0 (wrap64 (t227 - 1))).bind fun t228 => (some t228)) = some r:=H
     have A13:=Aside0.mk A130
     clear A130
     replace H:=Option.bind_eq_some_iff.mp H
     obtain ⟨t228,A140,H⟩:=H
     replace H:(some t228) = some r:=H
     have A14:=Aside0.mk A140
     clear A140
     obtain rfl:=Option.some.inj H
     go_enter Tryd.func48,Tryd.ntmps48
     try go_wp2_with (first | ((with_reducible refine gate_dst (N:=1) rfl ?_); refine boxE_ (N:=1) (cs:=#[.int .i64 a0_0,.int .i64 a0_1,.slice A0_2 l0_2.length c0_2,.slice A0_3 l0_3.length c0_3]) (t:=26) ?_; intro gb217 hg w15 hbox hb; have n0_:=Aside0.mk (below_step (bl0_ HB.out) hb); have n1_:=Aside0.mk (hbox); have n2_:=Aside0.mk ((bs0_ hg HB.out:w.heap.size ≤ gb217)); have n3_:=Aside0.mk ((bs0_ hg HB.out:w.heap.size ≤ gb217)); clear HB; have HB:=n0_; have BK217:=n1_; have GW217:=n2_; have GE217:=n3_; clear n0_ n1_ n2_ n3_; clear hb hbox hg))
     have n0_:=Aside0.mk (blk_drew BK217.out)
     have n1_:=Aside0.mk (below_drew1 HB.out)
     clear BK217
     clear HB
     have BK217:=n0_
     have HB:=n1_
     clear n0_ n1_
     refine start_ (n:=34) (S:=fun w' => w'.cell? ⟨gb217,0,none⟩ = some (.int .i64 a0_0) ∧ w'.cell? ⟨gb217,1,none⟩ = some (.int .i64 a0_1) ∧ w'.cell? ⟨gb217,2,none⟩ = some (.slice A0_2 l0_2.length c0_2) ∧ w'.cell? ⟨gb217,3,none⟩ = some (.slice A0_3 l0_3.length c0_3)) (ds:=[]) #[Ff,Ff,Ff,Ff,Ff,Ff,Ff,Ff,Ff,Ff,Ff,Ff,Ff,Ff,Ff,Ff,Ff,Ff,Ff,Ff,Ff,Ff,Ff,Ff,Ff,Ff,Ff,Ff,Ff,Ff,Ff,Ff,Ff,Ff] (by kernel_rfl) rfl rfl ⟨(blk_cell BK217.out 0).trans rfl,(blk_cell BK217.out 1).trans rfl,(blk_cell BK217.out 2).trans rfl,(blk_cell BK217.out 3).trans rfl⟩ (fun hHeld => ?_); refine with_tabW impl_IsFigure.tab1 impl_IsFigure.bits1 (fun HT_ HW_ => ?_)
     generalize w15.drew = w16 at BK217 HB hHeld ⊢
     refine pZ (i:=0) (N:=some 3) #[Tt,Ff,Ff,Ff,Ff,Ff,Ff,Ff,Ff,Ff,Ff,Ff,Ff,Ff,Ff,Ff,Ff,Ff,Ff,Ff,Ff,Ff,Ff,Ff,Ff,Ff,Ff,Ff,Ff,Ff,Ff,Ff,Ff,Ff] ?_
     refine pZ (i:=2) (N:=some 5) #[Tt,Ff,Tt,Ff,Ff,Ff,Ff,Ff,Ff,Ff,Ff,Ff,Ff,Ff,Ff,Ff,Ff,Ff,Ff,Ff,Ff,Ff,Ff,Ff,Ff,Ff,Ff,Ff,Ff,Ff,Ff,Ff,Ff,Ff] ?_
     refine tZ (i:=1) (N:=some 4) #[Tt,Tt,Tt,Ff,Ff,Ff,Ff,Ff,Ff,Ff,Ff,Ff,Ff,Ff,Ff,Ff,Ff,Ff,Ff,Ff,Ff,Ff,Ff,Ff,Ff,Ff,Ff,Ff,Ff,Ff,Ff,Ff,Ff,Ff] ?_
     refine tZ (i:=3) (N:=some 6) #[Tt,Tt,Tt,Tt,Ff,Ff,Ff,Ff,Ff,Ff,Ff,Ff,Ff,Ff,Ff,Ff,Ff,Ff,Ff,Ff,Ff,Ff,Ff,Ff,Ff,Ff,Ff,Ff,Ff,Ff,Ff,Ff,Ff,Ff] ?_
     refine one_ (i:=4) (N:=some 7) #[Tt,Tt,Tt,Tt,Tt,Ff,Ff,Ff,Ff,Ff,Ff,Ff,Ff,Ff,Ff,Ff,Ff,Ff,Ff,Ff,Ff,Ff,Ff,Ff,Ff,Ff,Ff,Ff,Ff,Ff,Ff,Ff,Ff,Ff] rfl rfl (one_of HT_.out (by kernel_rfl)) (by decide) (fun K hK => ?_)
     refine goes_ Tryd.func75 (by kernel_rfl) rfl #[.int .i64 a0_0,.int .i64 a0_1] (by rfl) rfl rfl ob_ ?_
     with_reducible refine (impl_isGrid.calls a0_0 a0_1 true _ A2.out).mono ?_
     rintro e w' ⟨rfl,⟨nd,rfl⟩⟩
     refine ⟨_,rfl,?_⟩
     refine hK.out _ _ ⟨(blk_cell BK217.out 0).trans rfl,(blk_cell BK217.out 1).trans rfl,(blk_cell BK217.out 2).trans rfl,(blk_cell BK217.out 3).trans rfl⟩ (fun hHeld => ?_)
     clear hK K
     refine norm_ (a':=_) ap_ ?_
     refine pZ (i:=5) (N:=some 8) #[Tt,Tt,Tt,Tt,Tt,Tt,Ff,Ff,Ff,Ff,Ff,Ff,Ff,Ff,Ff,Ff,Ff,Ff,Ff,Ff,Ff,Ff,Ff,Ff,Ff,Ff,Ff,Ff,Ff,Ff,Ff,Ff,Ff,Ff] ?_
     refine pZ (i:=6) (N:=some 9) #[Tt,Tt,Tt,Tt,Tt,Tt,Tt,Ff,Ff,Ff,Ff,Ff,Ff,Ff,Ff,Ff,Ff,Ff,Ff,Ff,Ff,Ff,Ff,Ff,Ff,Ff,Ff,Ff,Ff,Ff,Ff,Ff,Ff,Ff] ?_
     refine tZ (i:=7) (N:=some 10) #[Tt,Tt,Tt,Tt,Tt,Tt,Tt,Tt,Ff,Ff,Ff,Ff,Ff,Ff,Ff,Ff,Ff,Ff,Ff,Ff,Ff,Ff,Ff,Ff,Ff,Ff,Ff,Ff,Ff,Ff,Ff,Ff,Ff,Ff] ?_
     refine one_ (i:=8) (N:=some 11) #[Tt,Tt,Tt,Tt,Tt,Tt,Tt,Tt,Tt,Ff,Ff,Ff,Ff,Ff,Ff,Ff,Ff,Ff,Ff,Ff,Ff,Ff,Ff,Ff,Ff,Ff,Ff,Ff,Ff,Ff,Ff,Ff,Ff,Ff] rfl rfl (one_of HT_.out (by kernel_rfl)) (by decide) (fun K hK => ?_)
     refine goes_ Tryd.func76 (by kernel_rfl) rfl #[.slice A0_2 l0_2.length c0_2] (by rfl) rfl rfl ob_ ?_
     with_reducible refine (impl_isRising.calls k _ _ l0_2 true _ ?side1 ?side2 A4.out).mono ?_
     (case side1 => repeat (first | exact (Kd.C_below HR0_2.out (bl1_ HB.out GE217.out)) | (with_reducible refine Kd.C_alloc ?_ _) | (with_reducible refine Kd.C_drewN ?_ _) | (with_reducible refine Kd.C_drew ?_)))
     (case side2 => exact HC0_2.out)
     rintro e w' ⟨rfl,⟨nd,rfl⟩⟩
     refine ⟨_,rfl,?_⟩
     refine hK.out _ _ ⟨(blk_cell BK217.out 0).trans rfl,(blk_cell BK217.out 1).trans rfl,(blk_cell BK217.out 2).trans rfl,(blk_cell BK217.out 3).trans rfl⟩ (fun hHeld => ?_)
     clear hK K
     refine norm_ (a':=_) ap_ ?_
     refine pZ (i:=9) (N:=some 12) #[Tt,Tt,Tt,Tt,Tt,Tt,Tt,Tt,Tt,Tt,Ff,Ff,Ff,Ff,Ff,Ff,Ff,Ff,Ff,Ff,Ff,Ff,Ff,Ff,Ff,Ff,Ff,Ff,Ff,Ff,Ff,Ff,Ff,Ff] ?_
     refine pZ (i:=10) (N:=some 13) #[Tt,Tt,Tt,Tt,Tt,Tt,Tt,Tt,Tt,Tt,Tt,Ff,Ff,Ff,Ff,Ff,Ff,Ff,Ff,Ff,Ff,Ff,Ff,Ff,Ff,Ff,Ff,Ff,Ff,Ff,Ff,Ff,Ff,Ff] ?_
     refine pZ (i:=11) (N:=some 14) #[Tt,Tt,Tt,Tt,Tt,Tt,Tt,Tt,Tt,Tt,Tt,Tt,Ff,Ff,Ff,Ff,Ff,Ff,Ff,Ff,Ff,Ff,Ff,Ff,Ff,Ff,Ff,Ff,Ff,Ff,Ff,Ff,Ff,Ff] ?_
     refine tZ (i:=12) (N:=some 15) #[Tt,Tt,Tt,Tt,Tt,Tt,Tt,Tt,Tt,Tt,Tt,Tt,Tt,Ff,Ff,Ff,Ff,Ff,Ff,Ff,Ff,Ff,Ff,Ff,Ff,Ff,Ff,Ff,Ff,Ff,Ff,Ff,Ff,Ff] ?_
     refine one_ (i:=13) (N:=some 16) #[Tt,Tt,Tt,Tt,Tt,Tt,Tt,Tt,Tt,Tt,Tt,Tt,Tt,Tt,Ff,Ff,Ff,Ff,Ff,Ff,Ff,Ff,Ff,Ff,Ff,Ff,Ff,Ff,Ff,Ff,Ff,Ff,Ff,Ff] rfl rfl (one_of HT_.out (by kernel_rfl)) (by decide) (fun K hK => ?_)
     refine goes_ Tryd.func76 (by kernel_rfl) rfl #[.slice A0_3 l0_3.length c0_3] (by rfl) rfl rfl ob_ ?_
     with_reducible refine (impl_isRising.calls k _ _ l0_3 true _ ?side1 ?side2 A6.out).mono ?_
     (case side1 => repeat (first | exact (Kd.C_below HR0_3.out (bl1_ HB.out GE217.out)) | (with_reducible refine Kd.C_alloc ?_ _) | (with_reducible refine Kd.C_drewN ?_ _) | (with_reducible refine Kd.C_drew ?_)))
     (case side2 => exact HC0_3.out)
     rintro e w' ⟨rfl,⟨nd,rfl⟩⟩
     refine ⟨_,rfl,?_⟩
     refine hK.out _ _ ⟨(blk_cell BK217.out 0).trans rfl,(blk_cell BK217.out 1).trans rfl,(blk_cell BK217.out 2).trans rfl,(blk_cell BK217.out 3).trans rfl⟩ (fun hHeld => ?_)
     clear hK K
     refine norm_ (a':=_) ap_ ?_
     refine pZ (i:=14) (N:=some 17) #[Tt,Tt,Tt,Tt,Tt,Tt,Tt,Tt,Tt,Tt,Tt,Tt,Tt,Tt,Tt,Ff,Ff,Ff,Ff,Ff,Ff,Ff,Ff,Ff,Ff,Ff,Ff,Ff,Ff,Ff,Ff,Ff,Ff,Ff] ?_
     refine pZ (i:=15) (N:=some 18) #[Tt,Tt,Tt,Tt,Tt,Tt,Tt,Tt,Tt,Tt,Tt,Tt,Tt,Tt,Tt,Tt,Ff,Ff,Ff,Ff,Ff,Ff,Ff,Ff,Ff,Ff,Ff,Ff,Ff,Ff,Ff,Ff,Ff,Ff] ?_
     refine pZ (i:=16) (N:=some 19) #[Tt,Tt,Tt,Tt,Tt,Tt,Tt,Tt,Tt,Tt,Tt,Tt,Tt,Tt,Tt,Tt,Tt,Ff,Ff,Ff,Ff,Ff,Ff,Ff,Ff,Ff,Ff,Ff,Ff,Ff,Ff,Ff,Ff,Ff] ?_
     refine tZ (i:=17) (N:=some 20) #[Tt,Tt,Tt,Tt,Tt,Tt,Tt,Tt,Tt,Tt,Tt,Tt,Tt,Tt,Tt,Tt,Tt,Tt,Ff,Ff,Ff,Ff,Ff,Ff,Ff,Ff,Ff,Ff,Ff,Ff,Ff,Ff,Ff,Ff] ?_
     refine tZ (i:=18) (N:=some 21) #[Tt,Tt,Tt,Tt,Tt,Tt,Tt,Tt,Tt,Tt,Tt,Tt,Tt,Tt,Tt,Tt,Tt,Tt,Tt,Ff,Ff,Ff,Ff,Ff,Ff,Ff,Ff,Ff,Ff,Ff,Ff,Ff,Ff,Ff] ?_
     refine one_ (i:=19) (N:=some 22) #[Tt,Tt,Tt,Tt,Tt,Tt,Tt,Tt,Tt,Tt,Tt,Tt,Tt,Tt,Tt,Tt,Tt,Tt,Tt,Tt,Ff,Ff,Ff,Ff,Ff,Ff,Ff,Ff,Ff,Ff,Ff,Ff,Ff,Ff] rfl rfl (one_of HT_.out (by kernel_rfl)) (by decide) (fun K hK => ?_)
     refine goes_ Tryd.func39 (by kernel_rfl) rfl #[.agg #[.int .i64 a0_0,.int .i64 a0_1,.slice A0_2 l0_2.length c0_2,.slice A0_3 l0_3.length c0_3]] (by rfl) rfl rfl ob_ ?_
     with_reducible refine (impl_Figure_grid.calls a0_0 a0_1 _ _ l0_2 _ _ l0_3 t221 t222 _ ?side1 ?side2 ?side3 ?side4 A8.out).mono ?_
     (case side1 => repeat (first | exact (Kd.C_below HR0_2.out (bl1_ HB.out GE217.out)) | (with_reducible refine Kd.C_alloc ?_ _) | (with_reducible refine Kd.C_drewN ?_ _) | (with_reducible refine Kd.C_drew ?_)))
     (case side2 => exact HC0_2.out)
     (case side3 => repeat (first | exact (Kd.C_below HR0_3.out (bl1_ HB.out GE217.out)) | (with_reducible refine Kd.C_alloc ?_ _) | (with_reducible refine Kd.C_drewN ?_ _) | (with_reducible refine Kd.C_drew ?_)))
     (case side4 => exact HC0_3.out)
     rintro e w17 ⟨rfl,hb⟩
     refine ⟨_,rfl,?_⟩
     have n0_:=Aside0.mk (bb_ BK217.out hb)
     have n1_:=Aside0.mk (below_step (bl1_ HB.out GE217.out) hb)
     clear BK217
     clear HB
     have BK217:=n0_
     have HB:=n1_
     clear n0_ n1_
     (try clear hb)
     (try clear hb2)
     (try clear hk)
     (try clear hi)
     refine hK.out _ _ ⟨(blk_cell BK217.out 0).trans rfl,(blk_cell BK217.out 1).trans rfl,(blk_cell BK217.out 2).trans rfl,(blk_cell BK217.out 3).trans rfl⟩ (fun hHeld => ?_)
     clear hK K
     refine norm_ (a':=_) ap_ ?_
     refine one_ (i:=20) (N:=some 23) #[Tt,Tt,Tt,Tt,Tt,Tt,Tt,Tt,Tt,Tt,Tt,Tt,Tt,Tt,Tt,Tt,Tt,Tt,Tt,Tt,Tt,Ff,Ff,Ff,Ff,Ff,Ff,Ff,Ff,Ff,Ff,Ff,Ff,Ff] rfl rfl (one_of HT_.out (by kernel_rfl)) (by decide) (fun K hK => ?_)
     refine goes_ Tryd.func70 (by kernel_rfl) rfl #[.agg #[.int .i64 t221,.int .i64 t222]] (by rfl) rfl rfl ob_ ?_
     with_reducible refine (impl_grid_levels.calls t221 t222 t223 _ A9.out).mono ?_
     rintro e w18 ⟨rfl,hb⟩
     refine ⟨_,rfl,?_⟩
     have n0_:=Aside0.mk (bb_ BK217.out hb)
     have n1_:=Aside0.mk (below_step (bl1_ HB.out GE217.out) hb)
     clear BK217
     clear HB
     have BK217:=n0_
     have HB:=n1_
     clear n0_ n1_
     (try clear hb)
     (try clear hb2)
     (try clear hk)
     (try clear hi)
     refine hK.out _ _ ⟨(blk_cell BK217.out 0).trans rfl,(blk_cell BK217.out 1).trans rfl,(blk_cell BK217.out 2).trans rfl,(blk_cell BK217.out 3).trans rfl⟩ (fun hHeld => ?_)
     clear hK K
     refine norm_ (a':=_) ap_ ?_
     refine pZ (i:=21) (N:=some 24) #[Tt,Tt,Tt,Tt,Tt,Tt,Tt,Tt,Tt,Tt,Tt,Tt,Tt,Tt,Tt,Tt,Tt,Tt,Tt,Tt,Tt,Tt,Ff,Ff,Ff,Ff,Ff,Ff,Ff,Ff,Ff,Ff,Ff,Ff] ?_
     refine one_ (i:=22) (N:=some 25) #[Tt,Tt,Tt,Tt,Tt,Tt,Tt,Tt,Tt,Tt,Tt,Tt,Tt,Tt,Tt,Tt,Tt,Tt,Tt,Tt,Tt,Tt,Tt,Ff,Ff,Ff,Ff,Ff,Ff,Ff,Ff,Ff,Ff,Ff] rfl rfl (one_of HT_.out (by kernel_rfl)) (by decide) (fun K hK => ?_)
     refine goes_ Tryd.func77 (by kernel_rfl) rfl #[.slice A0_2 l0_2.length c0_2,.int .i64 0,.int .i64 (wrap64 (t223 - 1))] (by rfl) rfl rfl ob_ ?_
     with_reducible refine (impl_areWithin.calls _ _ l0_2 0 (wrap64 (t223 - 1)) true _ ?side1 ?side2 A10.out).mono ?_
     (case side1 => exact kc_ (Kd.C_below HR0_2.out HB.out))
     (case side2 => exact HC0_2.out)
     rintro e w19 ⟨rfl,hb⟩
     refine ⟨_,rfl,?_⟩
     have n0_:=Aside0.mk (bb_ BK217.out hb)
     have n1_:=Aside0.mk (below_step (bl1_ HB.out GE217.out) hb)
     clear BK217
     clear HB
     have BK217:=n0_
     have HB:=n1_
     clear n0_ n1_
     (try clear hb)
     (try clear hb2)
     (try clear hk)
     (try clear hi)
     refine hK.out _ _ ⟨(blk_cell BK217.out 0).trans rfl,(blk_cell BK217.out 1).trans rfl,(blk_cell BK217.out 2).trans rfl,(blk_cell BK217.out 3).trans rfl⟩ (fun hHeld => ?_)
     clear hK K
     refine norm_ (a':=_) ap_ ?_
     refine pZ (i:=23) (N:=some 26) #[Tt,Tt,Tt,Tt,Tt,Tt,Tt,Tt,Tt,Tt,Tt,Tt,Tt,Tt,Tt,Tt,Tt,Tt,Tt,Tt,Tt,Tt,Tt,Tt,Ff,Ff,Ff,Ff,Ff,Ff,Ff,Ff,Ff,Ff] ?_
     refine pZ (i:=24) (N:=some 27) #[Tt,Tt,Tt,Tt,Tt,Tt,Tt,Tt,Tt,Tt,Tt,Tt,Tt,Tt,Tt,Tt,Tt,Tt,Tt,Tt,Tt,Tt,Tt,Tt,Tt,Ff,Ff,Ff,Ff,Ff,Ff,Ff,Ff,Ff] ?_
     refine pZ (i:=25) (N:=some 28) #[Tt,Tt,Tt,Tt,Tt,Tt,Tt,Tt,Tt,Tt,Tt,Tt,Tt,Tt,Tt,Tt,Tt,Tt,Tt,Tt,Tt,Tt,Tt,Tt,Tt,Tt,Ff,Ff,Ff,Ff,Ff,Ff,Ff,Ff] ?_
     refine tZ (i:=26) (N:=some 29) #[Tt,Tt,Tt,Tt,Tt,Tt,Tt,Tt,Tt,Tt,Tt,Tt,Tt,Tt,Tt,Tt,Tt,Tt,Tt,Tt,Tt,Tt,Tt,Tt,Tt,Tt,Tt,Ff,Ff,Ff,Ff,Ff,Ff,Ff] ?_
     refine tZ (i:=27) (N:=some 30) #[Tt,Tt,Tt,Tt,Tt,Tt,Tt,Tt,Tt,Tt,Tt,Tt,Tt,Tt,Tt,Tt,Tt,Tt,Tt,Tt,Tt,Tt,Tt,Tt,Tt,Tt,Tt,Tt,Ff,Ff,Ff,Ff,Ff,Ff] ?_
     refine one_ (i:=28) (N:=some 31) #[Tt,Tt,Tt,Tt,Tt,Tt,Tt,Tt,Tt,Tt,Tt,Tt,Tt,Tt,Tt,Tt,Tt,Tt,Tt,Tt,Tt,Tt,Tt,Tt,Tt,Tt,Tt,Tt,Tt,Ff,Ff,Ff,Ff,Ff] rfl rfl (one_of HT_.out (by kernel_rfl)) (by decide) (fun K hK => ?_)
     refine goes_ Tryd.func39 (by kernel_rfl) rfl #[.agg #[.int .i64 a0_0,.int .i64 a0_1,.slice A0_2 l0_2.length c0_2,.slice A0_3 l0_3.length c0_3]] (by rfl) rfl rfl ob_ ?_
     with_reducible refine (impl_Figure_grid.calls a0_0 a0_1 _ _ l0_2 _ _ l0_3 t225 t226 _ ?side1 ?side2 ?side3 ?side4 A12.out).mono ?_
     (case side1 => exact kc_ (Kd.C_below HR0_2.out HB.out))
     (case side2 => exact HC0_2.out)
     (case side3 => exact kc_ (Kd.C_below HR0_3.out HB.out))
     (case side4 => exact HC0_3.out)
     rintro e w20 ⟨rfl,hb⟩
     refine ⟨_,rfl,?_⟩
     have n0_:=Aside0.mk (bb_ BK217.out hb)
     have n1_:=Aside0.mk (below_step (bl1_ HB.out GE217.out) hb)
     clear BK217
     clear HB
     have BK217:=n0_
     have HB:=n1_
     clear n0_ n1_
     (try clear hb)
     (try clear hb2)
     (try clear hk)
     (try clear hi)
     refine hK.out _ _ ⟨(blk_cell BK217.out 0).trans rfl,(blk_cell BK217.out 1).trans rfl,(blk_cell BK217.out 2).trans rfl,(blk_cell BK217.out 3).trans rfl⟩ (fun hHeld => ?_)
     clear hK K
     refine norm_ (a':=_) ap_ ?_
     refine one_ (i:=29) (N:=some 32) #[Tt,Tt,Tt,Tt,Tt,Tt,Tt,Tt,Tt,Tt,Tt,Tt,Tt,Tt,Tt,Tt,Tt,Tt,Tt,Tt,Tt,Tt,Tt,Tt,Tt,Tt,Tt,Tt,Tt,Tt,Ff,Ff,Ff,Ff] rfl rfl (one_of HT_.out (by kernel_rfl)) (by decide) (fun K hK => ?_)
     refine goes_ Tryd.func78 (by kernel_rfl) rfl #[.agg #[.int .i64 t225,.int .i64 t226]] (by rfl) rfl rfl ob_ ?_
     with_reducible refine (impl_grid_uprights.calls t225 t226 t227 _ A13.out).mono ?_
     rintro e w21 ⟨rfl,hb⟩
     refine ⟨_,rfl,?_⟩
     have n0_:=Aside0.mk (bb_ BK217.out hb)
     have n1_:=Aside0.mk (below_step (bl1_ HB.out GE217.out) hb)
     clear BK217
     clear HB
     have BK217:=n0_
     have HB:=n1_
     clear n0_ n1_
     (try clear hb)
     (try clear hb2)
     (try clear hk)
     (try clear hi)
     refine hK.out _ _ ⟨(blk_cell BK217.out 0).trans rfl,(blk_cell BK217.out 1).trans rfl,(blk_cell BK217.out 2).trans rfl,(blk_cell BK217.out 3).trans rfl⟩ (fun hHeld => ?_)
     clear hK K
     refine norm_ (a':=_) ap_ ?_
     refine pZ (i:=30) (N:=some 33) #[Tt,Tt,Tt,Tt,Tt,Tt,Tt,Tt,Tt,Tt,Tt,Tt,Tt,Tt,Tt,Tt,Tt,Tt,Tt,Tt,Tt,Tt,Tt,Tt,Tt,Tt,Tt,Tt,Tt,Tt,Tt,Ff,Ff,Ff] ?_
     refine one_ (i:=31) (N:=some 34) #[Tt,Tt,Tt,Tt,Tt,Tt,Tt,Tt,Tt,Tt,Tt,Tt,Tt,Tt,Tt,Tt,Tt,Tt,Tt,Tt,Tt,Tt,Tt,Tt,Tt,Tt,Tt,Tt,Tt,Tt,Tt,Tt,Ff,Ff] rfl rfl (one_of HT_.out (by kernel_rfl)) (by decide) (fun K hK => ?_)
     refine goes_ Tryd.func77 (by kernel_rfl) rfl #[.slice A0_3 l0_3.length c0_3,.int .i64 0,.int .i64 (wrap64 (t227 - 1))] (by rfl) rfl rfl ob_ ?_
     with_reducible refine (impl_areWithin.calls _ _ l0_3 0 (wrap64 (t227 - 1)) t228 _ ?side1 ?side2 A14.out).mono ?_
     (case side1 => exact kc_ (Kd.C_below HR0_3.out HB.out))
     (case side2 => exact HC0_3.out)
     rintro e w22 ⟨rfl,hb⟩
     refine ⟨_,rfl,?_⟩
     have n0_:=Aside0.mk (bb_ BK217.out hb)
     have n1_:=Aside0.mk (below_step (bl1_ HB.out GE217.out) hb)
     clear BK217
     clear HB
     have BK217:=n0_
     have HB:=n1_
     clear n0_ n1_
     (try clear hb)
     (try clear hb2)
     (try clear hk)
     (try clear hi)
     refine hK.out _ _ ⟨(blk_cell BK217.out 0).trans rfl,(blk_cell BK217.out 1).trans rfl,(blk_cell BK217.out 2).trans rfl,(blk_cell BK217.out 3).trans rfl⟩ (fun hHeld => ?_)
     clear hK K
     refine norm_ (a':=_) ap_ ?_
     refine pZ (i:=32) (N:=some 35) #[Tt,Tt,Tt,Tt,Tt,Tt,Tt,Tt,Tt,Tt,Tt,Tt,Tt,Tt,Tt,Tt,Tt,Tt,Tt,Tt,Tt,Tt,Tt,Tt,Tt,Tt,Tt,Tt,Tt,Tt,Tt,Tt,Tt,Ff] ?_
     refine pZ (i:=33) (N:=some 2) #[Tt,Tt,Tt,Tt,Tt,Tt,Tt,Tt,Tt,Tt,Tt,Tt,Tt,Tt,Tt,Tt,Tt,Tt,Tt,Tt,Tt,Tt,Tt,Tt,Tt,Tt,Tt,Tt,Tt,Tt,Tt,Tt,Tt,Tt] ?_
     refine done_ (done_of HT_.out (by kernel_rfl)) ?_
     try go_wp2
     go_ret
     exact ⟨er_,bl1_ HB.out GE217.out⟩
    ·replace c11:=Bool.eq_false_iff.mpr c11
     subst c11
     have H1:(some false) = some r:=by rw [if_neg (show ¬ (false = true) by decide)] at H; exact H
     clear H
     have H:=H1
     clear H1
     obtain rfl:=Option.some.inj H
     go_enter Tryd.func48,Tryd.ntmps48
     try go_wp2_with (first | ((with_reducible refine gate_dst (N:=1) rfl ?_); refine boxE_ (N:=1) (cs:=#[.int .i64 a0_0,.int .i64 a0_1,.slice A0_2 l0_2.length c0_2,.slice A0_3 l0_3.length c0_3]) (t:=26) ?_; intro gb217 hg w23 hbox hb; have n0_:=Aside0.mk (below_step (bl0_ HB.out) hb); have n1_:=Aside0.mk (hbox); have n2_:=Aside0.mk ((bs0_ hg HB.out:w.heap.size ≤ gb217)); have n3_:=Aside0.mk ((bs0_ hg HB.out:w.heap.size ≤ gb217)); clear HB; have HB:=n0_; have BK217:=n1_; have GW217:=n2_; have GE217:=n3_; clear n0_ n1_ n2_ n3_; clear hb hbox hg))
     have n0_:=Aside0.mk (blk_drew BK217.out)
     have n1_:=Aside0.mk (below_drew1 HB.out)
     clear BK217
     clear HB
     have BK217:=n0_
     have HB:=n1_
     clear n0_ n1_
     refine start_ (n:=34) (S:=fun w' => w'.cell? ⟨gb217,0,none⟩ = some (.int .i64 a0_0) ∧ w'.cell? ⟨gb217,1,none⟩ = some (.int .i64 a0_1) ∧ w'.cell? ⟨gb217,2,none⟩ = some (.slice A0_2 l0_2.length c0_2) ∧ w'.cell? ⟨gb217,3,none⟩ = some (.slice A0_3 l0_3.length c0_3)) (ds:=[]) #[Ff,Ff,Ff,Ff,Ff,Ff,Ff,Ff,Ff,Ff,Ff,Ff,Ff,Ff,Ff,Ff,Ff,Ff,Ff,Ff,Ff,Ff,Ff,Ff,Ff,Ff,Ff,Ff,Ff,Ff,Ff,Ff,Ff,Ff] (by kernel_rfl) rfl rfl ⟨(blk_cell BK217.out 0).trans rfl,(blk_cell BK217.out 1).trans rfl,(blk_cell BK217.out 2).trans rfl,(blk_cell BK217.out 3).trans rfl⟩ (fun hHeld => ?_); refine with_tabW impl_IsFigure.tab1 impl_IsFigure.bits1 (fun HT_ HW_ => ?_)
     generalize w23.drew = w24 at BK217 HB hHeld ⊢
     refine pZ (i:=0) (N:=some 3) #[Tt,Ff,Ff,Ff,Ff,Ff,Ff,Ff,Ff,Ff,Ff,Ff,Ff,Ff,Ff,Ff,Ff,Ff,Ff,Ff,Ff,Ff,Ff,Ff,Ff,Ff,Ff,Ff,Ff,Ff,Ff,Ff,Ff,Ff] ?_
     refine pZ (i:=2) (N:=some 5) #[Tt,Ff,Tt,Ff,Ff,Ff,Ff,Ff,Ff,Ff,Ff,Ff,Ff,Ff,Ff,Ff,Ff,Ff,Ff,Ff,Ff,Ff,Ff,Ff,Ff,Ff,Ff,Ff,Ff,Ff,Ff,Ff,Ff,Ff] ?_
     refine tZ (i:=1) (N:=some 4) #[Tt,Tt,Tt,Ff,Ff,Ff,Ff,Ff,Ff,Ff,Ff,Ff,Ff,Ff,Ff,Ff,Ff,Ff,Ff,Ff,Ff,Ff,Ff,Ff,Ff,Ff,Ff,Ff,Ff,Ff,Ff,Ff,Ff,Ff] ?_
     refine tZ (i:=3) (N:=some 6) #[Tt,Tt,Tt,Tt,Ff,Ff,Ff,Ff,Ff,Ff,Ff,Ff,Ff,Ff,Ff,Ff,Ff,Ff,Ff,Ff,Ff,Ff,Ff,Ff,Ff,Ff,Ff,Ff,Ff,Ff,Ff,Ff,Ff,Ff] ?_
     refine one_ (i:=4) (N:=some 7) #[Tt,Tt,Tt,Tt,Tt,Ff,Ff,Ff,Ff,Ff,Ff,Ff,Ff,Ff,Ff,Ff,Ff,Ff,Ff,Ff,Ff,Ff,Ff,Ff,Ff,Ff,Ff,Ff,Ff,Ff,Ff,Ff,Ff,Ff] rfl rfl (one_of HT_.out (by kernel_rfl)) (by decide) (fun K hK => ?_)
     refine goes_ Tryd.func75 (by kernel_rfl) rfl #[.int .i64 a0_0,.int .i64 a0_1] (by rfl) rfl rfl ob_ ?_
     with_reducible refine (impl_isGrid.calls a0_0 a0_1 true _ A2.out).mono ?_
     rintro e w' ⟨rfl,⟨nd,rfl⟩⟩
     refine ⟨_,rfl,?_⟩
     refine hK.out _ _ ⟨(blk_cell BK217.out 0).trans rfl,(blk_cell BK217.out 1).trans rfl,(blk_cell BK217.out 2).trans rfl,(blk_cell BK217.out 3).trans rfl⟩ (fun hHeld => ?_)
     clear hK K
     refine norm_ (a':=_) ap_ ?_
     refine pZ (i:=5) (N:=some 8) #[Tt,Tt,Tt,Tt,Tt,Tt,Ff,Ff,Ff,Ff,Ff,Ff,Ff,Ff,Ff,Ff,Ff,Ff,Ff,Ff,Ff,Ff,Ff,Ff,Ff,Ff,Ff,Ff,Ff,Ff,Ff,Ff,Ff,Ff] ?_
     refine pZ (i:=6) (N:=some 9) #[Tt,Tt,Tt,Tt,Tt,Tt,Tt,Ff,Ff,Ff,Ff,Ff,Ff,Ff,Ff,Ff,Ff,Ff,Ff,Ff,Ff,Ff,Ff,Ff,Ff,Ff,Ff,Ff,Ff,Ff,Ff,Ff,Ff,Ff] ?_
     refine tZ (i:=7) (N:=some 10) #[Tt,Tt,Tt,Tt,Tt,Tt,Tt,Tt,Ff,Ff,Ff,Ff,Ff,Ff,Ff,Ff,Ff,Ff,Ff,Ff,Ff,Ff,Ff,Ff,Ff,Ff,Ff,Ff,Ff,Ff,Ff,Ff,Ff,Ff] ?_
     refine one_ (i:=8) (N:=some 11) #[Tt,Tt,Tt,Tt,Tt,Tt,Tt,Tt,Tt,Ff,Ff,Ff,Ff,Ff,Ff,Ff,Ff,Ff,Ff,Ff,Ff,Ff,Ff,Ff,Ff,Ff,Ff,Ff,Ff,Ff,Ff,Ff,Ff,Ff] rfl rfl (one_of HT_.out (by kernel_rfl)) (by decide) (fun K hK => ?_)
     refine goes_ Tryd.func76 (by kernel_rfl) rfl #[.slice A0_2 l0_2.length c0_2] (by rfl) rfl rfl ob_ ?_
     with_reducible refine (impl_isRising.calls k _ _ l0_2 true _ ?side1 ?side2 A4.out).mono ?_
     (case side1 => repeat (first | exact (Kd.C_below HR0_2.out (bl1_ HB.out GE217.out)) | (with_reducible refine Kd.C_alloc ?_ _) | (with_reducible refine Kd.C_drewN ?_ _) | (with_reducible refine Kd.C_drew ?_)))
     (case side2 => exact HC0_2.out)
     rintro e w' ⟨rfl,⟨nd,rfl⟩⟩
     refine ⟨_,rfl,?_⟩
     refine hK.out _ _ ⟨(blk_cell BK217.out 0).trans rfl,(blk_cell BK217.out 1).trans rfl,(blk_cell BK217.out 2).trans rfl,(blk_cell BK217.out 3).trans rfl⟩ (fun hHeld => ?_)
     clear hK K
     refine norm_ (a':=_) ap_ ?_
     refine pZ (i:=9) (N:=some 12) #[Tt,Tt,Tt,Tt,Tt,Tt,Tt,Tt,Tt,Tt,Ff,Ff,Ff,Ff,Ff,Ff,Ff,Ff,Ff,Ff,Ff,Ff,Ff,Ff,Ff,Ff,Ff,Ff,Ff,Ff,Ff,Ff,Ff,Ff] ?_
     refine pZ (i:=10) (N:=some 13) #[Tt,Tt,Tt,Tt,Tt,Tt,Tt,Tt,Tt,Tt,Tt,Ff,Ff,Ff,Ff,Ff,Ff,Ff,Ff,Ff,Ff,Ff,Ff,Ff,Ff,Ff,Ff,Ff,Ff,Ff,Ff,Ff,Ff,Ff] ?_
     refine pZ (i:=11) (N:=some 14) #[Tt,Tt,Tt,Tt,Tt,Tt,Tt,Tt,Tt,Tt,Tt,Tt,Ff,Ff,Ff,Ff,Ff,Ff,Ff,Ff,Ff,Ff,Ff,Ff,Ff,Ff,Ff,Ff,Ff,Ff,Ff,Ff,Ff,Ff] ?_
     refine tZ (i:=12) (N:=some 15) #[Tt,Tt,Tt,Tt,Tt,Tt,Tt,Tt,Tt,Tt,Tt,Tt,Tt,Ff,Ff,Ff,Ff,Ff,Ff,Ff,Ff,Ff,Ff,Ff,Ff,Ff,Ff,Ff,Ff,Ff,Ff,Ff,Ff,Ff] ?_
     refine one_ (i:=13) (N:=some 16) #[Tt,Tt,Tt,Tt,Tt,Tt,Tt,Tt,Tt,Tt,Tt,Tt,Tt,Tt,Ff,Ff,Ff,Ff,Ff,Ff,Ff,Ff,Ff,Ff,Ff,Ff,Ff,Ff,Ff,Ff,Ff,Ff,Ff,Ff] rfl rfl (one_of HT_.out (by kernel_rfl)) (by decide) (fun K hK => ?_)
     refine goes_ Tryd.func76 (by kernel_rfl) rfl #[.slice A0_3 l0_3.length c0_3] (by rfl) rfl rfl ob_ ?_
     with_reducible refine (impl_isRising.calls k _ _ l0_3 true _ ?side1 ?side2 A6.out).mono ?_
     (case side1 => repeat (first | exact (Kd.C_below HR0_3.out (bl1_ HB.out GE217.out)) | (with_reducible refine Kd.C_alloc ?_ _) | (with_reducible refine Kd.C_drewN ?_ _) | (with_reducible refine Kd.C_drew ?_)))
     (case side2 => exact HC0_3.out)
     rintro e w' ⟨rfl,⟨nd,rfl⟩⟩
     refine ⟨_,rfl,?_⟩
     refine hK.out _ _ ⟨(blk_cell BK217.out 0).trans rfl,(blk_cell BK217.out 1).trans rfl,(blk_cell BK217.out 2).trans rfl,(blk_cell BK217.out 3).trans rfl⟩ (fun hHeld => ?_)
     clear hK K
     refine norm_ (a':=_) ap_ ?_
     refine pZ (i:=14) (N:=some 17) #[Tt,Tt,Tt,Tt,Tt,Tt,Tt,Tt,Tt,Tt,Tt,Tt,Tt,Tt,Tt,Ff,Ff,Ff,Ff,Ff,Ff,Ff,Ff,Ff,Ff,Ff,Ff,Ff,Ff,Ff,Ff,Ff,Ff,Ff] ?_
     refine pZ (i:=15) (N:=some 18) #[Tt,Tt,Tt,Tt,Tt,Tt,Tt,Tt,Tt,Tt,Tt,Tt,Tt,Tt,Tt,Tt,Ff,Ff,Ff,Ff,Ff,Ff,Ff,Ff,Ff,Ff,Ff,Ff,Ff,Ff,Ff,Ff,Ff,Ff] ?_
     refine pZ (i:=16) (N:=some 19) #[Tt,Tt,Tt,Tt,Tt,Tt,Tt,Tt,Tt,Tt,Tt,Tt,Tt,Tt,Tt,Tt,Tt,Ff,Ff,Ff,Ff,Ff,Ff,Ff,Ff,Ff,Ff,Ff,Ff,Ff,Ff,Ff,Ff,Ff] ?_
     refine tZ (i:=17) (N:=some 20) #[Tt,Tt,Tt,Tt,Tt,Tt,Tt,Tt,Tt,Tt,Tt,Tt,Tt,Tt,Tt,Tt,Tt,Tt,Ff,Ff,Ff,Ff,Ff,Ff,Ff,Ff,Ff,Ff,Ff,Ff,Ff,Ff,Ff,Ff] ?_
     refine tZ (i:=18) (N:=some 21) #[Tt,Tt,Tt,Tt,Tt,Tt,Tt,Tt,Tt,Tt,Tt,Tt,Tt,Tt,Tt,Tt,Tt,Tt,Tt,Ff,Ff,Ff,Ff,Ff,Ff,Ff,Ff,Ff,Ff,Ff,Ff,Ff,Ff,Ff] ?_
     refine one_ (i:=19) (N:=some 22) #[Tt,Tt,Tt,Tt,Tt,Tt,Tt,Tt,Tt,Tt,Tt,Tt,Tt,Tt,Tt,Tt,Tt,Tt,Tt,Tt,Ff,Ff,Ff,Ff,Ff,Ff,Ff,Ff,Ff,Ff,Ff,Ff,Ff,Ff] rfl rfl (one_of HT_.out (by kernel_rfl)) (by decide) (fun K hK => ?_)
     refine goes_ Tryd.func39 (by kernel_rfl) rfl #[.agg #[.int .i64 a0_0,.int .i64 a0_1,.slice A0_2 l0_2.length c0_2,.slice A0_3 l0_3.length c0_3]] (by rfl) rfl rfl ob_ ?_
     with_reducible refine (impl_Figure_grid.calls a0_0 a0_1 _ _ l0_2 _ _ l0_3 t221 t222 _ ?side1 ?side2 ?side3 ?side4 A8.out).mono ?_
     (case side1 => repeat (first | exact (Kd.C_below HR0_2.out (bl1_ HB.out GE217.out)) | (with_reducible refine Kd.C_alloc ?_ _) | (with_reducible refine Kd.C_drewN ?_ _) | (with_reducible refine Kd.C_drew ?_)))
     (case side2 => exact HC0_2.out)
     (case side3 => repeat (first | exact (Kd.C_below HR0_3.out (bl1_ HB.out GE217.out)) | (with_reducible refine Kd.C_alloc ?_ _) | (with_reducible refine Kd.C_drewN ?_ _) | (with_reducible refine Kd.C_drew ?_)))
     (case side4 => exact HC0_3.out)
     rintro e w25 ⟨rfl,hb⟩
     refine ⟨_,rfl,?_⟩
     have n0_:=Aside0.mk (bb_ BK217.out hb)
     have n1_:=Aside0.mk (below_step (bl1_ HB.out GE217.out) hb)
     clear BK217
     clear HB
     have BK217:=n0_
     have HB:=n1_
     clear n0_ n1_
     (try clear hb)
     (try clear hb2)
     (try clear hk)
     (try clear hi)
     refine hK.out _ _ ⟨(blk_cell BK217.out 0).trans rfl,(blk_cell BK217.out 1).trans rfl,(blk_cell BK217.out 2).trans rfl,(blk_cell BK217.out 3).trans rfl⟩ (fun hHeld => ?_)
     clear hK K
     refine norm_ (a':=_) ap_ ?_
     refine one_ (i:=20) (N:=some 23) #[Tt,Tt,Tt,Tt,Tt,Tt,Tt,Tt,Tt,Tt,Tt,Tt,Tt,Tt,Tt,Tt,Tt,Tt,Tt,Tt,Tt,Ff,Ff,Ff,Ff,Ff,Ff,Ff,Ff,Ff,Ff,Ff,Ff,Ff] rfl rfl (one_of HT_.out (by kernel_rfl)) (by decide) (fun K hK => ?_)
     refine goes_ Tryd.func70 (by kernel_rfl) rfl #[.agg #[.int .i64 t221,.int .i64 t222]] (by rfl) rfl rfl ob_ ?_
     with_reducible refine (impl_grid_levels.calls t221 t222 t223 _ A9.out).mono ?_
     rintro e w26 ⟨rfl,hb⟩
     refine ⟨_,rfl,?_⟩
     have n0_:=Aside0.mk (bb_ BK217.out hb)
     have n1_:=Aside0.mk (below_step (bl1_ HB.out GE217.out) hb)
     clear BK217
     clear HB
     have BK217:=n0_
     have HB:=n1_
     clear n0_ n1_
     (try clear hb)
     (try clear hb2)
     (try clear hk)
     (try clear hi)
     refine hK.out _ _ ⟨(blk_cell BK217.out 0).trans rfl,(blk_cell BK217.out 1).trans rfl,(blk_cell BK217.out 2).trans rfl,(blk_cell BK217.out 3).trans rfl⟩ (fun hHeld => ?_)
     clear hK K
     refine norm_ (a':=_) ap_ ?_
     refine pZ (i:=21) (N:=some 24) #[Tt,Tt,Tt,Tt,Tt,Tt,Tt,Tt,Tt,Tt,Tt,Tt,Tt,Tt,Tt,Tt,Tt,Tt,Tt,Tt,Tt,Tt,Ff,Ff,Ff,Ff,Ff,Ff,Ff,Ff,Ff,Ff,Ff,Ff] ?_
     refine one_ (i:=22) (N:=some 25) #[Tt,Tt,Tt,Tt,Tt,Tt,Tt,Tt,Tt,Tt,Tt,Tt,Tt,Tt,Tt,Tt,Tt,Tt,Tt,Tt,Tt,Tt,Tt,Ff,Ff,Ff,Ff,Ff,Ff,Ff,Ff,Ff,Ff,Ff] rfl rfl (one_of HT_.out (by kernel_rfl)) (by decide) (fun K hK => ?_)
     refine goes_ Tryd.func77 (by kernel_rfl) rfl #[.slice A0_2 l0_2.length c0_2,.int .i64 0,.int .i64 (wrap64 (t223 - 1))] (by rfl) rfl rfl ob_ ?_
     with_reducible refine (impl_areWithin.calls _ _ l0_2 0 (wrap64 (t223 - 1)) false _ ?side1 ?side2 A10.out).mono ?_
     (case side1 => exact kc_ (Kd.C_below HR0_2.out HB.out))
     (case side2 => exact HC0_2.out)
     rintro e w27 ⟨rfl,hb⟩
     refine ⟨_,rfl,?_⟩
     have n0_:=Aside0.mk (bb_ BK217.out hb)
     have n1_:=Aside0.mk (below_step (bl1_ HB.out GE217.out) hb)
     clear BK217
     clear HB
     have BK217:=n0_
     have HB:=n1_
     clear n0_ n1_
     (try clear hb)
     (try clear hb2)
     (try clear hk)
     (try clear hi)
     refine hK.out _ _ ⟨(blk_cell BK217.out 0).trans rfl,(blk_cell BK217.out 1).trans rfl,(blk_cell BK217.out 2).trans rfl,(blk_cell BK217.out 3).trans rfl⟩ (fun hHeld => ?_)
     clear hK K
     refine norm_ (a':=_) ap_ ?_
     refine pZ (i:=23) (N:=some 26) #[Tt,Tt,Tt,Tt,Tt,Tt,Tt,Tt,Tt,Tt,Tt,Tt,Tt,Tt,Tt,Tt,Tt,Tt,Tt,Tt,Tt,Tt,Tt,Tt,Ff,Ff,Ff,Ff,Ff,Ff,Ff,Ff,Ff,Ff] ?_
     refine pZ (i:=24) (N:=some 27) #[Tt,Tt,Tt,Tt,Tt,Tt,Tt,Tt,Tt,Tt,Tt,Tt,Tt,Tt,Tt,Tt,Tt,Tt,Tt,Tt,Tt,Tt,Tt,Tt,Tt,Ff,Ff,Ff,Ff,Ff,Ff,Ff,Ff,Ff] ?_
     refine pU (i:=25) (N:=some 28) #[Tt,Tt,Tt,Tt,Tt,Tt,Tt,Tt,Tt,Tt,Tt,Tt,Tt,Tt,Tt,Tt,Tt,Tt,Tt,Tt,Tt,Tt,Tt,Tt,Tt,Tt,Ff,Ff,Ff,Ff,Ff,Ff,Ff,Ff] ?_
     refine pU (i:=26) (N:=some 29) #[Tt,Tt,Tt,Tt,Tt,Tt,Tt,Tt,Tt,Tt,Tt,Tt,Tt,Tt,Tt,Tt,Tt,Tt,Tt,Tt,Tt,Tt,Tt,Tt,Tt,Tt,Tt,Ff,Ff,Ff,Ff,Ff,Ff,Ff] ?_
     refine pU (i:=27) (N:=some 30) #[Tt,Tt,Tt,Tt,Tt,Tt,Tt,Tt,Tt,Tt,Tt,Tt,Tt,Tt,Tt,Tt,Tt,Tt,Tt,Tt,Tt,Tt,Tt,Tt,Tt,Tt,Tt,Tt,Ff,Ff,Ff,Ff,Ff,Ff] ?_
     refine pU (i:=28) (N:=some 31) #[Tt,Tt,Tt,Tt,Tt,Tt,Tt,Tt,Tt,Tt,Tt,Tt,Tt,Tt,Tt,Tt,Tt,Tt,Tt,Tt,Tt,Tt,Tt,Tt,Tt,Tt,Tt,Tt,Tt,Ff,Ff,Ff,Ff,Ff] ?_
     refine pU (i:=29) (N:=some 32) #[Tt,Tt,Tt,Tt,Tt,Tt,Tt,Tt,Tt,Tt,Tt,Tt,Tt,Tt,Tt,Tt,Tt,Tt,Tt,Tt,Tt,Tt,Tt,Tt,Tt,Tt,Tt,Tt,Tt,Tt,Ff,Ff,Ff,Ff] ?_
     refine pU (i:=30) (N:=some 33) #[Tt,Tt,Tt,Tt,Tt,Tt,Tt,Tt,Tt,Tt,Tt,Tt,Tt,Tt,Tt,Tt,Tt,Tt,Tt,Tt,Tt,Tt,Tt,Tt,Tt,Tt,Tt,Tt,Tt,Tt,Tt,Ff,Ff,Ff] ?_
     refine pU (i:=31) (N:=some 34) #[Tt,Tt,Tt,Tt,Tt,Tt,Tt,Tt,Tt,Tt,Tt,Tt,Tt,Tt,Tt,Tt,Tt,Tt,Tt,Tt,Tt,Tt,Tt,Tt,Tt,Tt,Tt,Tt,Tt,Tt,Tt,Tt,Ff,Ff] ?_
     refine pZ (i:=32) (N:=some 35) #[Tt,Tt,Tt,Tt,Tt,Tt,Tt,Tt,Tt,Tt,Tt,Tt,Tt,Tt,Tt,Tt,Tt,Tt,Tt,Tt,Tt,Tt,Tt,Tt,Tt,Tt,Tt,Tt,Tt,Tt,Tt,Tt,Tt,Ff] ?_
     refine pZ (i:=33) (N:=some 2) #[Tt,Tt,Tt,Tt,Tt,Tt,Tt,Tt,Tt,Tt,Tt,Tt,Tt,Tt,Tt,Tt,Tt,Tt,Tt,Tt,Tt,Tt,Tt,Tt,Tt,Tt,Tt,Tt,Tt,Tt,Tt,Tt,Tt,Tt] ?_
     refine done_ (done_of HT_.out (by kernel_rfl)) ?_
     try go_wp2
     go_ret
     exact ⟨er_,bl1_ HB.out GE217.out⟩
   ·replace c7:=Bool.eq_false_iff.mpr c7
    subst c7
    have H1:(some false) = some r:=by rw [if_neg (show ¬ (false = true) by decide)] at H; exact H
    clear H
    have H:=H1
    clear H1
    obtain rfl:=Option.some.inj H
    go_enter Tryd.func48,Tryd.ntmps48
    try go_wp2_with (first | ((with_reducible refine gate_dst (N:=1) rfl ?_); refine boxE_ (N:=1) (cs:=#[.int .i64 a0_0,.int .i64 a0_1,.slice A0_2 l0_2.length c0_2,.slice A0_3 l0_3.length c0_3]) (t:=26) ?_; intro gb217 hg w28 hbox hb; have n0_:=Aside0.mk (below_step (bl0_ HB.out) hb); have n1_:=Aside0.mk (hbox); have n2_:=Aside0.mk ((bs0_ hg HB.out:w.heap.size ≤ gb217)); have n3_:=Aside0.mk ((bs0_ hg HB.out:w.heap.size ≤ gb217)); clear HB; have HB:=n0_; have BK217:=n1_; have GW217:=n2_; have GE217:=n3_; clear n0_ n1_ n2_ n3_; clear hb hbox hg))
    have n0_:=Aside0.mk (blk_drew BK217.out)
    have n1_:=Aside0.mk (below_drew1 HB.out)
    clear BK217
    clear HB
    have BK217:=n0_
    have HB:=n1_
    clear n0_ n1_
    refine start_ (n:=34) (S:=fun w' => w'.cell? ⟨gb217,0,none⟩ = some (.int .i64 a0_0) ∧ w'.cell? ⟨gb217,1,none⟩ = some (.int .i64 a0_1) ∧ w'.cell? ⟨gb217,2,none⟩ = some (.slice A0_2 l0_2.length c0_2) ∧ w'.cell? ⟨gb217,3,none⟩ = some (.slice A0_3 l0_3.length c0_3)) (ds:=[]) #[Ff,Ff,Ff,Ff,Ff,Ff,Ff,Ff,Ff,Ff,Ff,Ff,Ff,Ff,Ff,Ff,Ff,Ff,Ff,Ff,Ff,Ff,Ff,Ff,Ff,Ff,Ff,Ff,Ff,Ff,Ff,Ff,Ff,Ff] (by kernel_rfl) rfl rfl ⟨(blk_cell BK217.out 0).trans rfl,(blk_cell BK217.out 1).trans rfl,(blk_cell BK217.out 2).trans rfl,(blk_cell BK217.out 3).trans rfl⟩ (fun hHeld => ?_); refine with_tabW impl_IsFigure.tab1 impl_IsFigure.bits1 (fun HT_ HW_ => ?_)
    generalize w28.drew = w29 at BK217 HB hHeld ⊢
    refine pZ (i:=0) (N:=some 3) #[Tt,Ff,Ff,Ff,Ff,Ff,Ff,Ff,Ff,Ff,Ff,Ff,Ff,Ff,Ff,Ff,Ff,Ff,Ff,Ff,Ff,Ff,Ff,Ff,Ff,Ff,Ff,Ff,Ff,Ff,Ff,Ff,Ff,Ff] ?_
    refine pZ (i:=2) (N:=some 5) #[Tt,Ff,Tt,Ff,Ff,Ff,Ff,Ff,Ff,Ff,Ff,Ff,Ff,Ff,Ff,Ff,Ff,Ff,Ff,Ff,Ff,Ff,Ff,Ff,Ff,Ff,Ff,Ff,Ff,Ff,Ff,Ff,Ff,Ff] ?_
    refine tZ (i:=1) (N:=some 4) #[Tt,Tt,Tt,Ff,Ff,Ff,Ff,Ff,Ff,Ff,Ff,Ff,Ff,Ff,Ff,Ff,Ff,Ff,Ff,Ff,Ff,Ff,Ff,Ff,Ff,Ff,Ff,Ff,Ff,Ff,Ff,Ff,Ff,Ff] ?_
    refine tZ (i:=3) (N:=some 6) #[Tt,Tt,Tt,Tt,Ff,Ff,Ff,Ff,Ff,Ff,Ff,Ff,Ff,Ff,Ff,Ff,Ff,Ff,Ff,Ff,Ff,Ff,Ff,Ff,Ff,Ff,Ff,Ff,Ff,Ff,Ff,Ff,Ff,Ff] ?_
    refine one_ (i:=4) (N:=some 7) #[Tt,Tt,Tt,Tt,Tt,Ff,Ff,Ff,Ff,Ff,Ff,Ff,Ff,Ff,Ff,Ff,Ff,Ff,Ff,Ff,Ff,Ff,Ff,Ff,Ff,Ff,Ff,Ff,Ff,Ff,Ff,Ff,Ff,Ff] rfl rfl (one_of HT_.out (by kernel_rfl)) (by decide) (fun K hK => ?_)
    refine goes_ Tryd.func75 (by kernel_rfl) rfl #[.int .i64 a0_0,.int .i64 a0_1] (by rfl) rfl rfl ob_ ?_
    with_reducible refine (impl_isGrid.calls a0_0 a0_1 true _ A2.out).mono ?_
    rintro e w' ⟨rfl,⟨nd,rfl⟩⟩
    refine ⟨_,rfl,?_⟩
    refine hK.out _ _ ⟨(blk_cell BK217.out 0).trans rfl,(blk_cell BK217.out 1).trans rfl,(blk_cell BK217.out 2).trans rfl,(blk_cell BK217.out 3).trans rfl⟩ (fun hHeld => ?_)
    clear hK K
    refine norm_ (a':=_) ap_ ?_
    refine pZ (i:=5) (N:=some 8) #[Tt,Tt,Tt,Tt,Tt,Tt,Ff,Ff,Ff,Ff,Ff,Ff,Ff,Ff,Ff,Ff,Ff,Ff,Ff,Ff,Ff,Ff,Ff,Ff,Ff,Ff,Ff,Ff,Ff,Ff,Ff,Ff,Ff,Ff] ?_
    refine pZ (i:=6) (N:=some 9) #[Tt,Tt,Tt,Tt,Tt,Tt,Tt,Ff,Ff,Ff,Ff,Ff,Ff,Ff,Ff,Ff,Ff,Ff,Ff,Ff,Ff,Ff,Ff,Ff,Ff,Ff,Ff,Ff,Ff,Ff,Ff,Ff,Ff,Ff] ?_
    refine tZ (i:=7) (N:=some 10) #[Tt,Tt,Tt,Tt,Tt,Tt,Tt,Tt,Ff,Ff,Ff,Ff,Ff,Ff,Ff,Ff,Ff,Ff,Ff,Ff,Ff,Ff,Ff,Ff,Ff,Ff,Ff,Ff,Ff,Ff,Ff,Ff,Ff,Ff] ?_
    refine one_ (i:=8) (N:=some 11) #[Tt,Tt,Tt,Tt,Tt,Tt,Tt,Tt,Tt,Ff,Ff,Ff,Ff,Ff,Ff,Ff,Ff,Ff,Ff,Ff,Ff,Ff,Ff,Ff,Ff,Ff,Ff,Ff,Ff,Ff,Ff,Ff,Ff,Ff] rfl rfl (one_of HT_.out (by kernel_rfl)) (by decide) (fun K hK => ?_)
    refine goes_ Tryd.func76 (by kernel_rfl) rfl #[.slice A0_2 l0_2.length c0_2] (by rfl) rfl rfl ob_ ?_
    with_reducible refine (impl_isRising.calls k _ _ l0_2 true _ ?side1 ?side2 A4.out).mono ?_
    (case side1 => repeat (first | exact (Kd.C_below HR0_2.out (bl1_ HB.out GE217.out)) | (with_reducible refine Kd.C_alloc ?_ _) | (with_reducible refine Kd.C_drewN ?_ _) | (with_reducible refine Kd.C_drew ?_)))
    (case side2 => exact HC0_2.out)
    rintro e w' ⟨rfl,⟨nd,rfl⟩⟩
    refine ⟨_,rfl,?_⟩
    refine hK.out _ _ ⟨(blk_cell BK217.out 0).trans rfl,(blk_cell BK217.out 1).trans rfl,(blk_cell BK217.out 2).trans rfl,(blk_cell BK217.out 3).trans rfl⟩ (fun hHeld => ?_)
    clear hK K
    refine norm_ (a':=_) ap_ ?_
    refine pZ (i:=9) (N:=some 12) #[Tt,Tt,Tt,Tt,Tt,Tt,Tt,Tt,Tt,Tt,Ff,Ff,Ff,Ff,Ff,Ff,Ff,Ff,Ff,Ff,Ff,Ff,Ff,Ff,Ff,Ff,Ff,Ff,Ff,Ff,Ff,Ff,Ff,Ff] ?_
    refine pZ (i:=10) (N:=some 13) #[Tt,Tt,Tt,Tt,Tt,Tt,Tt,Tt,Tt,Tt,Tt,Ff,Ff,Ff,Ff,Ff,Ff,Ff,Ff,Ff,Ff,Ff,Ff,Ff,Ff,Ff,Ff,Ff,Ff,Ff,Ff,Ff,Ff,Ff] ?_
    refine pZ (i:=11) (N:=some 14) #[Tt,Tt,Tt,Tt,Tt,Tt,Tt,Tt,Tt,Tt,Tt,Tt,Ff,Ff,Ff,Ff,Ff,Ff,Ff,Ff,Ff,Ff,Ff,Ff,Ff,Ff,Ff,Ff,Ff,Ff,Ff,Ff,Ff,Ff] ?_
    refine tZ (i:=12) (N:=some 15) #[Tt,Tt,Tt,Tt,Tt,Tt,Tt,Tt,Tt,Tt,Tt,Tt,Tt,Ff,Ff,Ff,Ff,Ff,Ff,Ff,Ff,Ff,Ff,Ff,Ff,Ff,Ff,Ff,Ff,Ff,Ff,Ff,Ff,Ff] ?_
    refine one_ (i:=13) (N:=some 16) #[Tt,Tt,Tt,Tt,Tt,Tt,Tt,Tt,Tt,Tt,Tt,Tt,Tt,Tt,Ff,Ff,Ff,Ff,Ff,Ff,Ff,Ff,Ff,Ff,Ff,Ff,Ff,Ff,Ff,Ff,Ff,Ff,Ff,Ff] rfl rfl (one_of HT_.out (by kernel_rfl)) (by decide) (fun K hK => ?_)
    refine goes_ Tryd.func76 (by kernel_rfl) rfl #[.slice A0_3 l0_3.length c0_3] (by rfl) rfl rfl ob_ ?_
    with_reducible refine (impl_isRising.calls k _ _ l0_3 false _ ?side1 ?side2 A6.out).mono ?_
    (case side1 => repeat (first | exact (Kd.C_below HR0_3.out (bl1_ HB.out GE217.out)) | (with_reducible refine Kd.C_alloc ?_ _) | (with_reducible refine Kd.C_drewN ?_ _) | (with_reducible refine Kd.C_drew ?_)))
    (case side2 => exact HC0_3.out)
    rintro e w' ⟨rfl,⟨nd,rfl⟩⟩
    refine ⟨_,rfl,?_⟩
    refine hK.out _ _ ⟨(blk_cell BK217.out 0).trans rfl,(blk_cell BK217.out 1).trans rfl,(blk_cell BK217.out 2).trans rfl,(blk_cell BK217.out 3).trans rfl⟩ (fun hHeld => ?_)
    clear hK K
    refine norm_ (a':=_) ap_ ?_
    refine pZ (i:=14) (N:=some 17) #[Tt,Tt,Tt,Tt,Tt,Tt,Tt,Tt,Tt,Tt,Tt,Tt,Tt,Tt,Tt,Ff,Ff,Ff,Ff,Ff,Ff,Ff,Ff,Ff,Ff,Ff,Ff,Ff,Ff,Ff,Ff,Ff,Ff,Ff] ?_
    refine pZ (i:=15) (N:=some 18) #[Tt,Tt,Tt,Tt,Tt,Tt,Tt,Tt,Tt,Tt,Tt,Tt,Tt,Tt,Tt,Tt,Ff,Ff,Ff,Ff,Ff,Ff,Ff,Ff,Ff,Ff,Ff,Ff,Ff,Ff,Ff,Ff,Ff,Ff] ?_
    refine pU (i:=16) (N:=some 19) #[Tt,Tt,Tt,Tt,Tt,Tt,Tt,Tt,Tt,Tt,Tt,Tt,Tt,Tt,Tt,Tt,Tt,Ff,Ff,Ff,Ff,Ff,Ff,Ff,Ff,Ff,Ff,Ff,Ff,Ff,Ff,Ff,Ff,Ff] ?_
    refine pU (i:=17) (N:=some 20) #[Tt,Tt,Tt,Tt,Tt,Tt,Tt,Tt,Tt,Tt,Tt,Tt,Tt,Tt,Tt,Tt,Tt,Tt,Ff,Ff,Ff,Ff,Ff,Ff,Ff,Ff,Ff,Ff,Ff,Ff,Ff,Ff,Ff,Ff] ?_
    refine pU (i:=18) (N:=some 21) #[Tt,Tt,Tt,Tt,Tt,Tt,Tt,Tt,Tt,Tt,Tt,Tt,Tt,Tt,Tt,Tt,Tt,Tt,Tt,Ff,Ff,Ff,Ff,Ff,Ff,Ff,Ff,Ff,Ff,Ff,Ff,Ff,Ff,Ff] ?_
    refine pU (i:=19) (N:=some 22) #[Tt,Tt,Tt,Tt,Tt,Tt,Tt,Tt,Tt,Tt,Tt,Tt,Tt,Tt,Tt,Tt,Tt,Tt,Tt,Tt,Ff,Ff,Ff,Ff,Ff,Ff,Ff,Ff,Ff,Ff,Ff,Ff,Ff,Ff] ?_
    refine pU (i:=20) (N:=some 23) #[Tt,Tt,Tt,Tt,Tt,Tt,Tt,Tt,Tt,Tt,Tt,Tt,Tt,Tt,Tt,Tt,Tt,Tt,Tt,Tt,Tt,Ff,Ff,Ff,Ff,Ff,Ff,Ff,Ff,Ff,Ff,Ff,Ff,Ff] ?_
    refine pU (i:=21) (N:=some 24) #[Tt,Tt,Tt,Tt,Tt,Tt,Tt,Tt,Tt,Tt,Tt,Tt,Tt,Tt,Tt,Tt,Tt,Tt,Tt,Tt,Tt,Tt,Ff,Ff,Ff,Ff,Ff,Ff,Ff,Ff,Ff,Ff,Ff,Ff] ?_
    refine pU (i:=22) (N:=some 25) #[Tt,Tt,Tt,Tt,Tt,Tt,Tt,Tt,Tt,Tt,Tt,Tt,Tt,Tt,Tt,Tt,Tt,Tt,Tt,Tt,Tt,Tt,Tt,Ff,Ff,Ff,Ff,Ff,Ff,Ff,Ff,Ff,Ff,Ff] ?_
    refine pZ (i:=23) (N:=some 26) #[Tt,Tt,Tt,Tt,Tt,Tt,Tt,Tt,Tt,Tt,Tt,Tt,Tt,Tt,Tt,Tt,Tt,Tt,Tt,Tt,Tt,Tt,Tt,Tt,Ff,Ff,Ff,Ff,Ff,Ff,Ff,Ff,Ff,Ff] ?_
    refine pZ (i:=24) (N:=some 27) #[Tt,Tt,Tt,Tt,Tt,Tt,Tt,Tt,Tt,Tt,Tt,Tt,Tt,Tt,Tt,Tt,Tt,Tt,Tt,Tt,Tt,Tt,Tt,Tt,Tt,Ff,Ff,Ff,Ff,Ff,Ff,Ff,Ff,Ff] ?_
    refine pU (i:=25) (N:=some 28) #[Tt,Tt,Tt,Tt,Tt,Tt,Tt,Tt,Tt,Tt,Tt,Tt,Tt,Tt,Tt,Tt,Tt,Tt,Tt,Tt,Tt,Tt,Tt,Tt,Tt,Tt,Ff,Ff,Ff,Ff,Ff,Ff,Ff,Ff] ?_
    refine pU (i:=26) (N:=some 29) #[Tt,Tt,Tt,Tt,Tt,Tt,Tt,Tt,Tt,Tt,Tt,Tt,Tt,Tt,Tt,Tt,Tt,Tt,Tt,Tt,Tt,Tt,Tt,Tt,Tt,Tt,Tt,Ff,Ff,Ff,Ff,Ff,Ff,Ff] ?_
    refine pU (i:=27) (N:=some 30) #[Tt,Tt,Tt,Tt,Tt,Tt,Tt,Tt,Tt,Tt,Tt,Tt,Tt,Tt,Tt,Tt,Tt,Tt,Tt,Tt,Tt,Tt,Tt,Tt,Tt,Tt,Tt,Tt,Ff,Ff,Ff,Ff,Ff,Ff] ?_
    refine pU (i:=28) (N:=some 31) #[Tt,Tt,Tt,Tt,Tt,Tt,Tt,Tt,Tt,Tt,Tt,Tt,Tt,Tt,Tt,Tt,Tt,Tt,Tt,Tt,Tt,Tt,Tt,Tt,Tt,Tt,Tt,Tt,Tt,Ff,Ff,Ff,Ff,Ff] ?_
    refine pU (i:=29) (N:=some 32) #[Tt,Tt,Tt,Tt,Tt,Tt,Tt,Tt,Tt,Tt,Tt,Tt,Tt,Tt,Tt,Tt,Tt,Tt,Tt,Tt,Tt,Tt,Tt,Tt,Tt,Tt,Tt,Tt,Tt,Tt,Ff,Ff,Ff,Ff] ?_
    refine pU (i:=30) (N:=some 33) #[Tt,Tt,Tt,Tt,Tt,Tt,Tt,Tt,Tt,Tt,Tt,Tt,Tt,Tt,Tt,Tt,Tt,Tt,Tt,Tt,Tt,Tt,Tt,Tt,Tt,Tt,Tt,Tt,Tt,Tt,Tt,Ff,Ff,Ff] ?_
    refine pU (i:=31) (N:=some 34) #[Tt,Tt,Tt,Tt,Tt,Tt,Tt,Tt,Tt,Tt,Tt,Tt,Tt,Tt,Tt,Tt,Tt,Tt,Tt,Tt,Tt,Tt,Tt,Tt,Tt,Tt,Tt,Tt,Tt,Tt,Tt,Tt,Ff,Ff] ?_
    refine pZ (i:=32) (N:=some 35) #[Tt,Tt,Tt,Tt,Tt,Tt,Tt,Tt,Tt,Tt,Tt,Tt,Tt,Tt,Tt,Tt,Tt,Tt,Tt,Tt,Tt,Tt,Tt,Tt,Tt,Tt,Tt,Tt,Tt,Tt,Tt,Tt,Tt,Ff] ?_
    refine pZ (i:=33) (N:=some 2) #[Tt,Tt,Tt,Tt,Tt,Tt,Tt,Tt,Tt,Tt,Tt,Tt,Tt,Tt,Tt,Tt,Tt,Tt,Tt,Tt,Tt,Tt,Tt,Tt,Tt,Tt,Tt,Tt,Tt,Tt,Tt,Tt,Tt,Tt] ?_
    refine done_ (done_of HT_.out (by kernel_rfl)) ?_
    try go_wp2
    go_ret
    exact ⟨er_,bl1_ HB.out GE217.out⟩
  ·replace c5:=Bool.eq_false_iff.mpr c5
   subst c5
   have H1:(some false) = some r:=by rw [if_neg (show ¬ (false = true) by decide)] at H; exact H
   clear H
   have H:=H1
   clear H1
   obtain rfl:=Option.some.inj H
   go_enter Tryd.func48,Tryd.ntmps48
   try go_wp2_with (first | ((with_reducible refine gate_dst (N:=1) rfl ?_); refine boxE_ (N:=1) (cs:=#[.int .i64 a0_0,.int .i64 a0_1,.slice A0_2 l0_2.length c0_2,.slice A0_3 l0_3.length c0_3]) (t:=26) ?_; intro gb217 hg w30 hbox hb; have n0_:=Aside0.mk (below_step (bl0_ HB.out) hb); have n1_:=Aside0.mk (hbox); have n2_:=Aside0.mk ((bs0_ hg HB.out:w.heap.size ≤ gb217)); have n3_:=Aside0.mk ((bs0_ hg HB.out:w.heap.size ≤ gb217)); clear HB; have HB:=n0_; have BK217:=n1_; have GW217:=n2_; have GE217:=n3_; clear n0_ n1_ n2_ n3_; clear hb hbox hg))
   have n0_:=Aside0.mk (blk_drew BK217.out)
   have n1_:=Aside0.mk (below_drew1 HB.out)
   clear BK217
   clear HB
   have BK217:=n0_
   have HB:=n1_
   clear n0_ n1_
   refine start_ (n:=34) (S:=fun w' => w'.cell? ⟨gb217,0,none⟩ = some (.int .i64 a0_0) ∧ w'.cell? ⟨gb217,1,none⟩ = some (.int .i64 a0_1) ∧ w'.cell? ⟨gb217,2,none⟩ = some (.slice A0_2 l0_2.length c0_2) ∧ w'.cell? ⟨gb217,3,none⟩ = some (.slice A0_3 l0_3.length c0_3)) (ds:=[]) #[Ff,Ff,Ff,Ff,Ff,Ff,Ff,Ff,Ff,Ff,Ff,Ff,Ff,Ff,Ff,Ff,Ff,Ff,Ff,Ff,Ff,Ff,Ff,Ff,Ff,Ff,Ff,Ff,Ff,Ff,Ff,Ff,Ff,Ff] (by kernel_rfl) rfl rfl ⟨(blk_cell BK217.out 0).trans rfl,(blk_cell BK217.out 1).trans rfl,(blk_cell BK217.out 2).trans rfl,(blk_cell BK217.out 3).trans rfl⟩ (fun hHeld => ?_); refine with_tabW impl_IsFigure.tab1 impl_IsFigure.bits1 (fun HT_ HW_ => ?_)
   generalize w30.drew = w31 at BK217 HB hHeld ⊢
   refine pZ (i:=0) (N:=some 3) #[Tt,Ff,Ff,Ff,Ff,Ff,Ff,Ff,Ff,Ff,Ff,Ff,Ff,Ff,Ff,Ff,Ff,Ff,Ff,Ff,Ff,Ff,Ff,Ff,Ff,Ff,Ff,Ff,Ff,Ff,Ff,Ff,Ff,Ff] ?_
   refine pZ (i:=2) (N:=some 5) #[Tt,Ff,Tt,Ff,Ff,Ff,Ff,Ff,Ff,Ff,Ff,Ff,Ff,Ff,Ff,Ff,Ff,Ff,Ff,Ff,Ff,Ff,Ff,Ff,Ff,Ff,Ff,Ff,Ff,Ff,Ff,Ff,Ff,Ff] ?_
   refine tZ (i:=1) (N:=some 4) #[Tt,Tt,Tt,Ff,Ff,Ff,Ff,Ff,Ff,Ff,Ff,Ff,Ff,Ff,Ff,Ff,Ff,Ff,Ff,Ff,Ff,Ff,Ff,Ff,Ff,Ff,Ff,Ff,Ff,Ff,Ff,Ff,Ff,Ff] ?_
   refine tZ (i:=3) (N:=some 6) #[Tt,Tt,Tt,Tt,Ff,Ff,Ff,Ff,Ff,Ff,Ff,Ff,Ff,Ff,Ff,Ff,Ff,Ff,Ff,Ff,Ff,Ff,Ff,Ff,Ff,Ff,Ff,Ff,Ff,Ff,Ff,Ff,Ff,Ff] ?_
   refine one_ (i:=4) (N:=some 7) #[Tt,Tt,Tt,Tt,Tt,Ff,Ff,Ff,Ff,Ff,Ff,Ff,Ff,Ff,Ff,Ff,Ff,Ff,Ff,Ff,Ff,Ff,Ff,Ff,Ff,Ff,Ff,Ff,Ff,Ff,Ff,Ff,Ff,Ff] rfl rfl (one_of HT_.out (by kernel_rfl)) (by decide) (fun K hK => ?_)
   refine goes_ Tryd.func75 (by kernel_rfl) rfl #[.int .i64 a0_0,.int .i64 a0_1] (by rfl) rfl rfl ob_ ?_
   with_reducible refine (impl_isGrid.calls a0_0 a0_1 true _ A2.out).mono ?_
   rintro e w' ⟨rfl,⟨nd,rfl⟩⟩
   refine ⟨_,rfl,?_⟩
   refine hK.out _ _ ⟨(blk_cell BK217.out 0).trans rfl,(blk_cell BK217.out 1).trans rfl,(blk_cell BK217.out 2).trans rfl,(blk_cell BK217.out 3).trans rfl⟩ (fun hHeld => ?_)
   clear hK K
   refine norm_ (a':=_) ap_ ?_
   refine pZ (i:=5) (N:=some 8) #[Tt,Tt,Tt,Tt,Tt,Tt,Ff,Ff,Ff,Ff,Ff,Ff,Ff,Ff,Ff,Ff,Ff,Ff,Ff,Ff,Ff,Ff,Ff,Ff,Ff,Ff,Ff,Ff,Ff,Ff,Ff,Ff,Ff,Ff] ?_
   refine pZ (i:=6) (N:=some 9) #[Tt,Tt,Tt,Tt,Tt,Tt,Tt,Ff,Ff,Ff,Ff,Ff,Ff,Ff,Ff,Ff,Ff,Ff,Ff,Ff,Ff,Ff,Ff,Ff,Ff,Ff,Ff,Ff,Ff,Ff,Ff,Ff,Ff,Ff] ?_
   refine tZ (i:=7) (N:=some 10) #[Tt,Tt,Tt,Tt,Tt,Tt,Tt,Tt,Ff,Ff,Ff,Ff,Ff,Ff,Ff,Ff,Ff,Ff,Ff,Ff,Ff,Ff,Ff,Ff,Ff,Ff,Ff,Ff,Ff,Ff,Ff,Ff,Ff,Ff] ?_
   refine one_ (i:=8) (N:=some 11) #[Tt,Tt,Tt,Tt,Tt,Tt,Tt,Tt,Tt,Ff,Ff,Ff,Ff,Ff,Ff,Ff,Ff,Ff,Ff,Ff,Ff,Ff,Ff,Ff,Ff,Ff,Ff,Ff,Ff,Ff,Ff,Ff,Ff,Ff] rfl rfl (one_of HT_.out (by kernel_rfl)) (by decide) (fun K hK => ?_)
   refine goes_ Tryd.func76 (by kernel_rfl) rfl #[.slice A0_2 l0_2.length c0_2] (by rfl) rfl rfl ob_ ?_
   with_reducible refine (impl_isRising.calls k _ _ l0_2 false _ ?side1 ?side2 A4.out).mono ?_
   (case side1 => repeat (first | exact (Kd.C_below HR0_2.out (bl1_ HB.out GE217.out)) | (with_reducible refine Kd.C_alloc ?_ _) | (with_reducible refine Kd.C_drewN ?_ _) | (with_reducible refine Kd.C_drew ?_)))
   (case side2 => exact HC0_2.out)
   rintro e w' ⟨rfl,⟨nd,rfl⟩⟩
   refine ⟨_,rfl,?_⟩
   refine hK.out _ _ ⟨(blk_cell BK217.out 0).trans rfl,(blk_cell BK217.out 1).trans rfl,(blk_cell BK217.out 2).trans rfl,(blk_cell BK217.out 3).trans rfl⟩ (fun hHeld => ?_)
   clear hK K
   refine norm_ (a':=_) ap_ ?_
   refine pZ (i:=9) (N:=some 12) #[Tt,Tt,Tt,Tt,Tt,Tt,Tt,Tt,Tt,Tt,Ff,Ff,Ff,Ff,Ff,Ff,Ff,Ff,Ff,Ff,Ff,Ff,Ff,Ff,Ff,Ff,Ff,Ff,Ff,Ff,Ff,Ff,Ff,Ff] ?_
   refine pZ (i:=10) (N:=some 13) #[Tt,Tt,Tt,Tt,Tt,Tt,Tt,Tt,Tt,Tt,Tt,Ff,Ff,Ff,Ff,Ff,Ff,Ff,Ff,Ff,Ff,Ff,Ff,Ff,Ff,Ff,Ff,Ff,Ff,Ff,Ff,Ff,Ff,Ff] ?_
   refine pU (i:=11) (N:=some 14) #[Tt,Tt,Tt,Tt,Tt,Tt,Tt,Tt,Tt,Tt,Tt,Tt,Ff,Ff,Ff,Ff,Ff,Ff,Ff,Ff,Ff,Ff,Ff,Ff,Ff,Ff,Ff,Ff,Ff,Ff,Ff,Ff,Ff,Ff] ?_
   refine pU (i:=12) (N:=some 15) #[Tt,Tt,Tt,Tt,Tt,Tt,Tt,Tt,Tt,Tt,Tt,Tt,Tt,Ff,Ff,Ff,Ff,Ff,Ff,Ff,Ff,Ff,Ff,Ff,Ff,Ff,Ff,Ff,Ff,Ff,Ff,Ff,Ff,Ff] ?_
   refine pU (i:=13) (N:=some 16) #[Tt,Tt,Tt,Tt,Tt,Tt,Tt,Tt,Tt,Tt,Tt,Tt,Tt,Tt,Ff,Ff,Ff,Ff,Ff,Ff,Ff,Ff,Ff,Ff,Ff,Ff,Ff,Ff,Ff,Ff,Ff,Ff,Ff,Ff] ?_
   refine pZ (i:=14) (N:=some 17) #[Tt,Tt,Tt,Tt,Tt,Tt,Tt,Tt,Tt,Tt,Tt,Tt,Tt,Tt,Tt,Ff,Ff,Ff,Ff,Ff,Ff,Ff,Ff,Ff,Ff,Ff,Ff,Ff,Ff,Ff,Ff,Ff,Ff,Ff] ?_
   refine pZ (i:=15) (N:=some 18) #[Tt,Tt,Tt,Tt,Tt,Tt,Tt,Tt,Tt,Tt,Tt,Tt,Tt,Tt,Tt,Tt,Ff,Ff,Ff,Ff,Ff,Ff,Ff,Ff,Ff,Ff,Ff,Ff,Ff,Ff,Ff,Ff,Ff,Ff] ?_
   refine pU (i:=16) (N:=some 19) #[Tt,Tt,Tt,Tt,Tt,Tt,Tt,Tt,Tt,Tt,Tt,Tt,Tt,Tt,Tt,Tt,Tt,Ff,Ff,Ff,Ff,Ff,Ff,Ff,Ff,Ff,Ff,Ff,Ff,Ff,Ff,Ff,Ff,Ff] ?_
   refine pU (i:=17) (N:=some 20) #[Tt,Tt,Tt,Tt,Tt,Tt,Tt,Tt,Tt,Tt,Tt,Tt,Tt,Tt,Tt,Tt,Tt,Tt,Ff,Ff,Ff,Ff,Ff,Ff,Ff,Ff,Ff,Ff,Ff,Ff,Ff,Ff,Ff,Ff] ?_
   refine pU (i:=18) (N:=some 21) #[Tt,Tt,Tt,Tt,Tt,Tt,Tt,Tt,Tt,Tt,Tt,Tt,Tt,Tt,Tt,Tt,Tt,Tt,Tt,Ff,Ff,Ff,Ff,Ff,Ff,Ff,Ff,Ff,Ff,Ff,Ff,Ff,Ff,Ff] ?_
   refine pU (i:=19) (N:=some 22) #[Tt,Tt,Tt,Tt,Tt,Tt,Tt,Tt,Tt,Tt,Tt,Tt,Tt,Tt,Tt,Tt,Tt,Tt,Tt,Tt,Ff,Ff,Ff,Ff,Ff,Ff,Ff,Ff,Ff,Ff,Ff,Ff,Ff,Ff] ?_
   refine pU (i:=20) (N:=some 23) #[Tt,Tt,Tt,Tt,Tt,Tt,Tt,Tt,Tt,Tt,Tt,Tt,Tt,Tt,Tt,Tt,Tt,Tt,Tt,Tt,Tt,Ff,Ff,Ff,Ff,Ff,Ff,Ff,Ff,Ff,Ff,Ff,Ff,Ff] ?_
   refine pU (i:=21) (N:=some 24) #[Tt,Tt,Tt,Tt,Tt,Tt,Tt,Tt,Tt,Tt,Tt,Tt,Tt,Tt,Tt,Tt,Tt,Tt,Tt,Tt,Tt,Tt,Ff,Ff,Ff,Ff,Ff,Ff,Ff,Ff,Ff,Ff,Ff,Ff] ?_
   refine pU (i:=22) (N:=some 25) #[Tt,Tt,Tt,Tt,Tt,Tt,Tt,Tt,Tt,Tt,Tt,Tt,Tt,Tt,Tt,Tt,Tt,Tt,Tt,Tt,Tt,Tt,Tt,Ff,Ff,Ff,Ff,Ff,Ff,Ff,Ff,Ff,Ff,Ff] ?_
   refine pZ (i:=23) (N:=some 26) #[Tt,Tt,Tt,Tt,Tt,Tt,Tt,Tt,Tt,Tt,Tt,Tt,Tt,Tt,Tt,Tt,Tt,Tt,Tt,Tt,Tt,Tt,Tt,Tt,Ff,Ff,Ff,Ff,Ff,Ff,Ff,Ff,Ff,Ff] ?_
   refine pZ (i:=24) (N:=some 27) #[Tt,Tt,Tt,Tt,Tt,Tt,Tt,Tt,Tt,Tt,Tt,Tt,Tt,Tt,Tt,Tt,Tt,Tt,Tt,Tt,Tt,Tt,Tt,Tt,Tt,Ff,Ff,Ff,Ff,Ff,Ff,Ff,Ff,Ff] ?_
   refine pU (i:=25) (N:=some 28) #[Tt,Tt,Tt,Tt,Tt,Tt,Tt,Tt,Tt,Tt,Tt,Tt,Tt,Tt,Tt,Tt,Tt,Tt,Tt,Tt,Tt,Tt,Tt,Tt,Tt,Tt,Ff,Ff,Ff,Ff,Ff,Ff,Ff,Ff] ?_
   refine pU (i:=26) (N:=some 29) #[Tt,Tt,Tt,Tt,Tt,Tt,Tt,Tt,Tt,Tt,Tt,Tt,Tt,Tt,Tt,Tt,Tt,Tt,Tt,Tt,Tt,Tt,Tt,Tt,Tt,Tt,Tt,Ff,Ff,Ff,Ff,Ff,Ff,Ff] ?_
   refine pU (i:=27) (N:=some 30) #[Tt,Tt,Tt,Tt,Tt,Tt,Tt,Tt,Tt,Tt,Tt,Tt,Tt,Tt,Tt,Tt,Tt,Tt,Tt,Tt,Tt,Tt,Tt,Tt,Tt,Tt,Tt,Tt,Ff,Ff,Ff,Ff,Ff,Ff] ?_
   refine pU (i:=28) (N:=some 31) #[Tt,Tt,Tt,Tt,Tt,Tt,Tt,Tt,Tt,Tt,Tt,Tt,Tt,Tt,Tt,Tt,Tt,Tt,Tt,Tt,Tt,Tt,Tt,Tt,Tt,Tt,Tt,Tt,Tt,Ff,Ff,Ff,Ff,Ff] ?_
   refine pU (i:=29) (N:=some 32) #[Tt,Tt,Tt,Tt,Tt,Tt,Tt,Tt,Tt,Tt,Tt,Tt,Tt,Tt,Tt,Tt,Tt,Tt,Tt,Tt,Tt,Tt,Tt,Tt,Tt,Tt,Tt,Tt,Tt,Tt,Ff,Ff,Ff,Ff] ?_
   refine pU (i:=30) (N:=some 33) #[Tt,Tt,Tt,Tt,Tt,Tt,Tt,Tt,Tt,Tt,Tt,Tt,Tt,Tt,Tt,Tt,Tt,Tt,Tt,Tt,Tt,Tt,Tt,Tt,Tt,Tt,Tt,Tt,Tt,Tt,Tt,Ff,Ff,Ff] ?_
   refine pU (i:=31) (N:=some 34) #[Tt,Tt,Tt,Tt,Tt,Tt,Tt,Tt,Tt,Tt,Tt,Tt,Tt,Tt,Tt,Tt,Tt,Tt,Tt,Tt,Tt,Tt,Tt,Tt,Tt,Tt,Tt,Tt,Tt,Tt,Tt,Tt,Ff,Ff] ?_
   refine pZ (i:=32) (N:=some 35) #[Tt,Tt,Tt,Tt,Tt,Tt,Tt,Tt,Tt,Tt,Tt,Tt,Tt,Tt,Tt,Tt,Tt,Tt,Tt,Tt,Tt,Tt,Tt,Tt,Tt,Tt,Tt,Tt,Tt,Tt,Tt,Tt,Tt,Ff] ?_
   refine pZ (i:=33) (N:=some 2) #[Tt,Tt,Tt,Tt,Tt,Tt,Tt,Tt,Tt,Tt,Tt,Tt,Tt,Tt,Tt,Tt,Tt,Tt,Tt,Tt,Tt,Tt,Tt,Tt,Tt,Tt,Tt,Tt,Tt,Tt,Tt,Tt,Tt,Tt] ?_
   refine done_ (done_of HT_.out (by kernel_rfl)) ?_
   try go_wp2
   go_ret
   exact ⟨er_,bl1_ HB.out GE217.out⟩
 ·replace c3:=Bool.eq_false_iff.mpr c3
  subst c3
  have H1:(some false) = some r:=by rw [if_neg (show ¬ (false = true) by decide)] at H; exact H
  clear H
  have H:=H1
  clear H1
  obtain rfl:=Option.some.inj H
  go_enter Tryd.func48,Tryd.ntmps48
  try go_wp2_with (first | ((with_reducible refine gate_dst (N:=1) rfl ?_); refine boxE_ (N:=1) (cs:=#[.int .i64 a0_0,.int .i64 a0_1,.slice A0_2 l0_2.length c0_2,.slice A0_3 l0_3.length c0_3]) (t:=26) ?_; intro gb217 hg w32 hbox hb; have n0_:=Aside0.mk (below_step (bl0_ HB.out) hb); have n1_:=Aside0.mk (hbox); have n2_:=Aside0.mk ((bs0_ hg HB.out:w.heap.size ≤ gb217)); have n3_:=Aside0.mk ((bs0_ hg HB.out:w.heap.size ≤ gb217)); clear HB; have HB:=n0_; have BK217:=n1_; have GW217:=n2_; have GE217:=n3_; clear n0_ n1_ n2_ n3_; clear hb hbox hg))
  have n0_:=Aside0.mk (blk_drew BK217.out)
  have n1_:=Aside0.mk (below_drew1 HB.out)
  clear BK217
  clear HB
  have BK217:=n0_
  have HB:=n1_
  clear n0_ n1_
  refine start_ (n:=34) (S:=fun w' => w'.cell? ⟨gb217,0,none⟩ = some (.int .i64 a0_0) ∧ w'.cell? ⟨gb217,1,none⟩ = some (.int .i64 a0_1) ∧ w'.cell? ⟨gb217,2,none⟩ = some (.slice A0_2 l0_2.length c0_2) ∧ w'.cell? ⟨gb217,3,none⟩ = some (.slice A0_3 l0_3.length c0_3)) (ds:=[]) #[Ff,Ff,Ff,Ff,Ff,Ff,Ff,Ff,Ff,Ff,Ff,Ff,Ff,Ff,Ff,Ff,Ff,Ff,Ff,Ff,Ff,Ff,Ff,Ff,Ff,Ff,Ff,Ff,Ff,Ff,Ff,Ff,Ff,Ff] (by kernel_rfl) rfl rfl ⟨(blk_cell BK217.out 0).trans rfl,(blk_cell BK217.out 1).trans rfl,(blk_cell BK217.out 2).trans rfl,(blk_cell BK217.out 3).trans rfl⟩ (fun hHeld => ?_); refine with_tabW impl_IsFigure.tab1 impl_IsFigure.bits1 (fun HT_ HW_ => ?_)
  generalize w32.drew = w33 at BK217 HB hHeld ⊢
  refine pZ (i:=0) (N:=some 3) #[Tt,Ff,Ff,Ff,Ff,Ff,Ff,Ff,Ff,Ff,Ff,Ff,Ff,Ff,Ff,Ff,Ff,Ff,Ff,Ff,Ff,Ff,Ff,Ff,Ff,Ff,Ff,Ff,Ff,Ff,Ff,Ff,Ff,Ff] ?_
  refine pZ (i:=2) (N:=some 5) #[Tt,Ff,Tt,Ff,Ff,Ff,Ff,Ff,Ff,Ff,Ff,Ff,Ff,Ff,Ff,Ff,Ff,Ff,Ff,Ff,Ff,Ff,Ff,Ff,Ff,Ff,Ff,Ff,Ff,Ff,Ff,Ff,Ff,Ff] ?_
  refine tZ (i:=1) (N:=some 4) #[Tt,Tt,Tt,Ff,Ff,Ff,Ff,Ff,Ff,Ff,Ff,Ff,Ff,Ff,Ff,Ff,Ff,Ff,Ff,Ff,Ff,Ff,Ff,Ff,Ff,Ff,Ff,Ff,Ff,Ff,Ff,Ff,Ff,Ff] ?_
  refine tZ (i:=3) (N:=some 6) #[Tt,Tt,Tt,Tt,Ff,Ff,Ff,Ff,Ff,Ff,Ff,Ff,Ff,Ff,Ff,Ff,Ff,Ff,Ff,Ff,Ff,Ff,Ff,Ff,Ff,Ff,Ff,Ff,Ff,Ff,Ff,Ff,Ff,Ff] ?_
  refine one_ (i:=4) (N:=some 7) #[Tt,Tt,Tt,Tt,Tt,Ff,Ff,Ff,Ff,Ff,Ff,Ff,Ff,Ff,Ff,Ff,Ff,Ff,Ff,Ff,Ff,Ff,Ff,Ff,Ff,Ff,Ff,Ff,Ff,Ff,Ff,Ff,Ff,Ff] rfl rfl (one_of HT_.out (by kernel_rfl)) (by decide) (fun K hK => ?_)
  refine goes_ Tryd.func75 (by kernel_rfl) rfl #[.int .i64 a0_0,.int .i64 a0_1] (by rfl) rfl rfl ob_ ?_
  with_reducible refine (impl_isGrid.calls a0_0 a0_1 false _ A2.out).mono ?_
  rintro e w' ⟨rfl,⟨nd,rfl⟩⟩
  refine ⟨_,rfl,?_⟩
  refine hK.out _ _ ⟨(blk_cell BK217.out 0).trans rfl,(blk_cell BK217.out 1).trans rfl,(blk_cell BK217.out 2).trans rfl,(blk_cell BK217.out 3).trans rfl⟩ (fun hHeld => ?_)
  clear hK K
  refine norm_ (a':=_) ap_ ?_
  refine pZ (i:=5) (N:=some 8) #[Tt,Tt,Tt,Tt,Tt,Tt,Ff,Ff,Ff,Ff,Ff,Ff,Ff,Ff,Ff,Ff,Ff,Ff,Ff,Ff,Ff,Ff,Ff,Ff,Ff,Ff,Ff,Ff,Ff,Ff,Ff,Ff,Ff,Ff] ?_
  refine pU (i:=6) (N:=some 9) #[Tt,Tt,Tt,Tt,Tt,Tt,Tt,Ff,Ff,Ff,Ff,Ff,Ff,Ff,Ff,Ff,Ff,Ff,Ff,Ff,Ff,Ff,Ff,Ff,Ff,Ff,Ff,Ff,Ff,Ff,Ff,Ff,Ff,Ff] ?_
  refine pU (i:=7) (N:=some 10) #[Tt,Tt,Tt,Tt,Tt,Tt,Tt,Tt,Ff,Ff,Ff,Ff,Ff,Ff,Ff,Ff,Ff,Ff,Ff,Ff,Ff,Ff,Ff,Ff,Ff,Ff,Ff,Ff,Ff,Ff,Ff,Ff,Ff,Ff] ?_
  refine pU (i:=8) (N:=some 11) #[Tt,Tt,Tt,Tt,Tt,Tt,Tt,Tt,Tt,Ff,Ff,Ff,Ff,Ff,Ff,Ff,Ff,Ff,Ff,Ff,Ff,Ff,Ff,Ff,Ff,Ff,Ff,Ff,Ff,Ff,Ff,Ff,Ff,Ff] ?_
  refine pZ (i:=9) (N:=some 12) #[Tt,Tt,Tt,Tt,Tt,Tt,Tt,Tt,Tt,Tt,Ff,Ff,Ff,Ff,Ff,Ff,Ff,Ff,Ff,Ff,Ff,Ff,Ff,Ff,Ff,Ff,Ff,Ff,Ff,Ff,Ff,Ff,Ff,Ff] ?_
  refine pZ (i:=10) (N:=some 13) #[Tt,Tt,Tt,Tt,Tt,Tt,Tt,Tt,Tt,Tt,Tt,Ff,Ff,Ff,Ff,Ff,Ff,Ff,Ff,Ff,Ff,Ff,Ff,Ff,Ff,Ff,Ff,Ff,Ff,Ff,Ff,Ff,Ff,Ff] ?_
  refine pU (i:=11) (N:=some 14) #[Tt,Tt,Tt,Tt,Tt,Tt,Tt,Tt,Tt,Tt,Tt,Tt,Ff,Ff,Ff,Ff,Ff,Ff,Ff,Ff,Ff,Ff,Ff,Ff,Ff,Ff,Ff,Ff,Ff,Ff,Ff,Ff,Ff,Ff] ?_
  refine pU (i:=12) (N:=some 15) #[Tt,Tt,Tt,Tt,Tt,Tt,Tt,Tt,Tt,Tt,Tt,Tt,Tt,Ff,Ff,Ff,Ff,Ff,Ff,Ff,Ff,Ff,Ff,Ff,Ff,Ff,Ff,Ff,Ff,Ff,Ff,Ff,Ff,Ff] ?_
  refine pU (i:=13) (N:=some 16) #[Tt,Tt,Tt,Tt,Tt,Tt,Tt,Tt,Tt,Tt,Tt,Tt,Tt,Tt,Ff,Ff,Ff,Ff,Ff,Ff,Ff,Ff,Ff,Ff,Ff,Ff,Ff,Ff,Ff,Ff,Ff,Ff,Ff,Ff] ?_
  refine pZ (i:=14) (N:=some 17) #[Tt,Tt,Tt,Tt,Tt,Tt,Tt,Tt,Tt,Tt,Tt,Tt,Tt,Tt,Tt,Ff,Ff,Ff,Ff,Ff,Ff,Ff,Ff,Ff,Ff,Ff,Ff,Ff,Ff,Ff,Ff,Ff,Ff,Ff] ?_
  refine pZ (i:=15) (N:=some 18) #[Tt,Tt,Tt,Tt,Tt,Tt,Tt,Tt,Tt,Tt,Tt,Tt,Tt,Tt,Tt,Tt,Ff,Ff,Ff,Ff,Ff,Ff,Ff,Ff,Ff,Ff,Ff,Ff,Ff,Ff,Ff,Ff,Ff,Ff] ?_
  refine pU (i:=16) (N:=some 19) #[Tt,Tt,Tt,Tt,Tt,Tt,Tt,Tt,Tt,Tt,Tt,Tt,Tt,Tt,Tt,Tt,Tt,Ff,Ff,Ff,Ff,Ff,Ff,Ff,Ff,Ff,Ff,Ff,Ff,Ff,Ff,Ff,Ff,Ff] ?_
  refine pU (i:=17) (N:=some 20) #[Tt,Tt,Tt,Tt,Tt,Tt,Tt,Tt,Tt,Tt,Tt,Tt,Tt,Tt,Tt,Tt,Tt,Tt,Ff,Ff,Ff,Ff,Ff,Ff,Ff,Ff,Ff,Ff,Ff,Ff,Ff,Ff,Ff,Ff] ?_
  refine pU (i:=18) (N:=some 21) #[Tt,Tt,Tt,Tt,Tt,Tt,Tt,Tt,Tt,Tt,Tt,Tt,Tt,Tt,Tt,Tt,Tt,Tt,Tt,Ff,Ff,Ff,Ff,Ff,Ff,Ff,Ff,Ff,Ff,Ff,Ff,Ff,Ff,Ff] ?_
  refine pU (i:=19) (N:=some 22) #[Tt,Tt,Tt,Tt,Tt,Tt,Tt,Tt,Tt,Tt,Tt,Tt,Tt,Tt,Tt,Tt,Tt,Tt,Tt,Tt,Ff,Ff,Ff,Ff,Ff,Ff,Ff,Ff,Ff,Ff,Ff,Ff,Ff,Ff] ?_
  refine pU (i:=20) (N:=some 23) #[Tt,Tt,Tt,Tt,Tt,Tt,Tt,Tt,Tt,Tt,Tt,Tt,Tt,Tt,Tt,Tt,Tt,Tt,Tt,Tt,Tt,Ff,Ff,Ff,Ff,Ff,Ff,Ff,Ff,Ff,Ff,Ff,Ff,Ff] ?_
  refine pU (i:=21) (N:=some 24) #[Tt,Tt,Tt,Tt,Tt,Tt,Tt,Tt,Tt,Tt,Tt,Tt,Tt,Tt,Tt,Tt,Tt,Tt,Tt,Tt,Tt,Tt,Ff,Ff,Ff,Ff,Ff,Ff,Ff,Ff,Ff,Ff,Ff,Ff] ?_
  refine pU (i:=22) (N:=some 25) #[Tt,Tt,Tt,Tt,Tt,Tt,Tt,Tt,Tt,Tt,Tt,Tt,Tt,Tt,Tt,Tt,Tt,Tt,Tt,Tt,Tt,Tt,Tt,Ff,Ff,Ff,Ff,Ff,Ff,Ff,Ff,Ff,Ff,Ff] ?_
  refine pZ (i:=23) (N:=some 26) #[Tt,Tt,Tt,Tt,Tt,Tt,Tt,Tt,Tt,Tt,Tt,Tt,Tt,Tt,Tt,Tt,Tt,Tt,Tt,Tt,Tt,Tt,Tt,Tt,Ff,Ff,Ff,Ff,Ff,Ff,Ff,Ff,Ff,Ff] ?_
  refine pZ (i:=24) (N:=some 27) #[Tt,Tt,Tt,Tt,Tt,Tt,Tt,Tt,Tt,Tt,Tt,Tt,Tt,Tt,Tt,Tt,Tt,Tt,Tt,Tt,Tt,Tt,Tt,Tt,Tt,Ff,Ff,Ff,Ff,Ff,Ff,Ff,Ff,Ff] ?_
  refine pU (i:=25) (N:=some 28) #[Tt,Tt,Tt,Tt,Tt,Tt,Tt,Tt,Tt,Tt,Tt,Tt,Tt,Tt,Tt,Tt,Tt,Tt,Tt,Tt,Tt,Tt,Tt,Tt,Tt,Tt,Ff,Ff,Ff,Ff,Ff,Ff,Ff,Ff] ?_
  refine pU (i:=26) (N:=some 29) #[Tt,Tt,Tt,Tt,Tt,Tt,Tt,Tt,Tt,Tt,Tt,Tt,Tt,Tt,Tt,Tt,Tt,Tt,Tt,Tt,Tt,Tt,Tt,Tt,Tt,Tt,Tt,Ff,Ff,Ff,Ff,Ff,Ff,Ff] ?_
  refine pU (i:=27) (N:=some 30) #[Tt,Tt,Tt,Tt,Tt,Tt,Tt,Tt,Tt,Tt,Tt,Tt,Tt,Tt,Tt,Tt,Tt,Tt,Tt,Tt,Tt,Tt,Tt,Tt,Tt,Tt,Tt,Tt,Ff,Ff,Ff,Ff,Ff,Ff] ?_
  refine pU (i:=28) (N:=some 31) #[Tt,Tt,Tt,Tt,Tt,Tt,Tt,Tt,Tt,Tt,Tt,Tt,Tt,Tt,Tt,Tt,Tt,Tt,Tt,Tt,Tt,Tt,Tt,Tt,Tt,Tt,Tt,Tt,Tt,Ff,Ff,Ff,Ff,Ff] ?_
  refine pU (i:=29) (N:=some 32) #[Tt,Tt,Tt,Tt,Tt,Tt,Tt,Tt,Tt,Tt,Tt,Tt,Tt,Tt,Tt,Tt,Tt,Tt,Tt,Tt,Tt,Tt,Tt,Tt,Tt,Tt,Tt,Tt,Tt,Tt,Ff,Ff,Ff,Ff] ?_
  refine pU (i:=30) (N:=some 33) #[Tt,Tt,Tt,Tt,Tt,Tt,Tt,Tt,Tt,Tt,Tt,Tt,Tt,Tt,Tt,Tt,Tt,Tt,Tt,Tt,Tt,Tt,Tt,Tt,Tt,Tt,Tt,Tt,Tt,Tt,Tt,Ff,Ff,Ff] ?_
  refine pU (i:=31) (N:=some 34) #[Tt,Tt,Tt,Tt,Tt,Tt,Tt,Tt,Tt,Tt,Tt,Tt,Tt,Tt,Tt,Tt,Tt,Tt,Tt,Tt,Tt,Tt,Tt,Tt,Tt,Tt,Tt,Tt,Tt,Tt,Tt,Tt,Ff,Ff] ?_
  refine pZ (i:=32) (N:=some 35) #[Tt,Tt,Tt,Tt,Tt,Tt,Tt,Tt,Tt,Tt,Tt,Tt,Tt,Tt,Tt,Tt,Tt,Tt,Tt,Tt,Tt,Tt,Tt,Tt,Tt,Tt,Tt,Tt,Tt,Tt,Tt,Tt,Tt,Ff] ?_
  refine pZ (i:=33) (N:=some 2) #[Tt,Tt,Tt,Tt,Tt,Tt,Tt,Tt,Tt,Tt,Tt,Tt,Tt,Tt,Tt,Tt,Tt,Tt,Tt,Tt,Tt,Tt,Tt,Tt,Tt,Tt,Tt,Tt,Tt,Tt,Tt,Tt,Tt,Tt] ?_
  refine done_ (done_of HT_.out (by kernel_rfl)) ?_
  try go_wp2
  go_ret
  exact ⟨er_,bl1_ HB.out GE217.out⟩


def TBM (w:World):Prop:=True
theorem TBM.below {w w':World} (h:TBM w) (hb:Below w.heap.size w w'):TBM w':=by
  first
    | exact trivial
    | (obtain ⟨m,hm⟩:=h; exact ⟨m,pw_cell_below hb hm⟩)
def TB (w:World):Prop:=(∀ j,j < 64 → w.cell? ⟨0,j,none⟩ = some (.int .u8 (Lib.deBruijn64tab.getD j 0))) ∧ TBM w
theorem TB.below {w w':World} (h:TB w) (hb:Below w.heap.size w w'):TB w':=⟨fun j hj => pw_cell_below hb (h.1 j hj),h.2.below hb⟩
theorem tz_key (x a:Nat) (hx:x < 18446744073709551616) (hx0:x ≠ 0) (hlow:x &&& (18446744073709551616 - x) = a) :
    IntKind.u64.wrap (bits BinOp.and IntKind.u64 (x:Int) (IntKind.u64.wrap (-(x:Int))) * 285870213051353865) / 288230376151711744 = ((a * 285870213051353865 % 18446744073709551616 / 288230376151711744:Nat):Int):=by
  have e1:IntKind.u64.wrap (-(x:Int)) = ((18446744073709551616 - x:Nat):Int):=by rw [IntKind.wrap_u64]; omega
  rw [e1,bits_and_u64_nat x _ hx (by omega),hlow,IntKind.wrap_u64]
  omega
set_option maxHeartbeats 1000000 in
theorem tz_core (x k idx:Nat) (w:World) (hx0:((x:Int) == 0) = false)
    (key:IntKind.u64.wrap (bits BinOp.and IntKind.u64 (x:Int) (IntKind.u64.wrap (-(x:Int))) * 285870213051353865) / 288230376151711744 = (idx:Int))
    (hi:idx < 64) (hk:k < 64) (hcell:w.cell? ⟨0,idx,none⟩ = some (.int .u8 k)) :
    Calls Tryd.prog 90 #[.int .u64 x] w fun e w' => e = .returned (.int .i64 k) ∧ w' = w:=by
  go_enter Tryd.func90,Tryd.ntmps90
  go_wp2_with (simp only [key])
  go_ret
  exact ⟨rfl,rfl⟩
theorem tz_any (x:Nat) (hx:x < 2 ^ 60) (hx0:x ≠ 0) (w:World) (hT:TB w) :
    Calls Tryd.prog 90 #[.int .u64 x] w fun e w' => e = .returned (.int .i64 (Lib.ctz 64 x)) ∧ w = w':=by
  have hx2:x < 18446744073709551616:=by omega
  obtain ⟨hlow,hk⟩:=Lib.lowest_bit 64 x hx0 hx2
  obtain ⟨hi,htab⟩:=Lib.deBruijn64_at _ hk
  have hcell:=hT.1 _ hi
  rw [htab] at hcell
  exact (tz_core x _ _ w (by simp; omega) (tz_key x _ hx2 hx0 hlow) hi hk hcell).mono fun _ _ h => ⟨h.1,h.2.symm⟩


theorem R_lit0 {α:Type} (d:Kd α) (e:Nat) (W:World) (base:Nat) (hb:base ≤ W.heap.size):d.R e (W.alloc (.cells #[] e)) base (fun k => k = W.heap.size) (.slice (some ⟨W.heap.size,0,none⟩) 0 0) ([]:List α):=by
  refine ⟨fun k hk => by simpa [Value.ownBlock] using hk.symm,[],?_,Reps.none _ _⟩
  have h:=World.ownsRow_lit (base:=base) (e:=e) (size:=d.sz) W #[] 0 hb (by simp [maxLen]) (by simp)
  simpa using h
theorem lit1_C {α:Type} (enc:α → Value) (h1:∀ x,(enc x).oneCell' = true) (e:Nat) (W:World) (x:α):(Kd.scalar enc h1).C (W.alloc (.cells #[enc x] e)) (some ⟨W.heap.size,0,none⟩) 1 [x]:=by
  refine Kd.C_of_reads (enc:=enc) (d:=x) (h1:=h1) ⟨rfl,by omega,fun _ => ⟨_,rfl,fun j hj => ?_⟩⟩
  obtain rfl:j = 0:=by omega
  exact World.cell?_alloc_at _ _ _ _ rfl

def bitsN (s:Nat):List Nat:=(List.range 64).filter fun i => s.testBit i
theorem filter_first {p q:Nat → Bool} {k n:Nat} (hk:k < n) (hp:p k = true) (h0:∀ i,i < k → p i = false) (hq:∀ i,q i = (p i && !(i == k))):(List.range n).filter p = k :: (List.range n).filter q:=by
  have e:List.range n = List.range k ++ k :: List.range' (k + 1) (n - k - 1):=by
    rw [List.range_eq_range',List.range_eq_range',show k :: List.range' (k + 1) (n - k - 1) = List.range' k (n - k - 1 + 1) from (List.range'_succ (s:=k) (n:=n - k - 1) (step:=1)).symm]
    have:=List.range'_append_1 (s:=0) (m:=k) (n:=n - k - 1 + 1)
    rw [Nat.zero_add] at this
    rw [this]
    congr 1
    omega
  rw [e,List.filter_append,List.filter_append,List.filter_cons_of_pos hp,List.filter_cons_of_neg (by rw [hq]; simp)]
  have a1:(List.range k).filter p = []:=by
    rw [List.filter_eq_nil_iff]; intro i hi; rw [h0 i (List.mem_range.1 hi)]; simp
  have a2:(List.range k).filter q = []:=by
    rw [List.filter_eq_nil_iff]; intro i hi; rw [hq,h0 i (List.mem_range.1 hi)]; simp
  rw [a1,a2,List.nil_append,List.nil_append]
  congr 1
  apply List.filter_congr
  intro i hi
  rw [hq]
  have:i ≠ k:=by
    rw [List.mem_range'_1] at hi; omega
  simp [this]
theorem low_bits (s:Nat) (h0:s ≠ 0) (h:s < 2 ^ 60):Lib.ctz 64 s < 60 ∧ s.testBit (Lib.ctz 64 s) = true ∧ (∀ i,i < Lib.ctz 64 s → s.testBit i = false) ∧ (∀ i,(s &&& (s - 1)).testBit i = (s.testBit i && !(i == Lib.ctz 64 s))) ∧ s &&& (s - 1) < s:=by
  obtain ⟨m,hm,hk⟩:=Lib.ctzFrom_spec 64 s (by omega) (Nat.lt_of_lt_of_le h (by decide))
  have e:Lib.ctz 64 s = Lib.ctzFrom 64 s:=by unfold Lib.ctz; rw [if_neg h0]
  rw [e]
  generalize Lib.ctzFrom 64 s = k at hm hk
  have hp:0 < 2 ^ k:=Nat.two_pow_pos k
  have hs1:s - 1 = 2 ^ k * (2 * m) + (2 ^ k - 1):=by
    rw [hm,Nat.mul_add]; omega
  have t1:∀ i,s.testBit i = (decide (k ≤ i) && (2 * m + 1).testBit (i - k)):=fun i => by rw [hm,Nat.testBit_two_pow_mul]
  have t2:∀ i,(s - 1).testBit i = if i < k then (2 ^ k - 1).testBit i else (2 * m).testBit (i - k):=fun i => by rw [hs1,Nat.testBit_two_pow_mul_add _ (by omega)]
  have odd0:(2 * m + 1).testBit 0 = true:=by simp
  refine ⟨?_,?_,?_,?_,?_⟩
  · rcases Nat.lt_or_ge k 60 with hlt | hge
    · exact hlt
    · exfalso
      have h1:2 ^ 60 ≤ 2 ^ k:=Nat.pow_le_pow_right (by omega) hge
      have h2:2 ^ k * 1 ≤ 2 ^ k * (2 * m + 1):=Nat.mul_le_mul_left _ (by omega)
      omega
  · rw [t1]; simp
  · intro i hi; rw [t1]; simp; omega
  · intro i
    rw [Nat.testBit_and,t1,t2]
    rcases Nat.lt_trichotomy i k with hi | hi | hi
    · simp [show ¬ k ≤ i by omega]
    · subst hi; simp
    · obtain ⟨j,hj⟩:∃ j,i - k = j + 1:=⟨i - k - 1,by omega⟩
      rw [if_neg (by omega),hj,Nat.testBit_succ,Nat.testBit_succ,show (2 * m + 1) / 2 = m by omega,show 2 * m / 2 = m by omega]
      simp [show k ≤ i by omega,show i ≠ k by omega]
  · have:=Nat.and_le_right (n:=s) (m:=s - 1)
    omega
theorem bitsN_step (s:Nat) (h0:s ≠ 0) (h:s < 2 ^ 60):bitsN s = Lib.ctz 64 s :: bitsN (s &&& (s - 1)):=by
  obtain ⟨h1,h2,h3,h4,_⟩:=low_bits s h0 h
  exact filter_first (by omega) h2 h3 h4
theorem bitsN_zero:bitsN 0 = []:=by decide
theorem bitsN_len (s:Nat):(bitsN s).length ≤ 64:=Nat.le_trans (List.length_filter_le _ _) (by simp)
def bitsI (s:Nat):List Int:=(bitsN s).map fun n:Nat => (n:Int)
theorem bitsI_len (s:Nat):(bitsI s).length ≤ 64:=by unfold bitsI; rw [List.length_map]; exact bitsN_len s
set_option maxRecDepth 100000 in
set_option maxHeartbeats 4000000 in
theorem listed_any (s:Nat) (hs:s < 2 ^ 60) (w:World) (hT:TB w) :
    Calls Tryd.prog 63 #[.int .u64 s] w fun e w' => ∃ v,e = .returned v ∧ Kd.R (Kd.int .i64) 3 w' w.heap.size (fun _ => True) v (bitsI s) ∧ Below w.heap.size w w':=by
  have HT:=Aside0.mk hT
  have hi5:(Tryd.prog.info? 3).map (fun i => (i.zero,i.size,i.bytes)) = some (some (.int .i64 0),1,8):=by kernel_rfl
  have R0:Aside0 (Kd.R (Kd.int .i64) 3 (w.alloc (.cells #[] 3)) w.heap.size (fun _ => True) (.slice (some ⟨w.heap.size,0,none⟩) 0 0) []):=⟨Kd.R_mono (R_lit0 (Kd.int .i64) 3 w w.heap.size (Nat.le_refl _)) (fun _ _ => trivial)⟩
  have B0:=Aside0.mk (below_alloc (Below.refl w.heap.size w) (.cells #[] 3))
  have S0:Aside0 (([]:List Int) ++ bitsI s = bitsI s ∧ s < 2 ^ 60):=⟨rfl,hs⟩
  clear hT hs
  go_enter Tryd.func63,Tryd.ntmps63
  go_wp2_with fail
  go_loopg [0,3] s (fun gg u0 u3 wr => ∃ (t:Nat) (acc:List Int),t ≤ gg ∧ u0 = .int .u64 t ∧ Aside0 (acc ++ bitsI t = bitsI s ∧ t < 2 ^ 60) ∧ Aside0 (Kd.R (Kd.int .i64) 3 wr w.heap.size (fun _ => True) u3 acc) ∧ Aside0 (Below w.heap.size w wr))
  case atStart => exact ⟨s,[],Nat.le_refl _,rfl,S0,R0,B0⟩
  case round =>
    clear S0 R0 B0
    obtain ⟨t,acc,hgg,rfl,HS,HO,HB⟩:=hrel
    by_cases ht:t = 0
    · subst ht
      have HF:Aside0 (acc = bitsI s):=⟨by have h:=HS.out.1; rw [show bitsI 0 = [] from by unfold bitsI; rw [bitsN_zero]; rfl,List.append_nil] at h; exact h⟩
      go_wp2_with fail
      go_ret
      exact ⟨_,rfl,by rw [← HF.out]; exact HO.out,HB.out⟩
    · have ht60:=HS.out.2
      have hlen:acc.length ≤ 64:=by
        have h:=congrArg List.length HS.out.1
        have:=bitsI_len s
        simp at h
        omega
      obtain ⟨-,-,-,-,hlt⟩:=low_bits t ht ht60
      have hstep:=bitsN_step t ht ht60
      have hgt:decide (0 < (t:Int)) = true:=by simp; omega
      have hsub:IntKind.u64.wrap ((t:Int) - 1) = ((t - 1:Nat):Int):=by rw [IntKind.wrap_u64]; omega
      have hand:bits BinOp.and IntKind.u64 (t:Int) ((t - 1:Nat):Int) = ((t &&& (t - 1):Nat):Int):=bits_and_u64_nat t (t - 1) (by omega) (by omega)
      have HS2:Aside0 ((acc ++ [(Lib.ctz 64 t:Int)]) ++ bitsI (t &&& (t - 1)) = bitsI s ∧ t &&& (t - 1) < 2 ^ 60):=⟨by rw [← HS.out.1]; unfold bitsI; rw [hstep]; simp,by omega⟩
      have HTZ:=Aside0.mk (fun W (h:TB W) => tz_any t ht60 ht W h)
      have HL:=Aside0.mk hlen
      have HT1:=Aside0.mk (HT.out.below HB.out)
      clear ht60 hlen hstep HS
      generalize Lib.ctz 64 t = z at HS2 HTZ
      go_wp2_with (first
        | (go_at_call 90; refine (HTZ.out _ HT1.out).mono ?_; rintro e w' ⟨rfl,rfl⟩)
        | (at_builtin; refine Kd.R_append_row (w0:=w) (h1:=fun _ => rfl) (Value.int .i64) (0:Int) w.heap.size rfl _ _ _ _ _ 8 rfl Tryd.underlying22 hi5 rfl (by decide) u3 acc [(z:Int)] _ 1 _ (fun _ => True) rfl rfl (fun _ _ => trivial) ?xA ?xB ?xC ?xD ?xE ?_; (case xA => exact Kd.R_alloc HO.out _); (case xB => exact lit1_C (Value.int .i64) _ _ wr _); (case xC => exact below_alloc HB.out _); (case xD => have h_:=HB.out.size; simp; omega); (case xE => have h_:=HL.out; omega); intro v1 w1 ho hb hg hat; have HO1:=Aside0.mk ho; have HB1:=Aside0.mk hb; clear ho hb hg hat))
      go_roundg (t &&& (t - 1))
      case measure => omega
      case rel => exact ⟨t &&& (t - 1),acc ++ [(z:Int)],Nat.le_refl _,rfl,HS2,HO1,HB1⟩
def impl_set_listed.f (a0:Int):Option (List Int):=if 0 ≤ a0 ∧ a0 < 1152921504606846976 then some (bitsI a0.toNat) else none
theorem impl_set_listed.calls (a0:Int) (r:List Int) (w:World) (hT_:TB w) (h:impl_set_listed.f a0 = some r) :
    Calls Tryd.prog 63 #[.int .u64 a0] w fun e w' => ∃ v0_:Value,e = .returned v0_ ∧ Kd.R (Kd.int .i64) 3 w' w.heap.size (fun _ => True) v0_ r ∧ Below w.heap.size w w':=by
  unfold impl_set_listed.f at h
  split at h
  · rename_i h0
    obtain rfl:=Option.some.inj h
    obtain ⟨n,rfl⟩:=Int.eq_ofNat_of_zero_le h0.1
    rw [Int.toNat_natCast]
    exact listed_any n (by have h2:(2:Nat) ^ 60 = 1152921504606846976:=by decide
                           have:=h0.2; omega) w hT_
  · cases h


def impl_grid_figure.f (a0_0:Int) (a0_1:Int) (a1:Int):Option (Int × Int × List Int × List Int):=(impl_grid_levels.f a0_0 a0_1).bind fun t239 => (if 0 ≤ t239 then ((impl_set_listed.f (Go.bits .and .u64 a1 (IntKind.u64.wrap ((shl .u64 1 t239) - 1)))).bind fun t240 => ((impl_grid_levels.f a0_0 a0_1).bind fun t243 => (if 0 ≤ t243 then ((impl_set_listed.f (shr .u64 a1 t243)).bind fun t244 => (some (a0_0,a0_1,t240,t244))) else (none)))) else (none))
def impl_grid_figure.T2:Bool × List (List Nat × List Nat):=(true,[([],[]),([0],[0]),([],[]),([2],[2]),([],[]),([],[]),([4,5],[4,5]),([6],[6]),([],[]),([],[]),([9,7],[9]),([8,10],[8,10]),([11,10],[11]),([1,3,7,12],[1,3,7,12]),([13,12,0,1,2,3,4,5,6,7,8,9,10,11,12,13],[13])])
def impl_grid_figure.B2:List Nat:=[0,1,0,4,0,0,48,112,0,0,752,2032,4080,8191,16383]
theorem impl_grid_figure.tab2:rtab .any (opsOf Tryd.f40 2) = impl_grid_figure.T2:=by kernel_rfl
theorem impl_grid_figure.bits2:waitsOk impl_grid_figure.T2.2 impl_grid_figure.B2 = true:=by kernel_rfl
set_option maxHeartbeats 8000000 in
set_option maxRecDepth 100000 in
theorem impl_grid_figure.calls (a0_0:Int) (a0_1:Int) (a1:Int) (r1:Int) (r2:Int) (r3:List Int) (r4:List Int) (w:World) (hT_:TB w) (h:impl_grid_figure.f a0_0 a0_1 a1 = some (r1,r2,r3,r4)) :
  Calls Tryd.prog 40 #[.agg #[.int .i64 a0_0,.int .i64 a0_1],.int .u64 a1] w fun e w' => ∃ v2_ v3_:Value,e = .returned (.agg #[.int .i64 r1,.int .i64 r2,v2_,v3_]) ∧ Kd.R (Kd.int .i64) 3 w' w.heap.size (fun k_ => some k_ ≠ (v3_:Value).ownBlock) v2_ r3 ∧ Kd.R (Kd.int .i64) 3 w' w.heap.size (fun k_ => some k_ ≠ (v2_:Value).ownBlock) v3_ r4 ∧ Below w.heap.size w w':=by
 have hu49:=Tryd.underlying49
 have hu26:=Tryd.underlying26
 have HB:=Aside0.mk (Below.refl w.heap.size w)
 have HTB:=Aside0.mk hT_
 clear hT_
 have H:((impl_grid_levels.f a0_0 a0_1).bind fun t239 => (if 0 ≤ t239 then ((impl_set_listed.f (Go.bits .and .u64 a1 (IntKind.u64.wrap ((shl .u64 1 t239) - 1)))).bind fun t240 => ((impl_grid_levels.f a0_0 a0_1).bind fun t243 => (if 0 ≤ t243 then ((impl_set_listed.f (shr .u64 a1 t243)).bind fun t244 => (some (a0_0,a0_1,t240,t244))) else (none)))) else (none))) = some (r1,r2,r3,r4):=h
 clear h
 replace H:=Option.bind_eq_some_iff.mp H
 obtain ⟨t239,A30,H⟩:=H
 replace H:(if 0 ≤ t239 then ((impl_set_listed.f (Go.bits .and .u64 a1 (IntKind.u64.wrap ((shl .u64 1 t239) - 1)))).bind fun t240 => ((impl_grid_levels.f a0_0 a0_1).bind fun t243 => (if 0 ≤ t243 then ((impl_set_listed.f (shr .u64 a1 t243)).bind fun t244 => (some (a0_0,a0_1,t240,t244))) else (none)))) else (none)) = some (r1,r2,r3,r4):=H
 have A3:=Aside0.mk A30
 clear A30
 by_cases c4:0 ≤ t239
 ·rw [if_pos c4] at H
  have c4b0:=eq_true c4
  have c4b1:decide (0 ≤ t239) = true:=decide_eq_true c4
  clear c4
  obtain ⟨ji5,hji5⟩:∃ j_:Int,(shl .u64 1 t239) = j_:=⟨_,rfl⟩
  replace H:((impl_set_listed.f (Go.bits .and .u64 a1 (IntKind.u64.wrap ((ji5) - 1)))).bind fun t240 => ((impl_grid_levels.f a0_0 a0_1).bind fun t243 => (if 0 ≤ t243 then ((impl_set_listed.f (shr .u64 a1 t243)).bind fun t244 => (some (a0_0,a0_1,t240,t244))) else (none)))) = some (r1,r2,r3,r4):=by first | (rw [hji5] at H; exact H) | (simp only [hji5] at H ⊢; exact H)
  (try rw [hji5] at A3)
  have hji5_:(IntKind.u64.wrap (1 * 2 ^ min t239.toNat 64)) = ji5:=hji5
  have hji5z:t239 ≤ 64 → (IntKind.u64.wrap (1 * 2 ^ t239.toNat)) = ji5:=shl_small hji5
  have hji5u:(IntKind.u64.wrap (2 ^ min t239.toNat 64)) = ji5:=by have h_:=hji5_; rw [Int.one_mul] at h_; exact h_
  have hji5v:t239 ≤ 64 → (IntKind.u64.wrap (2 ^ t239.toNat)) = ji5:=fun hle_ => by have h_:=hji5z hle_; rw [Int.one_mul] at h_; exact h_
  replace H:=Option.bind_eq_some_iff.mp H
  obtain ⟨t240,A60,H⟩:=H
  replace H:((impl_grid_levels.f a0_0 a0_1).bind fun t243 => (if 0 ≤ t243 then ((impl_set_listed.f (shr .u64 a1 t243)).bind fun t244 => (some (a0_0,a0_1,t240,t244))) else (none))) = some (r1,r2,r3,r4):=H
  have A6:=Aside0.mk A60
  clear A60
  replace H:=Option.bind_eq_some_iff.mp H
  obtain ⟨t243,A70,H⟩:=H
  replace H:(if 0 ≤ t243 then ((impl_set_listed.f (shr .u64 a1 t243)).bind fun t244 => (some (a0_0,a0_1,t240,t244))) else (none)) = some (r1,r2,r3,r4):=H
  have A7:=Aside0.mk A70
  clear A70
  by_cases c8:0 ≤ t243
  ·rw [if_pos c8] at H
   have c8b0:=eq_true c8
   have c8b1:decide (0 ≤ t243) = true:=decide_eq_true c8
   clear c8
   obtain ⟨ji9,hji9⟩:∃ j_:Int,(shr .u64 a1 t243) = j_:=⟨_,rfl⟩
   replace H:((impl_set_listed.f (ji9)).bind fun t244 => (some (a0_0,a0_1,t240,t244))) = some (r1,r2,r3,r4):=by first | (rw [hji9] at H; exact H) | (simp only [hji9] at H ⊢; exact H)
   (try rw [hji9] at A3)
   (try rw [hji9] at A6)
   (try rw [hji9] at A7)
   have hji9_:(a1 / 2 ^ min t243.toNat 64) = ji9:=hji9
   have hji9z:t243 ≤ 64 → (a1 / 2 ^ t243.toNat) = ji9:=shr_small hji9
   replace H:=Option.bind_eq_some_iff.mp H
   obtain ⟨t244,A100,H⟩:=H
   replace H:(some (a0_0,a0_1,t240,t244)) = some (r1,r2,r3,r4):=H
   have A10:=Aside0.mk A100
   clear A100
   simp only [Option.some.injEq,Prod.mk.injEq] at H
   obtain ⟨rfl,rfl,rfl,rfl⟩:=H
   go_enter Tryd.func40,Tryd.ntmps40
   try go_wp2_with (first | ((with_reducible refine gate_dst (N:=2) rfl ?_); refine boxE_ (N:=2) (cs:=#[.int .i64 a0_0,.int .i64 a0_1]) (t:=49) ?_; intro gb237 hg w11 hbox hb; have n0_:=Aside0.mk (below_step (bl0_ HB.out) hb); have n1_:=Aside0.mk (hbox); have n2_:=Aside0.mk ((bs0_ hg HB.out:w.heap.size ≤ gb237)); have n3_:=Aside0.mk ((bs0_ hg HB.out:w.heap.size ≤ gb237)); clear HB; have HB:=n0_; have BK237:=n1_; have GW237:=n2_; have GE237:=n3_; clear n0_ n1_ n2_ n3_; clear hb hbox hg) | ((with_reducible refine gate_dst (N:=4) rfl ?_); refine boxE_ (N:=4) (cs:=#[.int .i64 0,.int .i64 0,.slice none 0 0,.slice none 0 0]) (t:=26) ?_; intro gb238 hg w12 hbox hb; have n0_:=Aside0.mk (bb_ BK237.out hb); have n1_:=Aside0.mk (below_step (bl1_ HB.out GE237.out) hb); have n2_:=Aside0.mk (hbox); have n3_:=Aside0.mk ((bs1_ hg HB.out GE237.out:w.heap.size ≤ gb238)); have n4_:=Aside0.mk ((bs1_ hg HB.out GE237.out:w.heap.size ≤ gb238)); have n5_:=Aside0.mk ((nl_ hg BK237.out:gb237 ≠ gb238)); have n6_:=Aside0.mk ((ng_ hg BK237.out:gb238 ≠ gb237)); clear BK237; clear HB; have BK237:=n0_; have HB:=n1_; have BK238:=n2_; have GW238:=n3_; have GE238:=n4_; have NB237_238:=n5_; have NB238_237:=n6_; clear n0_ n1_ n2_ n3_ n4_ n5_ n6_; clear hb hbox hg; have hnb13:=NB237_238.out; have hnc13:=NB238_237.out; have hcz14_0:w12.cell? ⟨gb237,0,none⟩ = some (.int .i64 a0_0):=(blk_cell BK237.out 0).trans rfl; have hcz14_1:w12.cell? ⟨gb237,1,none⟩ = some (.int .i64 a0_1):=(blk_cell BK237.out 1).trans rfl; have hfz14_0:=blk_frozen BK237.out 0; have hfz14_1:=blk_frozen BK237.out 1) | ((with_reducible refine gate_callee (f:=70) rfl ?_); refine goesL_ (some 7) rfl rfl Tryd.func70 (by kernel_rfl) rfl #[.agg #[.int .i64 a0_0,.int .i64 a0_1]] rfl ob_ ?_; (with_reducible refine (impl_grid_levels.calls a0_0 a0_1 t239 _ A3.out).mono ?_); rintro e w15 ⟨rfl,hb⟩; refine ⟨_,rfl,?_⟩; have n0_:=Aside0.mk (bb_ BK237.out hb); have n1_:=Aside0.mk (bb_ BK238.out hb); have n2_:=Aside0.mk (below_step (bl2_ HB.out GE237.out GE238.out) hb); clear BK237; clear BK238; clear HB; have BK237:=n0_; have BK238:=n1_; have HB:=n2_; clear n0_ n1_ n2_; (try clear hb); (try clear hb2); (try clear hk); (try clear hi)))
   have n0_:=Aside0.mk (blk_drew BK237.out)
   have n1_:=Aside0.mk (blk_drew BK238.out)
   have n2_:=Aside0.mk (below_drew1 HB.out)
   clear BK237
   clear BK238
   clear HB
   have BK237:=n0_
   have BK238:=n1_
   have HB:=n2_
   clear n0_ n1_ n2_
   refine start_ (n:=15) (S:=fun w' => w'.cell? ⟨gb237,0,none⟩ = some (.int .i64 a0_0) ∧ w'.cell? ⟨gb237,1,none⟩ = some (.int .i64 a0_1)) (ds:=[]) #[false,false,false,false,false,false,false,false,false,false,false,false,false,false,false] (by kernel_rfl) rfl rfl ⟨(blk_cell BK237.out 0).trans rfl,(blk_cell BK237.out 1).trans rfl⟩ (fun hHeld => ?_); refine with_tabW impl_grid_figure.tab2 impl_grid_figure.bits2 (fun HT_ HW_ => ?_)
   generalize w15.drew = w16 at BK237 BK238 HB hHeld ⊢
   refine pure_ (i:=0) (N:=some 10) (v:=?_) (a':=?_) #[true,false,false,false,false,false,false,false,false,false,false,false,false,false,false] rfl rfl (any_of HT_.out (by kernel_rfl)) (fun _ _ _ h => h) (Or.inl ⟨by rfl,?_⟩) ?_ ?_
   rotate_left
   ·intro w'
    go_simp
    with_reducible rfl
   rotate_left
   ·simp only [Act.put,List.setIfInBounds_toArray,List.set_cons_zero,List.set_cons_succ,i64_w,i32_w]
    rfl
   refine pure_ (i:=2) (N:=some 12) (v:=?_) (a':=?_) #[true,false,true,false,false,false,false,false,false,false,false,false,false,false,false] rfl rfl (any_of HT_.out (by kernel_rfl)) (fun _ _ _ h => h) (Or.inl ⟨by rfl,?_⟩) ?_ ?_
   rotate_left
   ·intro w'
    go_simp
    with_reducible rfl
   rotate_left
   ·simp only [Act.put,List.setIfInBounds_toArray,List.set_cons_zero,List.set_cons_succ,i64_w,i32_w]
    rfl
   refine pure_ (i:=4) (N:=some 14) (v:=?_) (a':=?_) #[true,false,true,false,true,false,false,false,false,false,false,false,false,false,false] rfl rfl (any_of HT_.out (by kernel_rfl)) (fun _ _ _ h => h) (Or.inl ⟨by rfl,?_⟩) ?_ ?_
   rotate_left
   ·intro w'
    go_simp
    with_reducible rfl
   rotate_left
   ·simp only [Act.put,List.setIfInBounds_toArray,List.set_cons_zero,List.set_cons_succ,i64_w,i32_w]
    rfl
   refine pure_ (i:=5) (N:=some 15) (v:=?_) (a':=?_) #[true,false,true,false,true,true,false,false,false,false,false,false,false,false,false] rfl rfl (any_of HT_.out (by kernel_rfl)) (fun _ _ _ h => h) (Or.inl ⟨by rfl,?_⟩) ?_ ?_
   rotate_left
   ·intro w'
    go_simp
    with_reducible rfl
   rotate_left
   ·simp only [Act.put,List.setIfInBounds_toArray,List.set_cons_zero,List.set_cons_succ,i64_w,i32_w]
    rfl
   refine pure_ (i:=6) (N:=some 16) (v:=?_) (a':=?_) #[true,false,true,false,true,true,true,false,false,false,false,false,false,false,false] rfl rfl (any_of HT_.out (by kernel_rfl)) (fun _ _ _ h => h) (Or.inl ⟨by rfl,?_⟩) ?_ ?_
   rotate_left
   ·intro w'
    go_simp
    with_reducible rfl
   rotate_left
   ·simp only [Act.put,List.setIfInBounds_toArray,List.set_cons_zero,List.set_cons_succ,i64_w,i32_w]
    rfl
   refine pure_ (i:=8) (N:=some 18) (v:=?_) (a':=?_) #[true,false,true,false,true,true,true,false,true,false,false,false,false,false,false] rfl rfl (any_of HT_.out (by kernel_rfl)) (fun _ _ _ h => h) (Or.inl ⟨by rfl,?_⟩) ?_ ?_
   rotate_left
   ·intro w'
    go_simp
    with_reducible rfl
   rotate_left
   ·simp only [Act.put,List.setIfInBounds_toArray,List.set_cons_zero,List.set_cons_succ,i64_w,i32_w]
    rfl
   refine take_ (i:=1) (N:=some 11) (v:=?_) (a':=?_) #[true,true,true,false,true,true,true,false,true,false,false,false,false,false,false] rfl rfl (take_ofW HT_.out HW_.out (by kernel_rfl)) (fun _ _ _ h => h) (Or.inl ⟨by rfl,?_⟩) hHeld ?_ ?_
   rotate_left
   ·rintro w' ⟨s0,s1⟩
    go_simp
    with_reducible rfl
   rotate_left
   ·simp only [Act.put,List.setIfInBounds_toArray,List.set_cons_zero,List.set_cons_succ,i64_w,i32_w]
    rfl
   refine take_ (i:=3) (N:=some 13) (v:=?_) (a':=?_) #[true,true,true,true,true,true,true,false,true,false,false,false,false,false,false] rfl rfl (take_ofW HT_.out HW_.out (by kernel_rfl)) (fun _ _ _ h => h) (Or.inl ⟨by rfl,?_⟩) hHeld ?_ ?_
   rotate_left
   ·rintro w' ⟨s0,s1⟩
    go_simp
    with_reducible rfl
   rotate_left
   ·simp only [Act.put,List.setIfInBounds_toArray,List.set_cons_zero,List.set_cons_succ,i64_w,i32_w]
    rfl
   refine take_ (i:=9) (N:=some 19) (v:=?_) (a':=?_) #[true,true,true,true,true,true,true,false,true,true,false,false,false,false,false] rfl rfl (take_ofW HT_.out HW_.out (by kernel_rfl)) (fun _ _ _ h => h) (Or.inl ⟨by rfl,?_⟩) hHeld ?_ ?_
   rotate_left
   ·rintro w' ⟨s0,s1⟩
    go_simp
    with_reducible rfl
   rotate_left
   ·simp only [Act.put,List.setIfInBounds_toArray,List.set_cons_zero,List.set_cons_succ,i64_w,i32_w]
    rfl
   refine one_ (i:=7) (N:=some 17) #[true,true,true,true,true,true,true,true,true,true,false,false,false,false,false] rfl rfl (one_of HT_.out (by kernel_rfl)) (by decide) (fun K hK => ?_)
   refine goes_ Tryd.func63 (by kernel_rfl) rfl #[.int .u64 (Go.bits .and .u64 a1 (IntKind.u64.wrap ((ji5) - 1)))] (by rfl) rfl rfl (by (try simp only [List.map_toArray,List.map_cons,List.map_nil]); first | done | (simp only [hji5]; rfl) | rfl | (simp only [List.length_drop,List.length_take]; rfl)) ?_
   with_reducible refine (impl_set_listed.calls (Go.bits .and .u64 a1 (IntKind.u64.wrap ((ji5) - 1))) t240 _ (TB.below HTB.out (bl2_ HB.out GE237.out GE238.out)) A6.out).mono ?_
   rintro e w17 ⟨v241,rfl,ho0,hb⟩
   refine ⟨_,rfl,?_⟩
   have n0_:=Aside0.mk (Kd.R_lower ho0 (below_size (bl2_ HB.out GE237.out GE238.out)))
   have n1_:=Aside0.mk (bb_ BK237.out hb)
   have n2_:=Aside0.mk (bb_ BK238.out hb)
   have n3_:=Aside0.mk (below_step (bl2_ HB.out GE237.out GE238.out) hb)
   clear BK237
   clear BK238
   clear HB
   have HO242:=n0_
   have BK237:=n1_
   have BK238:=n2_
   have HB:=n3_
   clear n0_ n1_ n2_ n3_
   (try clear hb)
   (try clear hb2)
   (try clear hk)
   (try clear hi)
   (try clear ho0)
   refine hK.out _ _ ⟨(blk_cell BK237.out 0).trans rfl,(blk_cell BK237.out 1).trans rfl⟩ (fun hHeld => ?_)
   clear hK K
   refine norm_ (a':=?_) ?_ ?_
   rotate_left
   ·show Act.put _ (some 17) _ = _
    simp only [Act.put,List.setIfInBounds_toArray,List.set_cons_zero,List.set_cons_succ,i64_w,i32_w]
    rfl
   refine one_ (i:=10) (N:=some 20) #[true,true,true,true,true,true,true,true,true,true,true,false,false,false,false] rfl rfl (one_of HT_.out (by kernel_rfl)) (by decide) (fun K hK => ?_)
   refine goes_ Tryd.func70 (by kernel_rfl) rfl #[.agg #[.int .i64 a0_0,.int .i64 a0_1]] (by rfl) rfl rfl ob_ ?_
   with_reducible refine (impl_grid_levels.calls a0_0 a0_1 t243 _ A7.out).mono ?_
   rintro e w18 ⟨rfl,hb⟩
   refine ⟨_,rfl,?_⟩
   have n0_:=Aside0.mk (Kd.R_below (kr_ HO242.out) hb)
   have n1_:=Aside0.mk (bb_ BK237.out hb)
   have n2_:=Aside0.mk (bb_ BK238.out hb)
   have n3_:=Aside0.mk (below_step (bl2_ HB.out GE237.out GE238.out) hb)
   clear HO242
   clear BK237
   clear BK238
   clear HB
   have HO242:=n0_
   have BK237:=n1_
   have BK238:=n2_
   have HB:=n3_
   clear n0_ n1_ n2_ n3_
   (try clear hb)
   (try clear hb2)
   (try clear hk)
   (try clear hi)
   refine hK.out _ _ ⟨(blk_cell BK237.out 0).trans rfl,(blk_cell BK237.out 1).trans rfl⟩ (fun hHeld => ?_)
   clear hK K
   refine norm_ (a':=?_) ?_ ?_
   rotate_left
   ·show Act.put _ (some 20) _ = _
    simp only [Act.put,List.setIfInBounds_toArray,List.set_cons_zero,List.set_cons_succ,i64_w,i32_w]
    rfl
   refine pure_ (i:=11) (N:=some 21) (v:=?_) (a':=?_) #[true,true,true,true,true,true,true,true,true,true,true,true,false,false,false] rfl rfl (any_of HT_.out (by kernel_rfl)) (fun _ _ _ h => h) (Or.inl ⟨by rfl,?_⟩) ?_ ?_
   rotate_left
   ·intro w'
    go_simp
    with_reducible rfl
   rotate_left
   ·simp only [Act.put,List.setIfInBounds_toArray,List.set_cons_zero,List.set_cons_succ,i64_w,i32_w]
    rfl
   refine one_ (i:=12) (N:=some 22) #[true,true,true,true,true,true,true,true,true,true,true,true,true,false,false] rfl rfl (one_of HT_.out (by kernel_rfl)) (by decide) (fun K hK => ?_)
   refine goes_ Tryd.func63 (by kernel_rfl) rfl #[.int .u64 ji9] (by rfl) rfl rfl (by (try simp only [List.map_toArray,List.map_cons,List.map_nil]); first | done | (simp only [hji9]; rfl) | rfl | (simp only [List.length_drop,List.length_take]; rfl)) ?_
   with_reducible refine (impl_set_listed.calls ji9 t244 _ (TB.below HTB.out (bl2_ HB.out GE237.out GE238.out)) A10.out).mono ?_
   rintro e w19 ⟨v245,rfl,ho0,hb⟩
   refine ⟨_,rfl,?_⟩
   have n0_:=Aside0.mk (Kd.R_elder' (kr_ HO242.out) (Kd.R_base ho0) hb)
   have n1_:=Aside0.mk (Kd.R_lower (Kd.R_new' ho0 (Kd.R_lt (kr_ HO242.out))) (below_size (bl2_ HB.out GE237.out GE238.out)))
   have n2_:=Aside0.mk (bb_ BK237.out hb)
   have n3_:=Aside0.mk (bb_ BK238.out hb)
   have n4_:=Aside0.mk (below_step (bl2_ HB.out GE237.out GE238.out) hb)
   clear HO242
   clear BK237
   clear BK238
   clear HB
   have HO242:=n0_
   have HO246:=n1_
   have BK237:=n2_
   have BK238:=n3_
   have HB:=n4_
   clear n0_ n1_ n2_ n3_ n4_
   (try clear hb)
   (try clear hb2)
   (try clear hk)
   (try clear hi)
   (try clear ho0)
   obtain ⟨Ao20,co20,eo20⟩:=Kd.R_slice HO246.out
   (first | subst eo20 | (injection eo20 with f1_ f2_ f3_; have f4_:=f1_.symm; have f5_:=f3_.symm; clear f1_ f2_ f3_; subst f4_; subst f5_))
   obtain ⟨Ao21,co21,eo21⟩:=Kd.R_slice HO242.out
   (first | subst eo21 | (injection eo21 with f1_ f2_ f3_; have f4_:=f1_.symm; have f5_:=f3_.symm; clear f1_ f2_ f3_; subst f4_; subst f5_))
   refine hK.out _ _ ⟨(blk_cell BK237.out 0).trans rfl,(blk_cell BK237.out 1).trans rfl⟩ (fun hHeld => ?_)
   clear hK K
   refine norm_ (a':=?_) ?_ ?_
   rotate_left
   ·show Act.put _ (some 22) _ = _
    simp only [Act.put,List.setIfInBounds_toArray,List.set_cons_zero,List.set_cons_succ,i64_w,i32_w]
    rfl
   refine pure_ (i:=13) (N:=some 23) (v:=?_) (a':=?_) #[true,true,true,true,true,true,true,true,true,true,true,true,true,true,false] rfl rfl (any_of HT_.out (by kernel_rfl)) (fun _ _ _ h => h) (Or.inl ⟨by rfl,?_⟩) ?_ ?_
   rotate_left
   ·intro w'
    go_simp
    with_reducible rfl
   rotate_left
   ·simp only [Act.put,List.setIfInBounds_toArray,List.set_cons_zero,List.set_cons_succ,i64_w,i32_w]
    rfl
   refine one_ (i:=14) (N:=none) #[true,true,true,true,true,true,true,true,true,true,true,true,true,true,true] rfl rfl (one_of HT_.out (by kernel_rfl)) (by decide) (fun K hK => ?_)
   have hs22:w19.cell? ⟨gb238,0,none⟩ = some (.int .i64 0):=(blk_cell BK238.out 0).trans rfl
   have hfs22:=blk_frozen BK238.out 0
   have hns22_0:=NB237_238.out
   have hms22_0:=NB238_237.out
   have hs23:w19.cell? ⟨gb238,1,none⟩ = some (.int .i64 0):=(blk_cell BK238.out 1).trans rfl
   have hfs23:=blk_frozen BK238.out 1
   have hns23_0:=NB237_238.out
   have hms23_0:=NB238_237.out
   have hs24:w19.cell? ⟨gb238,2,none⟩ = some (.slice none 0 0):=(blk_cell BK238.out 2).trans rfl
   have hfs24:=blk_frozen BK238.out 2
   have hns24_0:=NB237_238.out
   have hms24_0:=NB238_237.out
   have hs25:w19.cell? ⟨gb238,3,none⟩ = some (.slice none 0 0):=(blk_cell BK238.out 3).trans rfl
   have hfs25:=blk_frozen BK238.out 3
   have hns25_0:=NB237_238.out
   have hms25_0:=NB238_237.out
   refine skip_ (w1:=?_) (by rfl) rfl ?_ ?_
   rotate_left
   ·go_simp
    rfl
   refine hK.out _ _ ⟨((cell_far (p:=⟨gb238,_,none⟩) NB237_238.out _).trans (((cell_far (p:=⟨gb238,_,none⟩) NB237_238.out _).trans (((cell_far (p:=⟨gb238,_,none⟩) NB237_238.out _).trans (((cell_far (p:=⟨gb238,_,none⟩) NB237_238.out _).trans (hHeld.1)))))))),((cell_far (p:=⟨gb238,_,none⟩) NB237_238.out _).trans (((cell_far (p:=⟨gb238,_,none⟩) NB237_238.out _).trans (((cell_far (p:=⟨gb238,_,none⟩) NB237_238.out _).trans (((cell_far (p:=⟨gb238,_,none⟩) NB237_238.out _).trans (hHeld.2))))))))⟩ (fun hHeld => ?_)
   clear hK K
   refine done_ (done_of HT_.out (by kernel_rfl)) ?_
   try go_wp2
   refine bodyPost_ret (results_cell_row rfl _ _ gb238 26 #[.int .i64 a0_0,.int .i64 a0_1,.slice Ao21 t240.length co21,.slice Ao20 t244.length co20] (0,0) _ rfl (by (with_reducible repeat (first | refine blk_drewN ?_ _ | refine blk_drew ?_ | refine blk_alloc ?_ _)); refine blk_put (cs:=#[.int .i64 a0_0,.int .i64 a0_1,.slice Ao21 t240.length co21,.slice none 0 0]) ?_ 3 _ rfl; (with_reducible repeat (first | refine blk_drewN ?_ _ | refine blk_drew ?_ | refine blk_alloc ?_ _)); refine blk_put (cs:=#[.int .i64 a0_0,.int .i64 a0_1,.slice none 0 0,.slice none 0 0]) ?_ 2 _ rfl; (with_reducible repeat (first | refine blk_drewN ?_ _ | refine blk_drew ?_ | refine blk_alloc ?_ _)); refine blk_put (cs:=#[.int .i64 a0_0,.int .i64 0,.slice none 0 0,.slice none 0 0]) ?_ 1 _ rfl; (with_reducible repeat (first | refine blk_drewN ?_ _ | refine blk_drew ?_ | refine blk_alloc ?_ _)); refine blk_put (cs:=#[.int .i64 0,.int .i64 0,.slice none 0 0,.slice none 0 0]) ?_ 0 _ rfl; (with_reducible repeat (first | refine blk_drewN ?_ _ | refine blk_drew ?_ | refine blk_alloc ?_ _)); exact BK238.out) Tryd.underlying26 rfl (by kernel_rfl)) rfl ?_
   exact ⟨_,_,by first | rfl | (simp [errW_none,errW_some] <;> rfl) | (simp only [← hji5,← hji9]; first | rfl | (simp [errW_none,errW_some] <;> rfl)) | (simp [*,errW_none,errW_some] <;> rfl),by (with_reducible repeat (first | apply Kd.R_alloc | apply Kd.R_drewN | apply Kd.R_drew)); exact Kd.R_mono (Kd.R_far (p:=⟨gb238,3,none⟩) (Kd.R_far (p:=⟨gb238,2,none⟩) (Kd.R_far (p:=⟨gb238,1,none⟩) (Kd.R_far (p:=⟨gb238,0,none⟩) (Kd.R_types HO242.out BK238.out (by decide)) (fun _ hk => hk.2) (.int .i64 a0_0)) (fun _ hk => hk.2) (.int .i64 a0_1)) (fun _ hk => hk.2) (.slice Ao21 t240.length co21)) (fun _ hk => hk.2) (.slice Ao20 t244.length co20)) (fun _ hk => hk.1.2),by (with_reducible repeat (first | apply Kd.R_alloc | apply Kd.R_drewN | apply Kd.R_drew)); exact Kd.R_mono (Kd.R_far (p:=⟨gb238,3,none⟩) (Kd.R_far (p:=⟨gb238,2,none⟩) (Kd.R_far (p:=⟨gb238,1,none⟩) (Kd.R_far (p:=⟨gb238,0,none⟩) (Kd.R_types HO246.out BK238.out (by decide)) (fun _ hk => hk.2) (.int .i64 a0_0)) (fun _ hk => hk.2) (.int .i64 a0_1)) (fun _ hk => hk.2) (.slice Ao21 t240.length co21)) (fun _ hk => hk.2) (.slice Ao20 t244.length co20)) (fun _ hk => hk.1.2),bl2_ HB.out GE237.out GE238.out⟩
  ·rw [if_neg c8] at H
   exact absurd H (by simp)
 ·rw [if_neg c4] at H
  exact absurd H (by simp)


mutual
def impl_Figure_set.l0:Nat → Int → List Int → Int → Int → Int → Int → List Int → List Int → Option (Int)
 | 0,_,_,_,_,_,_,_,_ => none
 | k + 1,x3,x9,x10,x11,x248000,x248001,x248002,x248003 => if x11 < x10 then (if 0 ≤ x11 then (if x11 < (x9.length:Int) then (if 0 ≤ (rd x9 x11) then (impl_Figure_set.l0 k (Go.bits .or .u64 x3 (shl .u64 1 (rd x9 x11))) x9 x10 (wrap64 (x11 + 1)) x248000 x248001 x248002 x248003) else (none)) else (none)) else (none)) else (impl_Figure_set.l1 k x3 x248003 (x248003.length:Int) 0 x248000 x248001 x248002 x248003)
def impl_Figure_set.l1:Nat → Int → List Int → Int → Int → Int → Int → List Int → List Int → Option (Int)
 | 0,_,_,_,_,_,_,_,_ => none
 | k + 1,x3,x21,x22,x23,x248000,x248001,x248002,x248003 => if x23 < x22 then (if 0 ≤ x23 then (if x23 < (x21.length:Int) then ((impl_Figure_grid.f x248000 x248001 x248002 x248003).bind fun bt250 => ((impl_grid_levels.f bt250.1 bt250.2).bind fun t252 => (if 0 ≤ (wrap64 (t252 + (rd x21 x23))) then (impl_Figure_set.l1 k (Go.bits .or .u64 x3 (shl .u64 1 (wrap64 (t252 + (rd x21 x23))))) x21 x22 (wrap64 (x23 + 1)) x248000 x248001 x248002 x248003) else (none)))) else (none)) else (none)) else (some x3)
end
def impl_Figure_set.f (k:Nat) (a0_0:Int) (a0_1:Int) (l0_2:List Int) (l0_3:List Int):Option (Int):=impl_Figure_set.l0 k 0 l0_2 (l0_2.length:Int) 0 a0_0 a0_1 l0_2 l0_3
theorem impl_Figure_set.mono_l:∀ k,(∀ y0 y1 y2 y3 y4 y5 y6 y7,LeO (impl_Figure_set.l0 k y0 y1 y2 y3 y4 y5 y6 y7) (impl_Figure_set.l0 (k + 1) y0 y1 y2 y3 y4 y5 y6 y7)) ∧ (∀ y0 y1 y2 y3 y4 y5 y6 y7,LeO (impl_Figure_set.l1 k y0 y1 y2 y3 y4 y5 y6 y7) (impl_Figure_set.l1 (k + 1) y0 y1 y2 y3 y4 y5 y6 y7))
 | 0 => ⟨fun _ _ _ _ _ _ _ _ r h => by simp [impl_Figure_set.l0] at h,fun _ _ _ _ _ _ _ _ r h => by simp [impl_Figure_set.l1] at h⟩
 | k + 1 => by
  obtain ⟨ih0,ih1⟩:=impl_Figure_set.mono_l k
  refine ⟨?_,?_⟩
  ·intro y0 y1 y2 y3 y4 y5 y6 y7
   unfold impl_Figure_set.l0
   repeat' first
   | (with_reducible exact ih0 _ _ _ _ _ _ _ _)
   | (with_reducible exact ih1 _ _ _ _ _ _ _ _)
   | (with_reducible exact LeO.refl _)
   | (with_reducible exact LeO.none _)
   | (with_reducible refine LeO.ite ?_ ?_)
   | (with_reducible refine LeO.bind ?_ (fun _ => ?_))
   | exact ih0 _ _ _ _ _ _ _ _
   | exact ih1 _ _ _ _ _ _ _ _
   | exact LeO.none _
   | refine LeO.ite ?_ ?_
   | refine LeO.bind ?_ (fun _ => ?_)
  ·intro y0 y1 y2 y3 y4 y5 y6 y7
   unfold impl_Figure_set.l1
   repeat' first
   | (with_reducible exact ih0 _ _ _ _ _ _ _ _)
   | (with_reducible exact ih1 _ _ _ _ _ _ _ _)
   | (with_reducible exact LeO.refl _)
   | (with_reducible exact LeO.none _)
   | (with_reducible refine LeO.ite ?_ ?_)
   | (with_reducible refine LeO.bind ?_ (fun _ => ?_))
   | exact ih0 _ _ _ _ _ _ _ _
   | exact ih1 _ _ _ _ _ _ _ _
   | exact LeO.none _
   | refine LeO.ite ?_ ?_
   | refine LeO.bind ?_ (fun _ => ?_)
theorem impl_Figure_set.mono:∀ a0 a1 a2 a3 k,LeO (impl_Figure_set.f k a0 a1 a2 a3) (impl_Figure_set.f (k + 1) a0 a1 a2 a3):=by
 intro a0 a1 a2 a3 k
 obtain ⟨ih0,ih1⟩:=impl_Figure_set.mono_l k
 unfold impl_Figure_set.f
 repeat' first
   | (with_reducible exact ih0 _ _ _ _ _ _ _ _)
   | (with_reducible exact ih1 _ _ _ _ _ _ _ _)
   | (with_reducible exact LeO.refl _)
   | (with_reducible exact LeO.none _)
   | (with_reducible refine LeO.ite ?_ ?_)
   | (with_reducible refine LeO.bind ?_ (fun _ => ?_))
   | exact ih0 _ _ _ _ _ _ _ _
   | exact ih1 _ _ _ _ _ _ _ _
   | exact LeO.none _
   | refine LeO.ite ?_ ?_
   | refine LeO.bind ?_ (fun _ => ?_)
set_option maxHeartbeats 8000000 in
set_option maxRecDepth 100000 in
theorem impl_Figure_set.calls (k:Nat) (a0_0:Int) (a0_1:Int) (A0_2:Option Addr) (c0_2:Nat) (l0_2:List Int) (A0_3:Option Addr) (c0_3:Nat) (l0_3:List Int) (r:Int) (w:World) (hr0_2:Kd.C (Kd.int .i64) w A0_2 l0_2.length l0_2) (hc0_2:l0_2.length ≤ c0_2) (hr0_3:Kd.C (Kd.int .i64) w A0_3 l0_3.length l0_3) (hc0_3:l0_3.length ≤ c0_3) (h:impl_Figure_set.f k a0_0 a0_1 l0_2 l0_3 = some r) :
  Calls Tryd.prog 41 #[.agg #[.int .i64 a0_0,.int .i64 a0_1,.slice A0_2 l0_2.length c0_2,.slice A0_3 l0_3.length c0_3]] w fun e w' => e = .returned (.int .u64 r) ∧ Below w.heap.size w w':=by
 have hu26:=Tryd.underlying26
 have HR0_2:=Aside0.mk hr0_2
 have HC0_2:=Aside0.mk hc0_2
 clear hr0_2 hc0_2
 have HR0_3:=Aside0.mk hr0_3
 have HC0_3:=Aside0.mk hc0_3
 clear hr0_3 hc0_3
 have HB:=Aside0.mk (Below.refl w.heap.size w)
 have H:(impl_Figure_set.l0 k 0 l0_2 (l0_2.length:Int) 0 a0_0 a0_1 l0_2 l0_3) = some r:=h
 clear h
 have H':=Aside0.mk H
 clear H
 go_enter Tryd.func41,Tryd.ntmps41
 go_wp2_with (first | ((with_reducible refine gate_dst (N:=1) rfl ?_); refine boxE_ (N:=1) (cs:=#[.int .i64 a0_0,.int .i64 a0_1,.slice A0_2 l0_2.length c0_2,.slice A0_3 l0_3.length c0_3]) (t:=26) ?_; intro gb247 hg w2 hbox hb; have n0_:=Aside0.mk (below_step (bl0_ HB.out) hb); have n1_:=Aside0.mk (hbox); have n2_:=Aside0.mk ((bs0_ hg HB.out:w.heap.size ≤ gb247)); have n3_:=Aside0.mk ((bs0_ hg HB.out:w.heap.size ≤ gb247)); clear HB; have HB:=n0_; have BK247:=n1_; have GW247:=n2_; have GE247:=n3_; clear n0_ n1_ n2_ n3_; clear hb hbox hg; have hcz3_0:w2.cell? ⟨gb247,0,none⟩ = some (.int .i64 a0_0):=(blk_cell BK247.out 0).trans rfl; have hcz3_1:w2.cell? ⟨gb247,1,none⟩ = some (.int .i64 a0_1):=(blk_cell BK247.out 1).trans rfl; have hcz3_2:w2.cell? ⟨gb247,2,none⟩ = some (.slice A0_2 l0_2.length c0_2):=(blk_cell BK247.out 2).trans rfl; have hcz3_3:w2.cell? ⟨gb247,3,none⟩ = some (.slice A0_3 l0_3.length c0_3):=(blk_cell BK247.out 3).trans rfl; have hfz3_0:=blk_frozen BK247.out 0; have hfz3_1:=blk_frozen BK247.out 1; have hfz3_2:=blk_frozen BK247.out 2; have hfz3_3:=blk_frozen BK247.out 3))
 go_loopg [3,11] k (fun kq v3 v11 w' => ∃ (x3_1:Int) (x11_1:Int),v3 = .int .u64 x3_1 ∧ v11 = .int .i64 x11_1 ∧ Aside0 (impl_Figure_set.l0 kq x3_1 l0_2 (l0_2.length:Int) x11_1 a0_0 a0_1 l0_2 l0_3 = some r) ∧ Aside0 (kq ≤ k) ∧ Aside0 (w'.heap[gb247]? = some (.cells #[.int .i64 a0_0,.int .i64 a0_1,(.slice A0_2 l0_2.length c0_2),(.slice A0_3 l0_3.length c0_3)] 26 (0,0))) ∧ Aside0 (Below w.heap.size w w'))
 case atStart => exact ⟨(0),(0),rs_,rs_,H',⟨Nat.le_refl _⟩,⟨bk_ BK247.out⟩,⟨bl1_ HB.out GE247.out⟩⟩
 case round =>
  clear H'
  try clear p2
  try clear hcz3_0
  try clear hcz3_1
  try clear hcz3_2
  try clear hcz3_3
  try clear hfz3_0
  try clear hfz3_1
  try clear hfz3_2
  try clear hfz3_3
  obtain ⟨x3_1,x11_1,rfl,rfl,HA,HK1,BK247,HB⟩:=hrel
  cases gk with
  | zero => exact absurd HA.out (by simp [impl_Figure_set.l0])
  | succ k1 =>
   have H:=HA.out
   clear HA
   simp only [impl_Figure_set.l0] at H
   by_cases c4:x11_1 < (l0_2.length:Int)
   ·rw [if_pos c4] at H
    have c4b0:decide (x11_1 < (l0_2.length:Int)) = true:=decide_eq_true c4
    clear c4
    by_cases c5:0 ≤ x11_1
    ·rw [if_pos c5] at H
     have c5b0:decide (0 ≤ x11_1) = true:=decide_eq_true c5
     clear c5
     by_cases c6:x11_1 < (l0_2.length:Int)
     ·rw [if_pos c6] at H
      have c6b0:decide (x11_1 < (l0_2.length:Int)) = true:=decide_eq_true c6
      clear c6
      by_cases c7:0 ≤ (rd l0_2 x11_1)
      ·rw [if_pos c7] at H
       have c7b0:=eq_true c7
       have c7b1:decide (0 ≤ (rd l0_2 x11_1)) = true:=decide_eq_true c7
       clear c7
       obtain ⟨ji8,hji8⟩:∃ j_:Int,(shl .u64 1 (rd l0_2 x11_1)) = j_:=⟨_,rfl⟩
       replace H:(impl_Figure_set.l0 k1 (Go.bits .or .u64 x3_1 (ji8)) l0_2 (l0_2.length:Int) (wrap64 (x11_1 + 1)) a0_0 a0_1 l0_2 l0_3) = some r:=by first | (rw [hji8] at H; exact H) | (simp only [hji8] at H ⊢; exact H)
       have hji8_:(IntKind.u64.wrap (1 * 2 ^ min (rd l0_2 x11_1).toNat 64)) = ji8:=hji8
       have hji8z:(rd l0_2 x11_1) ≤ 64 → (IntKind.u64.wrap (1 * 2 ^ (rd l0_2 x11_1).toNat)) = ji8:=shl_small hji8
       have hji8u:(IntKind.u64.wrap (2 ^ min (rd l0_2 x11_1).toNat 64)) = ji8:=by have h_:=hji8_; rw [Int.one_mul] at h_; exact h_
       have hji8v:(rd l0_2 x11_1) ≤ 64 → (IntKind.u64.wrap (2 ^ (rd l0_2 x11_1).toNat)) = ji8:=fun hle_ => by have h_:=hji8z hle_; rw [Int.one_mul] at h_; exact h_
       have H':=Aside0.mk H
       clear H
       have p248:0 ≤ (x11_1:Int):=of_decide_eq_true as_
       have q248:x11_1 < (l0_2.length:Int):=of_decide_eq_true as_
       obtain ⟨ad248,e248,hx248_0⟩:=Kd.at_int HR0_2.out x11_1 p248 q248
       cases e248
       replace hx248_0:=(HB.out.cell (World.block_lt_of_cell? w _ hx248_0)).trans hx248_0
       replace p248:=eq_true p248
       replace q248:=eq_true q248
       go_wp2
       go_roundg k1
       case measure => have:=HK1.out; omega
       case rel => exact ⟨(Go.bits .or .u64 x3_1 (ji8)),(wrap64 (x11_1 + 1)),(by first | rfl | (simp; done) | (simp only [← hji8] <;> (first | rfl | simp)) | (simp [*]; done)),rs_,H',⟨by have:=HK1.out; omega⟩,⟨bk_ BK247.out⟩,⟨bl1_ HB.out GE247.out⟩⟩
      ·rw [if_neg c7] at H
       exact absurd H (by simp)
     ·rw [if_neg c6] at H
      exact absurd H (by simp)
    ·rw [if_neg c5] at H
     exact absurd H (by simp)
   ·rw [if_neg c4] at H
    have c4b0:decide (x11_1 < (l0_2.length:Int)) = false:=decide_eq_false c4
    clear c4
    have H':=Aside0.mk H
    clear H
    have hcz9_0:wr.cell? ⟨gb247,0,none⟩ = some (.int .i64 a0_0):=(blk_cell BK247.out 0).trans rfl
    have hcz9_1:wr.cell? ⟨gb247,1,none⟩ = some (.int .i64 a0_1):=(blk_cell BK247.out 1).trans rfl
    have hcz9_2:wr.cell? ⟨gb247,2,none⟩ = some (.slice A0_2 l0_2.length c0_2):=(blk_cell BK247.out 2).trans rfl
    have hcz9_3:wr.cell? ⟨gb247,3,none⟩ = some (.slice A0_3 l0_3.length c0_3):=(blk_cell BK247.out 3).trans rfl
    have hfz9_0:=blk_frozen BK247.out 0
    have hfz9_1:=blk_frozen BK247.out 1
    have hfz9_2:=blk_frozen BK247.out 2
    have hfz9_3:=blk_frozen BK247.out 3
    go_wp2
    go_loopg [3,23] k1 (fun kq v3 v23 w' => ∃ (x3_2:Int) (x23_2:Int),v3 = .int .u64 x3_2 ∧ v23 = .int .i64 x23_2 ∧ Aside0 (impl_Figure_set.l1 kq x3_2 l0_3 (l0_3.length:Int) x23_2 a0_0 a0_1 l0_2 l0_3 = some r) ∧ Aside0 (kq ≤ k1) ∧ Aside0 (w'.heap[gb247]? = some (.cells #[.int .i64 a0_0,.int .i64 a0_1,(.slice A0_2 l0_2.length c0_2),(.slice A0_3 l0_3.length c0_3)] 26 (0,0))) ∧ Aside0 (Below w.heap.size w w'))
    case atStart => exact ⟨(x3_1),(0),rs_,rs_,H',⟨Nat.le_refl _⟩,⟨bk_ BK247.out⟩,⟨bl1_ HB.out GE247.out⟩⟩
    case round =>
     clear H'
     try clear p2
     try clear q2
     try clear hx2
     try clear c4
     try clear c4b0
     try clear c5
     try clear c5b0
     try clear c6
     try clear c6b0
     try clear p6
     try clear c7
     try clear c7b0
     try clear c7b1
     try clear hcz3_0
     try clear hcz3_1
     try clear hcz3_2
     try clear hcz3_3
     try clear hcz9_0
     try clear hcz9_1
     try clear hcz9_2
     try clear hcz9_3
     try clear hfz3_0
     try clear hfz3_1
     try clear hfz3_2
     try clear hfz3_3
     try clear hfz9_0
     try clear hfz9_1
     try clear hfz9_2
     try clear hfz9_3
     try clear hx248_0
     try clear p2
     try clear p248
     try clear q248
     obtain ⟨x3_2,x23_2,rfl,rfl,HA,HK2,BK247,HB⟩:=hrel
     cases gk with
     | zero => exact absurd HA.out (by simp [impl_Figure_set.l1])
     | succ k2 =>
      have H:=HA.out
      clear HA
      simp only [impl_Figure_set.l1] at H
      by_cases c10:x23_2 < (l0_3.length:Int)
      ·rw [if_pos c10] at H
       have c10b0:decide (x23_2 < (l0_3.length:Int)) = true:=decide_eq_true c10
       clear c10
       by_cases c11:0 ≤ x23_2
       ·rw [if_pos c11] at H
        have c11b0:decide (0 ≤ x23_2) = true:=decide_eq_true c11
        clear c11
        by_cases c12:x23_2 < (l0_3.length:Int)
        ·rw [if_pos c12] at H
         have c12b0:decide (x23_2 < (l0_3.length:Int)) = true:=decide_eq_true c12
         clear c12
         replace H:=Option.bind_eq_some_iff.mp H
         obtain ⟨⟨t250,t251⟩,A130,H⟩:=H
         replace H:((impl_grid_levels.f t250 t251).bind fun t252 => (if 0 ≤ (wrap64 (t252 + (rd l0_3 x23_2))) then (impl_Figure_set.l1 k2 (Go.bits .or .u64 x3_2 (shl .u64 1 (wrap64 (t252 + (rd l0_3 x23_2))))) l0_3 (l0_3.length:Int) (wrap64 (x23_2 + 1)) a0_0 a0_1 l0_2 l0_3) else (none))) = some r:=H
         have A13:=Aside0.mk A130
         clear A130
         replace H:=Option.bind_eq_some_iff.mp H
         obtain ⟨t252,A140,H⟩:=H
         replace H:(if 0 ≤ (wrap64 (t252 + (rd l0_3 x23_2))) then (impl_Figure_set.l1 k2 (Go.bits .or .u64 x3_2 (shl .u64 1 (wrap64 (t252 + (rd l0_3 x23_2))))) l0_3 (l0_3.length:Int) (wrap64 (x23_2 + 1)) a0_0 a0_1 l0_2 l0_3) else (none)) = some r:=H
         have A14:=Aside0.mk A140
         clear A140
         obtain ⟨ji15,hji15⟩:∃ j_:Int,(wrap64 (t252 + (rd l0_3 x23_2))) = j_:=⟨_,rfl⟩
         replace H:(if 0 ≤ (ji15) then (impl_Figure_set.l1 k2 (Go.bits .or .u64 x3_2 (shl .u64 1 (ji15))) l0_3 (l0_3.length:Int) (wrap64 (x23_2 + 1)) a0_0 a0_1 l0_2 l0_3) else (none)) = some r:=by first | (rw [hji15] at H; exact H) | (simp only [hji15] at H ⊢; exact H)
         (try rw [hji15] at A13)
         (try rw [hji15] at A14)
         have hji15w:(IntKind.i64.wrap (t252 + (rd l0_3 x23_2))) = ji15:=(i64_w _).trans hji15
         by_cases c16:0 ≤ (ji15)
         ·rw [if_pos c16] at H
          have c16b0:=eq_true c16
          have c16b1:decide (0 ≤ (ji15)) = true:=decide_eq_true c16
          clear c16
          obtain ⟨ji17,hji17⟩:∃ j_:Int,(shl .u64 1 (ji15)) = j_:=⟨_,rfl⟩
          replace H:(impl_Figure_set.l1 k2 (Go.bits .or .u64 x3_2 (ji17)) l0_3 (l0_3.length:Int) (wrap64 (x23_2 + 1)) a0_0 a0_1 l0_2 l0_3) = some r:=by first | (rw [hji17] at H; exact H) | (simp only [hji17] at H ⊢; exact H)
          (try rw [hji17] at A13)
          (try rw [hji17] at A14)
          have hji17_:(IntKind.u64.wrap (1 * 2 ^ min (ji15).toNat 64)) = ji17:=hji17
          have hji17z:(ji15) ≤ 64 → (IntKind.u64.wrap (1 * 2 ^ (ji15).toNat)) = ji17:=shl_small hji17
          have hji17u:(IntKind.u64.wrap (2 ^ min (ji15).toNat 64)) = ji17:=by have h_:=hji17_; rw [Int.one_mul] at h_; exact h_
          have hji17v:(ji15) ≤ 64 → (IntKind.u64.wrap (2 ^ (ji15).toNat)) = ji17:=fun hle_ => by have h_:=hji17z hle_; rw [Int.one_mul] at h_; exact h_
          have H':=Aside0.mk H
          clear H
          have p249:0 ≤ (x23_2:Int):=of_decide_eq_true as_
          have q249:x23_2 < (l0_3.length:Int):=of_decide_eq_true as_
          obtain ⟨ad249,e249,hx249_0⟩:=Kd.at_int HR0_3.out x23_2 p249 q249
          cases e249
          replace hx249_0:=(HB.out.cell (World.block_lt_of_cell? w _ hx249_0)).trans hx249_0
          replace p249:=eq_true p249
          replace q249:=eq_true q249
          have hcz18_0:wr.cell? ⟨gb247,0,none⟩ = some (.int .i64 a0_0):=(blk_cell BK247.out 0).trans rfl
          have hcz18_1:wr.cell? ⟨gb247,1,none⟩ = some (.int .i64 a0_1):=(blk_cell BK247.out 1).trans rfl
          have hcz18_2:wr.cell? ⟨gb247,2,none⟩ = some (.slice A0_2 l0_2.length c0_2):=(blk_cell BK247.out 2).trans rfl
          have hcz18_3:wr.cell? ⟨gb247,3,none⟩ = some (.slice (some ad249) l0_3.length c0_3):=(blk_cell BK247.out 3).trans rfl
          have hfz18_0:=blk_frozen BK247.out 0
          have hfz18_1:=blk_frozen BK247.out 1
          have hfz18_2:=blk_frozen BK247.out 2
          have hfz18_3:=blk_frozen BK247.out 3
          go_wp2_with (first | ((with_reducible refine gate_callee (f:=39) rfl ?_); refine goesL_ (some 29) rfl rfl Tryd.func39 (by kernel_rfl) rfl #[.agg #[.int .i64 a0_0,.int .i64 a0_1,.slice A0_2 l0_2.length c0_2,.slice (some ad249) l0_3.length c0_3]] rfl ob_ ?_; (with_reducible refine (impl_Figure_grid.calls a0_0 a0_1 _ _ l0_2 _ _ l0_3 t250 t251 _ ?side1 ?side2 ?side3 ?side4 A13.out).mono ?_); (case side1 => exact kc_ (Kd.C_below HR0_2.out HB.out)); (case side2 => exact HC0_2.out); (case side3 => exact kc_ (Kd.C_below HR0_3.out HB.out)); (case side4 => exact HC0_3.out); rintro e w19 ⟨rfl,hb⟩; refine ⟨_,rfl,?_⟩; have n0_:=Aside0.mk (bb_ BK247.out hb); have n1_:=Aside0.mk (below_step (bl1_ HB.out GE247.out) hb); clear BK247; clear HB; have BK247:=n0_; have HB:=n1_; clear n0_ n1_; (try clear hb); (try clear hb2); (try clear hk); (try clear hi)) | ((with_reducible refine gate_callee (f:=70) rfl ?_); refine goesL_ (some 30) rfl rfl Tryd.func70 (by kernel_rfl) rfl #[.agg #[.int .i64 t250,.int .i64 t251]] rfl ob_ ?_; (with_reducible refine (impl_grid_levels.calls t250 t251 t252 _ A14.out).mono ?_); rintro e w20 ⟨rfl,hb⟩; refine ⟨_,rfl,?_⟩; have n0_:=Aside0.mk (bb_ BK247.out hb); have n1_:=Aside0.mk (below_step (bl1_ HB.out GE247.out) hb); clear BK247; clear HB; have BK247:=n0_; have HB:=n1_; clear n0_ n1_; (try clear hb); (try clear hb2); (try clear hk); (try clear hi)))
          go_roundg k2
          case measure => have:=HK1.out; have:=HK2.out; omega
          case rel => exact ⟨(Go.bits .or .u64 x3_2 (ji17)),(wrap64 (x23_2 + 1)),(by first | rfl | (simp; done) | (simp only [← hji17] <;> (first | rfl | simp)) | (simp [*]; done)),rs_,H',⟨by have:=HK1.out; have:=HK2.out; omega⟩,⟨bk_ BK247.out⟩,⟨bl1_ HB.out GE247.out⟩⟩
         ·rw [if_neg c16] at H
          exact absurd H (by simp)
        ·rw [if_neg c12] at H
         exact absurd H (by simp)
       ·rw [if_neg c11] at H
        exact absurd H (by simp)
      ·rw [if_neg c10] at H
       have c10b0:decide (x23_2 < (l0_3.length:Int)) = false:=decide_eq_false c10
       clear c10
       obtain rfl:=Option.some.inj H
       go_wp2
       go_ret
       exact ⟨er_,bl1_ HB.out GE247.out⟩


mutual
def impl_grid_corners.l0:Nat → List (S103) → Int → Int → Int → Int → Option ((List (S103)))
 | 0,_,_,_,_,_ => none
 | k + 1,x3,x9,x10,x737000,x737001 => if x10 < x9 then (impl_grid_corners.l1 k x3 x10 x9 x10 (wrap64 (x737000 + 1)) 0 x737000 x737001) else (some x3)
def impl_grid_corners.l1:Nat → List (S103) → Int → Int → Int → Int → Int → Int → Int → Option ((List (S103)))
 | 0,_,_,_,_,_,_,_,_ => none
 | k + 1,x3,x4,x9,x10,x15,x16,x737000,x737001 => if x16 < x15 then (if x3.length < 8796093022208 then (impl_grid_corners.l1 k (x3 ++ [(⟨x16,x4⟩:S103)]) x4 x9 x10 x15 (wrap64 (x16 + 1)) x737000 x737001) else (none)) else (impl_grid_corners.l0 k x3 x9 (wrap64 (x10 + 1)) x737000 x737001)
end
def impl_grid_corners.f (k:Nat) (a0_0:Int) (a0_1:Int):Option ((List (S103))):=impl_grid_corners.l0 k (([]:List (S103))) (wrap64 (a0_1 + 1)) 0 a0_0 a0_1
theorem impl_grid_corners.mono_l:∀ k,(∀ y0 y1 y2 y3 y4,LeO (impl_grid_corners.l0 k y0 y1 y2 y3 y4) (impl_grid_corners.l0 (k + 1) y0 y1 y2 y3 y4)) ∧ (∀ y0 y1 y2 y3 y4 y5 y6 y7,LeO (impl_grid_corners.l1 k y0 y1 y2 y3 y4 y5 y6 y7) (impl_grid_corners.l1 (k + 1) y0 y1 y2 y3 y4 y5 y6 y7))
 | 0 => ⟨fun _ _ _ _ _ r h => by simp [impl_grid_corners.l0] at h,fun _ _ _ _ _ _ _ _ r h => by simp [impl_grid_corners.l1] at h⟩
 | k + 1 => by
  obtain ⟨ih0,ih1⟩:=impl_grid_corners.mono_l k
  refine ⟨?_,?_⟩
  ·intro y0 y1 y2 y3 y4
   unfold impl_grid_corners.l0
   repeat' first
   | (with_reducible exact ih0 _ _ _ _ _)
   | (with_reducible exact ih1 _ _ _ _ _ _ _ _)
   | (with_reducible exact LeO.refl _)
   | (with_reducible exact LeO.none _)
   | (with_reducible refine LeO.ite ?_ ?_)
   | (with_reducible refine LeO.bind ?_ (fun _ => ?_))
   | exact ih0 _ _ _ _ _
   | exact ih1 _ _ _ _ _ _ _ _
   | exact LeO.none _
   | refine LeO.ite ?_ ?_
   | refine LeO.bind ?_ (fun _ => ?_)
  ·intro y0 y1 y2 y3 y4 y5 y6 y7
   unfold impl_grid_corners.l1
   repeat' first
   | (with_reducible exact ih0 _ _ _ _ _)
   | (with_reducible exact ih1 _ _ _ _ _ _ _ _)
   | (with_reducible exact LeO.refl _)
   | (with_reducible exact LeO.none _)
   | (with_reducible refine LeO.ite ?_ ?_)
   | (with_reducible refine LeO.bind ?_ (fun _ => ?_))
   | exact ih0 _ _ _ _ _
   | exact ih1 _ _ _ _ _ _ _ _
   | exact LeO.none _
   | refine LeO.ite ?_ ?_
   | refine LeO.bind ?_ (fun _ => ?_)
theorem impl_grid_corners.mono:∀ a0 a1 k,LeO (impl_grid_corners.f k a0 a1) (impl_grid_corners.f (k + 1) a0 a1):=by
 intro a0 a1 k
 obtain ⟨ih0,ih1⟩:=impl_grid_corners.mono_l k
 unfold impl_grid_corners.f
 repeat' first
   | (with_reducible exact ih0 _ _ _ _ _)
   | (with_reducible exact ih1 _ _ _ _ _ _ _ _)
   | (with_reducible exact LeO.refl _)
   | (with_reducible exact LeO.none _)
   | (with_reducible refine LeO.ite ?_ ?_)
   | (with_reducible refine LeO.bind ?_ (fun _ => ?_))
   | exact ih0 _ _ _ _ _
   | exact ih1 _ _ _ _ _ _ _ _
   | exact LeO.none _
   | refine LeO.ite ?_ ?_
   | refine LeO.bind ?_ (fun _ => ?_)
set_option maxHeartbeats 8000000 in
set_option maxRecDepth 100000 in
theorem impl_grid_corners.calls (k:Nat) (a0_0:Int) (a0_1:Int) (r:List (S103)) (w:World) (h:impl_grid_corners.f k a0_0 a0_1 = some r) :
  Calls Tryd.prog 95 #[.agg #[.int .i64 a0_0,.int .i64 a0_1]] w fun e w' => ∃ v0_:Value,e = .returned (v0_) ∧ Kd.R k103 103 w' w.heap.size (fun _ => True) v0_ r ∧ Below w.heap.size w w':=by
 have hu49:=Tryd.underlying49
 have hu103:=Tryd.underlying103
 have HB:=Aside0.mk (Below.refl w.heap.size w)
 have H:(impl_grid_corners.l0 k (([]:List (S103))) (wrap64 (a0_1 + 1)) 0 a0_0 a0_1) = some r:=h
 clear h
 obtain ⟨y737,hy737⟩:∃ y_:List (S103),y_ = (([]:List (S103))):=⟨_,rfl⟩
 replace H:(impl_grid_corners.l0 k y737 (wrap64 (a0_1 + 1)) 0 a0_0 a0_1) = some r:=by first | (rw [hy737]; with_reducible exact H) | (have H2_:=(Option.bind_some _ _).symm.trans H; rw [hy737]; with_reducible exact H2_) | (have H2_:=(Option.bind_some _ _).symm.trans H; with_reducible exact H2_) | with_reducible exact H | (rw [hy737]; exact H) | exact H
 have Ny737:=Aside0.mk hy737
 clear hy737
 have H':=Aside0.mk H
 clear H
 go_enter Tryd.func95,Tryd.ntmps95
 go_wp2_with (first | ((with_reducible refine gate_dst (N:=1) rfl ?_); refine boxE_ (N:=1) (cs:=#[.int .i64 a0_0,.int .i64 a0_1]) (t:=49) ?_; intro gb736 hg w2 hbox hb; have n0_:=Aside0.mk (below_step (bl0_ HB.out) hb); have n1_:=Aside0.mk (hbox); have n2_:=Aside0.mk ((bs0_ hg HB.out:w.heap.size ≤ gb736)); have n3_:=Aside0.mk ((bs0_ hg HB.out:w.heap.size ≤ gb736)); clear HB; have HB:=n0_; have BK736:=n1_; have GW736:=n2_; have GE736:=n3_; clear n0_ n1_ n2_ n3_; clear hb hbox hg) | ((with_reducible refine gate_dst (N:=6) rfl ?_); refine Kd.R_lit k103 _ 103 ?hg (N:=6) ?hd (xs:=([]:List (S103))) (inner:=[]) (ok:=fun _ => True) (okp:=fun _ => True) ?hr ?hp (fun _ hk => hk) trivial (Below.refl _ _) (Nat.le_refl _) (by simp) ?_; (case hd => rfl); (case hg => rfl); (case hr => first | (go_simp; done) | (go_simp; rfl)); (case hp => exact (Reps.none _ _)); intro v738 w3 ho4 hb hg_ hnew_; clear hg_ hnew_; (first | rw [← Ny737.out] at ho4 | (simp only [Int.reduceToNat] at ho4; rw [← Ny737.out] at ho4)); have n0_:=Aside0.mk (Kd.R_lower ho4 (below_size (bl1_ HB.out GE736.out))); have n1_:=Aside0.mk (bb_ BK736.out hb); have n2_:=Aside0.mk (below_step (bl1_ HB.out GE736.out) hb); clear BK736; clear HB; have HO739:=n0_; have BK736:=n1_; have HB:=n2_; clear n0_ n1_ n2_; clear hb ho4; have hcz5_0:w3.cell? ⟨gb736,0,none⟩ = some (.int .i64 a0_0):=(blk_cell BK736.out 0).trans rfl; have hcz5_1:w3.cell? ⟨gb736,1,none⟩ = some (.int .i64 a0_1):=(blk_cell BK736.out 1).trans rfl; have hfz5_0:=blk_frozen BK736.out 0; have hfz5_1:=blk_frozen BK736.out 1))
 go_loopg [3,10] k (fun kq v3 v10 w' => ∃ (x3_1:List (S103)) (x10_1:Int),v10 = .int .i64 x10_1 ∧ Aside0 (impl_grid_corners.l0 kq x3_1 (wrap64 (a0_1 + 1)) x10_1 a0_0 a0_1 = some r) ∧ Aside0 (kq ≤ k) ∧ Aside0 (Kd.R k103 103 w' w.heap.size (fun _ => True) v3 x3_1) ∧ Aside0 (w'.heap[gb736]? = some (.cells #[.int .i64 a0_0,.int .i64 a0_1] 49 (0,0))) ∧ Aside0 (Below w.heap.size w w'))
 case atStart => exact ⟨(y737),(0),rs_,H',⟨Nat.le_refl _⟩,⟨kr_ HO739.out⟩,⟨bk_ BK736.out⟩,⟨bl1_ HB.out GE736.out⟩⟩
 case round =>
  clear H'
  try clear p2
  try clear hcz5_0
  try clear hcz5_1
  try clear hfz5_0
  try clear hfz5_1
  obtain ⟨x3_1,x10_1,rfl,HA,HK1,HO_3,BK736,HB⟩:=hrel
  cases gk with
  | zero => exact absurd HA.out (by simp [impl_grid_corners.l0])
  | succ k1 =>
   have H:=HA.out
   clear HA
   simp only [impl_grid_corners.l0] at H
   by_cases c6:x10_1 < (wrap64 (a0_1 + 1))
   ·rw [if_pos c6] at H
    have c6b0:decide (x10_1 < (wrap64 (a0_1 + 1))) = true:=decide_eq_true c6
    clear c6
    have H':=Aside0.mk H
    clear H
    have hcz7_0:wr.cell? ⟨gb736,0,none⟩ = some (.int .i64 a0_0):=(blk_cell BK736.out 0).trans rfl
    have hcz7_1:wr.cell? ⟨gb736,1,none⟩ = some (.int .i64 a0_1):=(blk_cell BK736.out 1).trans rfl
    have hfz7_0:=blk_frozen BK736.out 0
    have hfz7_1:=blk_frozen BK736.out 1
    go_wp2
    go_loopg [3,16] k1 (fun kq v3 v16 w' => ∃ (x3_2:List (S103)) (x16_2:Int),v16 = .int .i64 x16_2 ∧ Aside0 (impl_grid_corners.l1 kq x3_2 x10_1 (wrap64 (a0_1 + 1)) x10_1 (wrap64 (a0_0 + 1)) x16_2 a0_0 a0_1 = some r) ∧ Aside0 (kq ≤ k1) ∧ Aside0 (Kd.R k103 103 w' w.heap.size (fun _ => True) v3 x3_2) ∧ Aside0 (w'.heap[gb736]? = some (.cells #[.int .i64 a0_0,.int .i64 a0_1] 49 (0,0))) ∧ Aside0 (Below w.heap.size w w'))
    case atStart => exact ⟨(x3_1),(0),rs_,H',⟨Nat.le_refl _⟩,⟨kr_ HO_3.out⟩,⟨bk_ BK736.out⟩,⟨bl1_ HB.out GE736.out⟩⟩
    case round =>
     clear H'
     try clear p2
     try clear c6
     try clear c6b0
     try clear p6
     try clear hcz5_0
     try clear hcz5_1
     try clear hcz7_0
     try clear hcz7_1
     try clear hfz5_0
     try clear hfz5_1
     try clear hfz7_0
     try clear hfz7_1
     try clear p2
     obtain ⟨x3_2,x16_2,rfl,HA,HK2,HO_3,BK736,HB⟩:=hrel
     cases gk with
     | zero => exact absurd HA.out (by simp [impl_grid_corners.l1])
     | succ k2 =>
      have H:=HA.out
      clear HA
      simp only [impl_grid_corners.l1] at H
      by_cases c8:x16_2 < (wrap64 (a0_0 + 1))
      ·rw [if_pos c8] at H
       have c8b0:decide (x16_2 < (wrap64 (a0_0 + 1))) = true:=decide_eq_true c8
       clear c8
       by_cases c9:x3_2.length < 8796093022208
       ·rw [if_pos c9] at H
        have LMc9:=Aside0.mk c9
        clear c9
        obtain ⟨y740,hy740⟩:∃ y_:List (S103),y_ = (x3_2 ++ [(⟨x16_2,x10_1⟩:S103)]):=⟨_,rfl⟩
        replace H:(impl_grid_corners.l1 k2 y740 x10_1 (wrap64 (a0_1 + 1)) x10_1 (wrap64 (a0_0 + 1)) (wrap64 (x16_2 + 1)) a0_0 a0_1) = some r:=by first | (rw [hy740]; with_reducible exact H) | (have H2_:=(Option.bind_some _ _).symm.trans H; rw [hy740]; with_reducible exact H2_) | (have H2_:=(Option.bind_some _ _).symm.trans H; with_reducible exact H2_) | with_reducible exact H | (rw [hy740]; exact H) | exact H
        have Ny740:=Aside0.mk hy740
        clear hy740
        have H':=Aside0.mk H
        clear H
        go_wp2_with (first | ((with_reducible refine gate_builtin (b:=.append) (xs:=#[.tmp 19,.tmp 23]) rfl ?_); at_builtin; refine Kd.R_append k103 (w0:=w) w.heap.size rfl (.tmp 19) (.tmp 23) 104 103 (.agg #[(.int .i64 0),(.int .i64 0)]) 16 rfl Tryd.underlying104 info103 rfl (by decide) (by omega) u3 x3_2 (⟨x16_2,x10_1⟩:S103) [.int .i64 x16_2,.int .i64 x10_1] (fun _ => True) (fun _ => False) rfl rfl ?aP (fun _ hk => hk.elim) ?aF ?aO ?aB ?aS ?aL ?_; (case aP => exact k103_mkM _ _ _ (⟨x16_2,x10_1⟩:S103)); (case aB => exact (bl1_ HB.out GE736.out)); (case aF => exact (fun _ _ => trivial)); (case aO => exact (kr_ HO_3.out)); (case aS => exact (below_size (bl1_ HB.out GE736.out))); (case aL => have:=LMc9.out; omega); intro v741 w10 ho hb hg hat; rw [← Ny740.out] at ho; have n0_:=Aside0.mk (blk_grown (g:=gb736) (o:=.cells #[.int .i64 a0_0,.int .i64 a0_1] 49 (0,0)) (bk_ BK736.out) hg (Kd.R_ne HO_3.out BK736.out (by decide))); have n1_:=Aside0.mk (hb); have n2_:=Aside0.mk (ho); clear BK736; clear HB; clear HO_3; have BK736:=n0_; have HB:=n1_; have HO742:=n2_; clear n0_ n1_ n2_; clear ho hb hg hat))
        go_roundg k2
        case measure => have:=HK1.out; have:=HK2.out; omega
        case rel => exact ⟨(y740),(wrap64 (x16_2 + 1)),rs_,H',⟨by have:=HK1.out; have:=HK2.out; omega⟩,⟨kr_ HO742.out⟩,⟨bk_ BK736.out⟩,⟨bl1_ HB.out GE736.out⟩⟩
       ·rw [if_neg c9] at H
        exact absurd H (by simp)
      ·rw [if_neg c8] at H
       have c8b0:decide (x16_2 < (wrap64 (a0_0 + 1))) = false:=decide_eq_false c8
       clear c8
       have H':=Aside0.mk H
       clear H
       go_wp2
       go_roundg k2
       case measure => have:=HK1.out; have:=HK2.out; omega
       case rel => exact ⟨(x3_2),(wrap64 (x10_1 + 1)),rs_,H',⟨by have:=HK1.out; have:=HK2.out; omega⟩,⟨kr_ HO_3.out⟩,⟨bk_ BK736.out⟩,⟨bl1_ HB.out GE736.out⟩⟩
   ·rw [if_neg c6] at H
    have c6b0:decide (x10_1 < (wrap64 (a0_1 + 1))) = false:=decide_eq_false c6
    clear c6
    obtain rfl:=Option.some.inj H
    go_wp2
    go_ret
    exact ⟨_,er_,by (with_reducible repeat (first | apply Kd.R_alloc | apply Kd.R_drewN | apply Kd.R_drew)); exact HO_3.out,bl1_ HB.out GE736.out⟩


def MkR (e:Nat) (w:World) (base:Nat) (v:Value) (xs:List Int):Prop :=
  ∃ g c,v = .slice (some ⟨g,0,none⟩) xs.length c ∧ xs.length ≤ c ∧ base ≤ g ∧ xs.length ≤ 9223372036854775807 ∧ ∃ fr,w.heap[g]? = some (.cells (xs.map (Value.int .u8)).toArray e fr)
theorem MkR_slice {e:Nat} {w:World} {base:Nat} {v:Value} {xs:List Int} (h:MkR e w base v xs):∃ A c,v = .slice A xs.length c:=by
  obtain ⟨g,c,rfl,_⟩:=h
  exact ⟨_,_,rfl⟩
theorem MkR_lower {e:Nat} {w:World} {base base':Nat} {v:Value} {xs:List Int} (h:MkR e w base v xs) (hb:base' ≤ base):MkR e w base' v xs:=by
  obtain ⟨g,c,rfl,h1,h2,h3⟩:=h
  exact ⟨g,c,rfl,h1,Nat.le_trans hb h2,h3⟩
theorem MkR_step {e:Nat} {w w1:World} {base:Nat} {v:Value} {xs:List Int} (h:MkR e w base v xs) (hm:∀ k,k < w.heap.size → (∃ fr,w.heap[k]? = some (.cells (xs.map (Value.int .u8)).toArray e fr)) → w1.heap[k]? = w.heap[k]?):MkR e w1 base v xs:=by
  obtain ⟨g,c,rfl,h1,h2,h3,fr,h4⟩:=h
  have hlt:g < w.heap.size:=(Array.getElem?_eq_some_iff.1 h4).1
  exact ⟨g,c,rfl,h1,h2,h3,fr,(hm g hlt ⟨fr,h4⟩).trans h4⟩
theorem MkR_below {e:Nat} {w w1:World} {base:Nat} {v:Value} {xs:List Int} (h:MkR e w base v xs) (hb:Below w.heap.size w w1):MkR e w1 base v xs:=MkR_step h (fun k hk _ => hb.block k hk)
theorem MkR_alloc {e:Nat} {w:World} {base:Nat} {v:Value} {xs:List Int} (h:MkR e w base v xs) (o:Obj):MkR e (w.alloc o) base v xs:=MkR_below h (below_alloc (Below.refl _ _) o)
theorem MkR_drew {e:Nat} {w:World} {base:Nat} {v:Value} {xs:List Int} (h:MkR e w base v xs):MkR e w.drew base v xs:=MkR_below h (below_drew (Below.refl _ _))
theorem MkR_drewN {e:Nat} {w:World} {base:Nat} {v:Value} {xs:List Int} (h:MkR e w base v xs) (m:Nat):MkR e (w.drewN m) base v xs:=MkR_below h (pw_below_drewN (Below.refl _ _) m)
theorem MkR_over' {e e':Nat} {w w1:World} {base:Nat} {u v:Value} {xs:List Int} (h:MkR e w base u xs) (hty:∀ k,v.ownBlock = some k → ∃ cells,w.heap[k]? = some (.cells cells e' (0,0))) (ht:∀ q,q ∈ e :: ([]:List Nat) → q ≠ e') (hg:w.grownBy w1 v.ownBlock):MkR e w1 base u xs :=
  MkR_step h (fun k hk hc => hg.block k hk (fun he => by
    obtain ⟨cells',hc'⟩:=hty k he.symm
    obtain ⟨fr,hc⟩:=hc
    rw [hc] at hc'
    injection hc' with hc'
    injection hc' with _ hc'
    exact ht e (by simp) hc'))
theorem MkR_reads' {e:Nat} {w:World} {base:Nat} {xs:List Int} {A:Option Addr} {n c:Nat} (h:MkR e w base (.slice A n c) xs):n = xs.length ∧ n ≤ c ∧ Kd.C (Kd.int .u8) w A xs.length xs:=by
  obtain ⟨g,c',he,h1,h2,h3,fr,h4⟩:=h
  injection he with e1 e2 e3
  subst e1 e2 e3
  refine ⟨rfl,h1,Kd.C_of_reads (d:=(0:Int)) (h1:=fun _ => rfl) ⟨rfl,h3,fun _ => ⟨_,rfl,fun j hj => ?_⟩⟩⟩
  rw [add_plain]
  simp only [World.cell?,h4]
  simp [List.getElem?_eq_getElem hj,List.getD_eq_getElem?_getD]
theorem MkR_lit {P:Program} {ops:Array Oper} {Q:Exit → Act → World → Prop} {o o2:Oper} {rest:List Oper} {a:Act} {W:World} (e t:Nat) (ht:P.underlying t = some (.slice e)) (he:P.underlying e = some (.int .u8)) (hgd:o.guard = none) {N N2:Tmp} (_hd:o.dst = some N) {xs:List Int} {inner:List Value}
    (hin:inner = xs.map (Value.int .u8))
    (hrun:(execOp a.eval o).run P W = .ok (.value (.slice (some ⟨W.heap.size,0,none⟩) xs.length xs.length)) (W.alloc (.cells inner.toArray e)))
    (hgd2:o2.guard = none)
    (hrun2:(∀ n c,(convert t t (.slice (some ⟨W.heap.size,0,none⟩) n c)).run P (W.alloc (.cells inner.toArray e)) = .ok (.slice (some ⟨W.heap.size,0,none⟩) n c) (W.alloc (.cells inner.toArray e (xs.length,xs.length + 1)))) →
      (execOp (a.put o.dst (.slice (some ⟨W.heap.size,0,none⟩) xs.length xs.length)).eval o2).run P (W.alloc (.cells inner.toArray e)) = .ok (.value (.slice (some ⟨W.heap.size,0,none⟩) xs.length xs.length)) (W.alloc (.cells inner.toArray e (xs.length,xs.length + 1))))
    (hm:xs.length ≤ 9223372036854775807)
    (h:∀ v1 w1,MkR e w1 W.heap.size v1 xs → Below W.heap.size W w1 → W.grownBy w1 none → (∃ b,v1.ownBlock = some b ∧ W.heap.size ≤ b) → wpList P ops Q rest ((a.put o.dst v1).put o2.dst v1) w1):wpList P ops Q (o :: o2 :: rest) a W:=by
  subst hin
  refine Kd.event_run hgd hrun (Kd.event_run hgd2 (hrun2 (fun n c => ?_)) (h _ _ ⟨W.heap.size,xs.length,rfl,Nat.le_refl _,Nat.le_refl _,hm,(xs.length,xs.length + 1),heap_alloc_new W _⟩ (below_alloc (Below.refl _ _) _) (World.grownBy_alloc W _ none) ⟨W.heap.size,by simp [Value.ownBlock],Nat.le_refl _⟩))
  have:=Go.Lib.run_convert_bytes_const (P:=P) W t e (xs.map (Value.int .u8)).toArray n c ht he
  simpa using this
/- new variables in memory,read behind later ones -/
/- clear(s[i:]) on a row of the call's own -/

def impl_Corner_next.f (a0_0:Int) (a0_1:Int) (a1:Int):Option (Int × Int):=if a1 = 110 then (some (a0_0,wrap64 (a0_1 - 1))) else (if a1 = 101 then (some (wrap64 (a0_0 + 1),a0_1)) else (if a1 = 115 then (some (a0_0,wrap64 (a0_1 + 1))) else (some (wrap64 (a0_0 - 1),a0_1))))
set_option maxHeartbeats 8000000 in
set_option maxRecDepth 100000 in
theorem impl_Corner_next.calls (a0_0:Int) (a0_1:Int) (a1:Int) (r1:Int) (r2:Int) (w:World) (h:impl_Corner_next.f a0_0 a0_1 a1 = some (r1,r2)) :
  Calls Tryd.prog 108 #[.agg #[.int .i64 a0_0,.int .i64 a0_1],.int .u8 a1] w fun e w' => e = .returned (.agg #[.int .i64 r1,.int .i64 r2]) ∧ Below w.heap.size w w':=by
 have hu103:=Tryd.underlying103
 have HB:=Aside0.mk (Below.refl w.heap.size w)
 have H:(if a1 = 110 then (some (a0_0,wrap64 (a0_1 - 1))) else (if a1 = 101 then (some (wrap64 (a0_0 + 1),a0_1)) else (if a1 = 115 then (some (a0_0,wrap64 (a0_1 + 1))) else (some (wrap64 (a0_0 - 1),a0_1))))) = some (r1,r2):=h
 clear h
 by_cases c3:a1 = 110
 ·rw [if_pos c3] at H
  have c3b0:(a1 == 110) = true:=beq_iff_eq.mpr c3
  have c3b1:(a1 != 110) = false:=bne_eq_false_iff_eq.mpr c3
  clear c3
  simp only [Option.some.injEq,Prod.mk.injEq] at H
  obtain ⟨rfl,rfl⟩:=H
  go_enter Tryd.func108,Tryd.ntmps108
  go_wp2_with (first | ((with_reducible refine gate_dst (N:=2) rfl ?_); refine boxE_ (N:=2) (cs:=#[.int .i64 a0_0,.int .i64 a0_1]) (t:=103) ?_; intro gb743 hg w4 hbox hb; have n0_:=Aside0.mk (below_step (bl0_ HB.out) hb); have n1_:=Aside0.mk (hbox); have n2_:=Aside0.mk ((bs0_ hg HB.out:w.heap.size ≤ gb743)); have n3_:=Aside0.mk ((bs0_ hg HB.out:w.heap.size ≤ gb743)); clear HB; have HB:=n0_; have BK743:=n1_; have GW743:=n2_; have GE743:=n3_; clear n0_ n1_ n2_ n3_; clear hb hbox hg) | ((with_reducible refine gate_dst (N:=4) rfl ?_); refine boxE_ (N:=4) (cs:=#[.int .i64 0,.int .i64 0]) (t:=103) ?_; intro gb744 hg w5 hbox hb; have n0_:=Aside0.mk (bb_ BK743.out hb); have n1_:=Aside0.mk (below_step (bl1_ HB.out GE743.out) hb); have n2_:=Aside0.mk (hbox); have n3_:=Aside0.mk ((bs1_ hg HB.out GE743.out:w.heap.size ≤ gb744)); have n4_:=Aside0.mk ((bs1_ hg HB.out GE743.out:w.heap.size ≤ gb744)); have n5_:=Aside0.mk ((nl_ hg BK743.out:gb743 ≠ gb744)); have n6_:=Aside0.mk ((ng_ hg BK743.out:gb744 ≠ gb743)); clear BK743; clear HB; have BK743:=n0_; have HB:=n1_; have BK744:=n2_; have GW744:=n3_; have GE744:=n4_; have NB743_744:=n5_; have NB744_743:=n6_; clear n0_ n1_ n2_ n3_ n4_ n5_ n6_; clear hb hbox hg; have hnb6:=NB743_744.out; have hnc6:=NB744_743.out; have hcz7_0:w5.cell? ⟨gb743,0,none⟩ = some (.int .i64 a0_0):=(blk_cell BK743.out 0).trans rfl; have hcz7_1:w5.cell? ⟨gb743,1,none⟩ = some (.int .i64 a0_1):=(blk_cell BK743.out 1).trans rfl; have hfz7_0:=blk_frozen BK743.out 0; have hfz7_1:=blk_frozen BK743.out 1; have hcz8_0:w5.cell? ⟨gb744,0,none⟩ = some (.int .i64 0):=(blk_cell BK744.out 0).trans rfl; have hcz8_1:w5.cell? ⟨gb744,1,none⟩ = some (.int .i64 0):=(blk_cell BK744.out 1).trans rfl; have hfz8_0:=blk_frozen BK744.out 0; have hfz8_1:=blk_frozen BK744.out 1))
  refine bodyPost_ret (results_cell_row rfl _ _ gb744 103 #[.int .i64 a0_0,.int .i64 (wrap64 (a0_1 - 1))] (0,0) _ rfl (by (with_reducible repeat (first | refine blk_drewN ?_ _ | refine blk_drew ?_ | refine blk_alloc ?_ _)); refine blk_put (cs:=#[.int .i64 a0_0,.int .i64 0]) ?_ 1 _ rfl; (with_reducible repeat (first | refine blk_drewN ?_ _ | refine blk_drew ?_ | refine blk_alloc ?_ _)); refine blk_put (cs:=#[.int .i64 0,.int .i64 0]) ?_ 0 _ rfl; (with_reducible repeat (first | refine blk_drewN ?_ _ | refine blk_drew ?_ | refine blk_alloc ?_ _)); exact BK744.out) Tryd.underlying103 rfl (by kernel_rfl)) rfl ?_
  exact ⟨er_,bl2_ HB.out GE743.out GE744.out⟩
 ·rw [if_neg c3] at H
  have c3b0:(a1 == 110) = false:=beq_eq_false_iff_ne.mpr c3
  have c3b1:(a1 != 110) = true:=bne_iff_ne.mpr c3
  by_cases c9:a1 = 101
  ·rw [if_pos c9] at H
   have c9b0:(a1 == 101) = true:=beq_iff_eq.mpr c9
   have c9b1:(a1 != 101) = false:=bne_eq_false_iff_eq.mpr c9
   clear c9
   simp only [Option.some.injEq,Prod.mk.injEq] at H
   obtain ⟨rfl,rfl⟩:=H
   go_enter Tryd.func108,Tryd.ntmps108
   go_wp2_with (first | ((with_reducible refine gate_dst (N:=2) rfl ?_); refine boxE_ (N:=2) (cs:=#[.int .i64 a0_0,.int .i64 a0_1]) (t:=103) ?_; intro gb743 hg w10 hbox hb; have n0_:=Aside0.mk (below_step (bl0_ HB.out) hb); have n1_:=Aside0.mk (hbox); have n2_:=Aside0.mk ((bs0_ hg HB.out:w.heap.size ≤ gb743)); have n3_:=Aside0.mk ((bs0_ hg HB.out:w.heap.size ≤ gb743)); clear HB; have HB:=n0_; have BK743:=n1_; have GW743:=n2_; have GE743:=n3_; clear n0_ n1_ n2_ n3_; clear hb hbox hg) | ((with_reducible refine gate_dst (N:=4) rfl ?_); refine boxE_ (N:=4) (cs:=#[.int .i64 0,.int .i64 0]) (t:=103) ?_; intro gb744 hg w11 hbox hb; have n0_:=Aside0.mk (bb_ BK743.out hb); have n1_:=Aside0.mk (below_step (bl1_ HB.out GE743.out) hb); have n2_:=Aside0.mk (hbox); have n3_:=Aside0.mk ((bs1_ hg HB.out GE743.out:w.heap.size ≤ gb744)); have n4_:=Aside0.mk ((bs1_ hg HB.out GE743.out:w.heap.size ≤ gb744)); have n5_:=Aside0.mk ((nl_ hg BK743.out:gb743 ≠ gb744)); have n6_:=Aside0.mk ((ng_ hg BK743.out:gb744 ≠ gb743)); clear BK743; clear HB; have BK743:=n0_; have HB:=n1_; have BK744:=n2_; have GW744:=n3_; have GE744:=n4_; have NB743_744:=n5_; have NB744_743:=n6_; clear n0_ n1_ n2_ n3_ n4_ n5_ n6_; clear hb hbox hg; have hnb12:=NB743_744.out; have hnc12:=NB744_743.out; have hcz13_0:w11.cell? ⟨gb743,0,none⟩ = some (.int .i64 a0_0):=(blk_cell BK743.out 0).trans rfl; have hcz13_1:w11.cell? ⟨gb743,1,none⟩ = some (.int .i64 a0_1):=(blk_cell BK743.out 1).trans rfl; have hfz13_0:=blk_frozen BK743.out 0; have hfz13_1:=blk_frozen BK743.out 1; have hcz14_0:w11.cell? ⟨gb744,0,none⟩ = some (.int .i64 0):=(blk_cell BK744.out 0).trans rfl; have hcz14_1:w11.cell? ⟨gb744,1,none⟩ = some (.int .i64 0):=(blk_cell BK744.out 1).trans rfl; have hfz14_0:=blk_frozen BK744.out 0; have hfz14_1:=blk_frozen BK744.out 1))
   refine bodyPost_ret (results_cell_row rfl _ _ gb744 103 #[.int .i64 (wrap64 (a0_0 + 1)),.int .i64 a0_1] (0,0) _ rfl (by (with_reducible repeat (first | refine blk_drewN ?_ _ | refine blk_drew ?_ | refine blk_alloc ?_ _)); refine blk_put (cs:=#[.int .i64 (wrap64 (a0_0 + 1)),.int .i64 0]) ?_ 1 _ rfl; (with_reducible repeat (first | refine blk_drewN ?_ _ | refine blk_drew ?_ | refine blk_alloc ?_ _)); refine blk_put (cs:=#[.int .i64 0,.int .i64 0]) ?_ 0 _ rfl; (with_reducible repeat (first | refine blk_drewN ?_ _ | refine blk_drew ?_ | refine blk_alloc ?_ _)); exact BK744.out) Tryd.underlying103 rfl (by kernel_rfl)) rfl ?_
   exact ⟨er_,bl2_ HB.out GE743.out GE744.out⟩
  ·rw [if_neg c9] at H
   have c9b0:(a1 == 101) = false:=beq_eq_false_iff_ne.mpr c9
   have c9b1:(a1 != 101) = true:=bne_iff_ne.mpr c9
   by_cases c15:a1 = 115
   ·rw [if_pos c15] at H
    have c15b0:(a1 == 115) = true:=beq_iff_eq.mpr c15
    have c15b1:(a1 != 115) = false:=bne_eq_false_iff_eq.mpr c15
    clear c15
    simp only [Option.some.injEq,Prod.mk.injEq] at H
    obtain ⟨rfl,rfl⟩:=H
    go_enter Tryd.func108,Tryd.ntmps108
    go_wp2_with (first | ((with_reducible refine gate_dst (N:=2) rfl ?_); refine boxE_ (N:=2) (cs:=#[.int .i64 a0_0,.int .i64 a0_1]) (t:=103) ?_; intro gb743 hg w16 hbox hb; have n0_:=Aside0.mk (below_step (bl0_ HB.out) hb); have n1_:=Aside0.mk (hbox); have n2_:=Aside0.mk ((bs0_ hg HB.out:w.heap.size ≤ gb743)); have n3_:=Aside0.mk ((bs0_ hg HB.out:w.heap.size ≤ gb743)); clear HB; have HB:=n0_; have BK743:=n1_; have GW743:=n2_; have GE743:=n3_; clear n0_ n1_ n2_ n3_; clear hb hbox hg) | ((with_reducible refine gate_dst (N:=4) rfl ?_); refine boxE_ (N:=4) (cs:=#[.int .i64 0,.int .i64 0]) (t:=103) ?_; intro gb744 hg w17 hbox hb; have n0_:=Aside0.mk (bb_ BK743.out hb); have n1_:=Aside0.mk (below_step (bl1_ HB.out GE743.out) hb); have n2_:=Aside0.mk (hbox); have n3_:=Aside0.mk ((bs1_ hg HB.out GE743.out:w.heap.size ≤ gb744)); have n4_:=Aside0.mk ((bs1_ hg HB.out GE743.out:w.heap.size ≤ gb744)); have n5_:=Aside0.mk ((nl_ hg BK743.out:gb743 ≠ gb744)); have n6_:=Aside0.mk ((ng_ hg BK743.out:gb744 ≠ gb743)); clear BK743; clear HB; have BK743:=n0_; have HB:=n1_; have BK744:=n2_; have GW744:=n3_; have GE744:=n4_; have NB743_744:=n5_; have NB744_743:=n6_; clear n0_ n1_ n2_ n3_ n4_ n5_ n6_; clear hb hbox hg; have hnb18:=NB743_744.out; have hnc18:=NB744_743.out; have hcz19_0:w17.cell? ⟨gb743,0,none⟩ = some (.int .i64 a0_0):=(blk_cell BK743.out 0).trans rfl; have hcz19_1:w17.cell? ⟨gb743,1,none⟩ = some (.int .i64 a0_1):=(blk_cell BK743.out 1).trans rfl; have hfz19_0:=blk_frozen BK743.out 0; have hfz19_1:=blk_frozen BK743.out 1; have hcz20_0:w17.cell? ⟨gb744,0,none⟩ = some (.int .i64 0):=(blk_cell BK744.out 0).trans rfl; have hcz20_1:w17.cell? ⟨gb744,1,none⟩ = some (.int .i64 0):=(blk_cell BK744.out 1).trans rfl; have hfz20_0:=blk_frozen BK744.out 0; have hfz20_1:=blk_frozen BK744.out 1))
    refine bodyPost_ret (results_cell_row rfl _ _ gb744 103 #[.int .i64 a0_0,.int .i64 (wrap64 (a0_1 + 1))] (0,0) _ rfl (by (with_reducible repeat (first | refine blk_drewN ?_ _ | refine blk_drew ?_ | refine blk_alloc ?_ _)); refine blk_put (cs:=#[.int .i64 a0_0,.int .i64 0]) ?_ 1 _ rfl; (with_reducible repeat (first | refine blk_drewN ?_ _ | refine blk_drew ?_ | refine blk_alloc ?_ _)); refine blk_put (cs:=#[.int .i64 0,.int .i64 0]) ?_ 0 _ rfl; (with_reducible repeat (first | refine blk_drewN ?_ _ | refine blk_drew ?_ | refine blk_alloc ?_ _)); exact BK744.out) Tryd.underlying103 rfl (by kernel_rfl)) rfl ?_
    exact ⟨er_,bl2_ HB.out GE743.out GE744.out⟩
   ·rw [if_neg c15] at H
    have c15b0:(a1 == 115) = false:=beq_eq_false_iff_ne.mpr c15
    have c15b1:(a1 != 115) = true:=bne_iff_ne.mpr c15
    simp only [Option.some.injEq,Prod.mk.injEq] at H
    obtain ⟨rfl,rfl⟩:=H
    go_enter Tryd.func108,Tryd.ntmps108
    go_wp2_with (first | ((with_reducible refine gate_dst (N:=2) rfl ?_); refine boxE_ (N:=2) (cs:=#[.int .i64 a0_0,.int .i64 a0_1]) (t:=103) ?_; intro gb743 hg w21 hbox hb; have n0_:=Aside0.mk (below_step (bl0_ HB.out) hb); have n1_:=Aside0.mk (hbox); have n2_:=Aside0.mk ((bs0_ hg HB.out:w.heap.size ≤ gb743)); have n3_:=Aside0.mk ((bs0_ hg HB.out:w.heap.size ≤ gb743)); clear HB; have HB:=n0_; have BK743:=n1_; have GW743:=n2_; have GE743:=n3_; clear n0_ n1_ n2_ n3_; clear hb hbox hg) | ((with_reducible refine gate_dst (N:=4) rfl ?_); refine boxE_ (N:=4) (cs:=#[.int .i64 0,.int .i64 0]) (t:=103) ?_; intro gb744 hg w22 hbox hb; have n0_:=Aside0.mk (bb_ BK743.out hb); have n1_:=Aside0.mk (below_step (bl1_ HB.out GE743.out) hb); have n2_:=Aside0.mk (hbox); have n3_:=Aside0.mk ((bs1_ hg HB.out GE743.out:w.heap.size ≤ gb744)); have n4_:=Aside0.mk ((bs1_ hg HB.out GE743.out:w.heap.size ≤ gb744)); have n5_:=Aside0.mk ((nl_ hg BK743.out:gb743 ≠ gb744)); have n6_:=Aside0.mk ((ng_ hg BK743.out:gb744 ≠ gb743)); clear BK743; clear HB; have BK743:=n0_; have HB:=n1_; have BK744:=n2_; have GW744:=n3_; have GE744:=n4_; have NB743_744:=n5_; have NB744_743:=n6_; clear n0_ n1_ n2_ n3_ n4_ n5_ n6_; clear hb hbox hg; have hnb23:=NB743_744.out; have hnc23:=NB744_743.out; have hcz24_0:w22.cell? ⟨gb743,0,none⟩ = some (.int .i64 a0_0):=(blk_cell BK743.out 0).trans rfl; have hcz24_1:w22.cell? ⟨gb743,1,none⟩ = some (.int .i64 a0_1):=(blk_cell BK743.out 1).trans rfl; have hfz24_0:=blk_frozen BK743.out 0; have hfz24_1:=blk_frozen BK743.out 1; have hcz25_0:w22.cell? ⟨gb744,0,none⟩ = some (.int .i64 0):=(blk_cell BK744.out 0).trans rfl; have hcz25_1:w22.cell? ⟨gb744,1,none⟩ = some (.int .i64 0):=(blk_cell BK744.out 1).trans rfl; have hfz25_0:=blk_frozen BK744.out 0; have hfz25_1:=blk_frozen BK744.out 1))
    refine bodyPost_ret (results_cell_row rfl _ _ gb744 103 #[.int .i64 (wrap64 (a0_0 - 1)),.int .i64 a0_1] (0,0) _ rfl (by (with_reducible repeat (first | refine blk_drewN ?_ _ | refine blk_drew ?_ | refine blk_alloc ?_ _)); refine blk_put (cs:=#[.int .i64 (wrap64 (a0_0 - 1)),.int .i64 0]) ?_ 1 _ rfl; (with_reducible repeat (first | refine blk_drewN ?_ _ | refine blk_drew ?_ | refine blk_alloc ?_ _)); refine blk_put (cs:=#[.int .i64 0,.int .i64 0]) ?_ 0 _ rfl; (with_reducible repeat (first | refine blk_drewN ?_ _ | refine blk_drew ?_ | refine blk_alloc ?_ _)); exact BK744.out) Tryd.underlying103 rfl (by kernel_rfl)) rfl ?_
    exact ⟨er_,bl2_ HB.out GE743.out GE744.out⟩


def impl_grid_level.f (a0_0:Int) (a0_1:Int) (a1:Int) (a2:Int):Option (Int):=if 0 ≤ (wrap64 ((wrap64 (a2 * a0_0)) + a1)) then (some (shl .u64 1 (wrap64 ((wrap64 (a2 * a0_0)) + a1)))) else (none)
set_option maxHeartbeats 8000000 in
set_option maxRecDepth 100000 in
theorem impl_grid_level.calls (a0_0:Int) (a0_1:Int) (a1:Int) (a2:Int) (r:Int) (w:World) (h:impl_grid_level.f a0_0 a0_1 a1 a2 = some r) :
    Calls Tryd.prog 80 #[.agg #[.int .i64 a0_0,.int .i64 a0_1],.int .i64 a1,.int .i64 a2] w fun e w' => e = .returned (.int .u64 r) ∧ Below w.heap.size w w':=by
  have hu49:=Tryd.underlying49
  have HB:=Aside0.mk (Below.refl w.heap.size w)
  have H:(if 0 ≤ (wrap64 ((wrap64 (a2 * a0_0)) + a1)) then (some (shl .u64 1 (wrap64 ((wrap64 (a2 * a0_0)) + a1)))) else (none)) = some r:=h
  clear h
  obtain ⟨ji4,hji4⟩:∃ j_:Int,(wrap64 ((wrap64 (a2 * a0_0)) + a1)) = j_:=⟨_,rfl⟩
  replace H:(if 0 ≤ (ji4) then (some (shl .u64 1 (ji4))) else (none)) = some r:=by first | (rw [hji4] at H; exact H) | (simp only [hji4] at H ⊢; exact H)
  have hji4w:(IntKind.i64.wrap ((wrap64 (a2 * a0_0)) + a1)) = ji4:=(i64_w _).trans hji4
  by_cases c5:0 ≤ (ji4)
  · rw [if_pos c5] at H
    have c5b0:=eq_true c5
    have c5b1:decide (0 ≤ (ji4)) = true:=decide_eq_true c5
    clear c5
    obtain ⟨ji6,hji6⟩:∃ j_:Int,(shl .u64 1 (ji4)) = j_:=⟨_,rfl⟩
    replace H:(some ji6) = some r:=by first | (rw [hji6] at H; exact H) | (simp only [hji6] at H ⊢; exact H)
    have hji6_:(IntKind.u64.wrap (1 * 2 ^ min (ji4).toNat 64)) = ji6:=hji6
    have hji6z:(ji4) ≤ 64 → (IntKind.u64.wrap (1 * 2 ^ (ji4).toNat)) = ji6:=shl_small hji6
    have hji6u:(IntKind.u64.wrap (2 ^ min (ji4).toNat 64)) = ji6:=by have h_:=hji6_; rw [Int.one_mul] at h_; exact h_
    have hji6v:(ji4) ≤ 64 → (IntKind.u64.wrap (2 ^ (ji4).toNat)) = ji6:=fun hle_ => by have h_:=hji6z hle_; rw [Int.one_mul] at h_; exact h_
    obtain rfl:=Option.some.inj H
    go_enter Tryd.func80,Tryd.ntmps80
    go_wp2_with (first | ((with_reducible refine gate_dst (N:=3) rfl ?_); refine boxE_ (N:=3) (cs:=#[.int .i64 a0_0,.int .i64 a0_1]) (t:=49) ?_; intro gb422 hg w7 hbox hb; have n0_:=Aside0.mk (below_step (bl0_ HB.out) hb); have n1_:=Aside0.mk (hbox); have n2_:=Aside0.mk ((bs0_ hg HB.out:w.heap.size ≤ gb422)); have n3_:=Aside0.mk ((bs0_ hg HB.out:w.heap.size ≤ gb422)); clear HB; have HB:=n0_; have BK422:=n1_; have GW422:=n2_; have GE422:=n3_; clear n0_ n1_ n2_ n3_; clear hb hbox hg; have hcz8_0:w7.cell? ⟨gb422,0,none⟩ = some (.int .i64 a0_0):=(blk_cell BK422.out 0).trans rfl; have hcz8_1:w7.cell? ⟨gb422,1,none⟩ = some (.int .i64 a0_1):=(blk_cell BK422.out 1).trans rfl; have hfz8_0:=blk_frozen BK422.out 0; have hfz8_1:=blk_frozen BK422.out 1))
    go_ret
    exact ⟨by first | rfl | (simp [errW_none,errW_some] <;> rfl) | (simp only [← hji4,← hji6]; first | rfl | (simp [errW_none,errW_some] <;> rfl)) | (simp [*,errW_none,errW_some] <;> rfl),bl1_ HB.out GE422.out⟩
  · rw [if_neg c5] at H
    exact absurd H (by simp)


def impl_grid_upright.f (a0_0:Int) (a0_1:Int) (a1:Int) (a2:Int):Option (Int):=(impl_grid_levels.f a0_0 a0_1).bind fun t424 => (if 0 ≤ (wrap64 ((wrap64 (t424 + (wrap64 (a2 * (wrap64 (a0_0 + 1)))))) + a1)) then (some (shl .u64 1 (wrap64 ((wrap64 (t424 + (wrap64 (a2 * (wrap64 (a0_0 + 1)))))) + a1)))) else (none))
def impl_grid_upright.T1:Bool × List (List Nat × List Nat):=(true,[([],[]),([0],[0]),([],[]),([],[]),([3],[3]),([4],[4]),([2,5],[2,5]),([1,6],[1,6]),([],[]),([7,8],[7,8]),([9],[9]),([10,1,0,1,2,3,4,5,6,7,8,9,10],[10])])
def impl_grid_upright.B1:List Nat:=[0,1,0,0,8,24,60,127,0,511,1023,2047]
theorem impl_grid_upright.tab1:rtab .any (opsOf Tryd.f81 1) = impl_grid_upright.T1:=by kernel_rfl
theorem impl_grid_upright.bits1:waitsOk impl_grid_upright.T1.2 impl_grid_upright.B1 = true:=by kernel_rfl
set_option maxHeartbeats 8000000 in
set_option maxRecDepth 100000 in
theorem impl_grid_upright.calls (a0_0:Int) (a0_1:Int) (a1:Int) (a2:Int) (r:Int) (w:World) (h:impl_grid_upright.f a0_0 a0_1 a1 a2 = some r) :
  Calls Tryd.prog 81 #[.agg #[.int .i64 a0_0,.int .i64 a0_1],.int .i64 a1,.int .i64 a2] w fun e w' => e = .returned (.int .u64 r) ∧ Below w.heap.size w w':=by
 have hu49:=Tryd.underlying49
 have HB:=Aside0.mk (Below.refl w.heap.size w)
 have H:((impl_grid_levels.f a0_0 a0_1).bind fun t424 => (if 0 ≤ (wrap64 ((wrap64 (t424 + (wrap64 (a2 * (wrap64 (a0_0 + 1)))))) + a1)) then (some (shl .u64 1 (wrap64 ((wrap64 (t424 + (wrap64 (a2 * (wrap64 (a0_0 + 1)))))) + a1)))) else (none))) = some r:=h
 clear h
 replace H:=Option.bind_eq_some_iff.mp H
 obtain ⟨t424,A40,H⟩:=H
 replace H:(if 0 ≤ (wrap64 ((wrap64 (t424 + (wrap64 (a2 * (wrap64 (a0_0 + 1)))))) + a1)) then (some (shl .u64 1 (wrap64 ((wrap64 (t424 + (wrap64 (a2 * (wrap64 (a0_0 + 1)))))) + a1)))) else (none)) = some r:=H
 have A4:=Aside0.mk A40
 clear A40
 obtain ⟨ji5,hji5⟩:∃ j_:Int,(wrap64 ((wrap64 (t424 + (wrap64 (a2 * (wrap64 (a0_0 + 1)))))) + a1)) = j_:=⟨_,rfl⟩
 replace H:(if 0 ≤ (ji5) then (some (shl .u64 1 (ji5))) else (none)) = some r:=by first | (rw [hji5] at H; exact H) | (simp only [hji5] at H ⊢; exact H)
 (try rw [hji5] at A4)
 have hji5w:(IntKind.i64.wrap ((wrap64 (t424 + (wrap64 (a2 * (wrap64 (a0_0 + 1)))))) + a1)) = ji5:=(i64_w _).trans hji5
 by_cases c6:0 ≤ (ji5)
 ·rw [if_pos c6] at H
  have c6b0:=eq_true c6
  have c6b1:decide (0 ≤ (ji5)) = true:=decide_eq_true c6
  clear c6
  obtain ⟨ji7,hji7⟩:∃ j_:Int,(shl .u64 1 (ji5)) = j_:=⟨_,rfl⟩
  replace H:(some ji7) = some r:=by first | (rw [hji7] at H; exact H) | (simp only [hji7] at H ⊢; exact H)
  (try rw [hji7] at A4)
  have hji7_:(IntKind.u64.wrap (1 * 2 ^ min (ji5).toNat 64)) = ji7:=hji7
  have hji7z:(ji5) ≤ 64 → (IntKind.u64.wrap (1 * 2 ^ (ji5).toNat)) = ji7:=shl_small hji7
  have hji7u:(IntKind.u64.wrap (2 ^ min (ji5).toNat 64)) = ji7:=by have h_:=hji7_; rw [Int.one_mul] at h_; exact h_
  have hji7v:(ji5) ≤ 64 → (IntKind.u64.wrap (2 ^ (ji5).toNat)) = ji7:=fun hle_ => by have h_:=hji7z hle_; rw [Int.one_mul] at h_; exact h_
  obtain rfl:=Option.some.inj H
  go_enter Tryd.func81,Tryd.ntmps81
  try go_wp2_with (first | ((with_reducible refine gate_dst (N:=3) rfl ?_); refine boxE_ (N:=3) (cs:=#[.int .i64 a0_0,.int .i64 a0_1]) (t:=49) ?_; intro gb423 hg w8 hbox hb; have n0_:=Aside0.mk (below_step (bl0_ HB.out) hb); have n1_:=Aside0.mk (hbox); have n2_:=Aside0.mk ((bs0_ hg HB.out:w.heap.size ≤ gb423)); have n3_:=Aside0.mk ((bs0_ hg HB.out:w.heap.size ≤ gb423)); clear HB; have HB:=n0_; have BK423:=n1_; have GW423:=n2_; have GE423:=n3_; clear n0_ n1_ n2_ n3_; clear hb hbox hg))
  have n0_:=Aside0.mk (blk_drew BK423.out)
  have n1_:=Aside0.mk (below_drew1 HB.out)
  clear BK423
  clear HB
  have BK423:=n0_
  have HB:=n1_
  clear n0_ n1_
  refine start_ (n:=12) (S:=fun w' => w'.cell? ⟨gb423,0,none⟩ = some (.int .i64 a0_0) ∧ w'.cell? ⟨gb423,1,none⟩ = some (.int .i64 a0_1)) (ds:=[]) #[false,false,false,false,false,false,false,false,false,false,false,false] (by kernel_rfl) rfl rfl ⟨(blk_cell BK423.out 0).trans rfl,(blk_cell BK423.out 1).trans rfl⟩ (fun hHeld => ?_); refine with_tabW impl_grid_upright.tab1 impl_grid_upright.bits1 (fun HT_ HW_ => ?_)
  generalize w8.drew = w9 at BK423 HB hHeld ⊢
  refine pure_ (i:=2) (N:=some 9) (v:=?_) (a':=?_) #[false,false,true,false,false,false,false,false,false,false,false,false] rfl rfl (any_of HT_.out (by kernel_rfl)) (fun _ _ _ h => h) (Or.inl ⟨by rfl,?_⟩) ?_ ?_
  rotate_left
  ·intro w'
   go_simp
   with_reducible rfl
  rotate_left
  ·simp only [Act.put,List.setIfInBounds_toArray,List.set_cons_zero,List.set_cons_succ,i64_w,i32_w]
   rfl
  refine pure_ (i:=3) (N:=some 10) (v:=?_) (a':=?_) #[false,false,true,true,false,false,false,false,false,false,false,false] rfl rfl (any_of HT_.out (by kernel_rfl)) (fun _ _ _ h => h) (Or.inl ⟨by rfl,?_⟩) ?_ ?_
  rotate_left
  ·intro w'
   go_simp
   with_reducible rfl
  rotate_left
  ·simp only [Act.put,List.setIfInBounds_toArray,List.set_cons_zero,List.set_cons_succ,i64_w,i32_w]
   rfl
  refine pure_ (i:=8) (N:=some 15) (v:=?_) (a':=?_) #[false,false,true,true,false,false,false,false,true,false,false,false] rfl rfl (any_of HT_.out (by kernel_rfl)) (fun _ _ _ h => h) (Or.inl ⟨by rfl,?_⟩) ?_ ?_
  rotate_left
  ·intro w'
   go_simp
   with_reducible rfl
  rotate_left
  ·simp only [Act.put,List.setIfInBounds_toArray,List.set_cons_zero,List.set_cons_succ,i64_w,i32_w]
   rfl
  refine take_ (i:=0) (N:=some 7) (v:=?_) (a':=?_) #[true,false,true,true,false,false,false,false,true,false,false,false] rfl rfl (take_ofW HT_.out HW_.out (by kernel_rfl)) (fun _ _ _ h => h) (Or.inl ⟨by rfl,?_⟩) hHeld ?_ ?_
  rotate_left
  ·rintro w' ⟨s0,s1⟩
   go_simp
   with_reducible rfl
  rotate_left
  ·simp only [Act.put,List.setIfInBounds_toArray,List.set_cons_zero,List.set_cons_succ,i64_w,i32_w]
   rfl
  refine take_ (i:=4) (N:=some 11) (v:=?_) (a':=?_) #[true,false,true,true,true,false,false,false,true,false,false,false] rfl rfl (take_ofW HT_.out HW_.out (by kernel_rfl)) (fun _ _ _ h => h) (Or.inl ⟨by rfl,?_⟩) hHeld ?_ ?_
  rotate_left
  ·rintro w' ⟨s0,s1⟩
   go_simp
   with_reducible rfl
  rotate_left
  ·simp only [Act.put,List.setIfInBounds_toArray,List.set_cons_zero,List.set_cons_succ,i64_w,i32_w]
   rfl
  refine pure_ (i:=5) (N:=some 12) (v:=?_) (a':=?_) #[true,false,true,true,true,true,false,false,true,false,false,false] rfl rfl (any_of HT_.out (by kernel_rfl)) (fun _ _ _ h => h) (Or.inl ⟨by rfl,?_⟩) ?_ ?_
  rotate_left
  ·intro w'
   go_simp
   with_reducible rfl
  rotate_left
  ·simp only [Act.put,List.setIfInBounds_toArray,List.set_cons_zero,List.set_cons_succ,i64_w,i32_w]
   rfl
  refine pure_ (i:=6) (N:=some 13) (v:=?_) (a':=?_) #[true,false,true,true,true,true,true,false,true,false,false,false] rfl rfl (any_of HT_.out (by kernel_rfl)) (fun _ _ _ h => h) (Or.inl ⟨by rfl,?_⟩) ?_ ?_
  rotate_left
  ·intro w'
   go_simp
   with_reducible rfl
  rotate_left
  ·simp only [Act.put,List.setIfInBounds_toArray,List.set_cons_zero,List.set_cons_succ,i64_w,i32_w]
   rfl
  refine one_ (i:=1) (N:=some 8) #[true,true,true,true,true,true,true,false,true,false,false,false] rfl rfl (one_of HT_.out (by kernel_rfl)) (by decide) (fun K hK => ?_)
  refine goes_ Tryd.func70 (by kernel_rfl) rfl #[.agg #[.int .i64 a0_0,.int .i64 a0_1]] (by rfl) rfl rfl ob_ ?_
  with_reducible refine (impl_grid_levels.calls a0_0 a0_1 t424 _ A4.out).mono ?_
  rintro e w10 ⟨rfl,hb⟩
  refine ⟨_,rfl,?_⟩
  have n0_:=Aside0.mk (bb_ BK423.out hb)
  have n1_:=Aside0.mk (below_step (bl1_ HB.out GE423.out) hb)
  clear BK423
  clear HB
  have BK423:=n0_
  have HB:=n1_
  clear n0_ n1_
  (try clear hb)
  (try clear hb2)
  (try clear hk)
  (try clear hi)
  refine hK.out _ _ ⟨(blk_cell BK423.out 0).trans rfl,(blk_cell BK423.out 1).trans rfl⟩ (fun hHeld => ?_)
  clear hK K
  refine norm_ (a':=?_) ?_ ?_
  rotate_left
  ·show Act.put _ (some 8) _ = _
   simp only [Act.put,List.setIfInBounds_toArray,List.set_cons_zero,List.set_cons_succ,i64_w,i32_w]
   rfl
  refine pure_ (i:=7) (N:=some 14) (v:=?_) (a':=?_) #[true,true,true,true,true,true,true,true,true,false,false,false] rfl rfl (any_of HT_.out (by kernel_rfl)) (fun _ _ _ h => h) (Or.inl ⟨by rfl,?_⟩) ?_ ?_
  rotate_left
  ·intro w'
   go_simp
   with_reducible rfl
  rotate_left
  ·simp only [Act.put,List.setIfInBounds_toArray,List.set_cons_zero,List.set_cons_succ,i64_w,i32_w]
   rfl
  refine pure_ (i:=9) (N:=some 16) (v:=?_) (a':=?_) #[true,true,true,true,true,true,true,true,true,true,false,false] rfl rfl (any_of HT_.out (by kernel_rfl)) (fun _ _ _ h => h) (Or.inl ⟨by rfl,?_⟩) ?_ ?_
  rotate_left
  ·intro w'
   go_simp
   with_reducible rfl
  rotate_left
  ·simp only [Act.put,List.setIfInBounds_toArray,List.set_cons_zero,List.set_cons_succ,i64_w,i32_w]
   rfl
  refine pure_ (i:=10) (N:=some 17) (v:=?_) (a':=?_) #[true,true,true,true,true,true,true,true,true,true,true,false] rfl rfl (any_of HT_.out (by kernel_rfl)) (fun _ _ _ h => h) (Or.inl ⟨by rfl,?_⟩) ?_ ?_
  rotate_left
  ·intro w'
   go_simp
   with_reducible rfl
  rotate_left
  ·simp only [Act.put,List.setIfInBounds_toArray,List.set_cons_zero,List.set_cons_succ,i64_w,i32_w]
   rfl
  refine pure_ (i:=11) (N:=some 6) (v:=?_) (a':=?_) #[true,true,true,true,true,true,true,true,true,true,true,true] rfl rfl (any_of HT_.out (by kernel_rfl)) (fun _ _ _ h => h) (Or.inl ⟨by rfl,?_⟩) ?_ ?_
  rotate_left
  ·intro w'
   go_simp
   with_reducible rfl
  rotate_left
  ·simp only [Act.put,List.setIfInBounds_toArray,List.set_cons_zero,List.set_cons_succ,i64_w,i32_w]
   rfl
  refine done_ (done_of HT_.out (by kernel_rfl)) ?_
  try go_wp2
  go_ret
  exact ⟨by first | rfl | (simp [errW_none,errW_some] <;> rfl) | (simp only [← hji5,← hji7]; first | rfl | (simp [errW_none,errW_some] <;> rfl)) | (simp [*,errW_none,errW_some] <;> rfl),bl1_ HB.out GE423.out⟩
 ·rw [if_neg c6] at H
  exact absurd H (by simp)


def impl_grid_isCorner.f (a0_0:Int) (a0_1:Int) (a1_0:Int) (a1_1:Int):Option (Bool):=(impl_within.f a1_0 0 a0_0).bind fun t747 => (if t747 = true then ((impl_within.f a1_1 0 a0_1).bind fun t748 => (some t748)) else (some false))
set_option maxHeartbeats 8000000 in
set_option maxRecDepth 100000 in
theorem impl_grid_isCorner.calls (a0_0:Int) (a0_1:Int) (a1_0:Int) (a1_1:Int) (r:Bool) (w:World) (h:impl_grid_isCorner.f a0_0 a0_1 a1_0 a1_1 = some r) :
    Calls Tryd.prog 111 #[.agg #[.int .i64 a0_0,.int .i64 a0_1],.agg #[.int .i64 a1_0,.int .i64 a1_1]] w fun e w' => e = .returned (.bool r) ∧ Below w.heap.size w w':=by
  have hu49:=Tryd.underlying49
  have hu103:=Tryd.underlying103
  have HB:=Aside0.mk (Below.refl w.heap.size w)
  have H:((impl_within.f a1_0 0 a0_0).bind fun t747 => (if t747 = true then ((impl_within.f a1_1 0 a0_1).bind fun t748 => (some t748)) else (some false))) = some r:=h
  clear h
  replace H:=Option.bind_eq_some_iff.mp H
  obtain ⟨t747,A30,H⟩:=H
  replace H:(if t747 = true then ((impl_within.f a1_1 0 a0_1).bind fun t748 => (some t748)) else (some false)) = some r:=H
  have A3:=Aside0.mk A30
  clear A30
  by_cases c4:t747 = true
  · subst c4
    have H1:((impl_within.f a1_1 0 a0_1).bind fun t748 => (some t748)) = some r:=by rw [if_pos rfl] at H; exact H
    clear H
    have H:=H1
    clear H1
    replace H:=Option.bind_eq_some_iff.mp H
    obtain ⟨t748,A50,H⟩:=H
    replace H:(some t748) = some r:=H
    have A5:=Aside0.mk A50
    clear A50
    obtain rfl:=Option.some.inj H
    go_enter Tryd.func111,Tryd.ntmps111
    go_wp2_with (first | ((with_reducible refine gate_dst (N:=2) rfl ?_); refine boxE_ (N:=2) (cs:=#[.int .i64 a0_0,.int .i64 a0_1]) (t:=49) ?_; intro gb745 hg w6 hbox hb; have n0_:=Aside0.mk (below_step (bl0_ HB.out) hb); have n1_:=Aside0.mk (hbox); have n2_:=Aside0.mk ((bs0_ hg HB.out:w.heap.size ≤ gb745)); have n3_:=Aside0.mk ((bs0_ hg HB.out:w.heap.size ≤ gb745)); clear HB; have HB:=n0_; have BK745:=n1_; have GW745:=n2_; have GE745:=n3_; clear n0_ n1_ n2_ n3_; clear hb hbox hg) | ((with_reducible refine gate_dst (N:=3) rfl ?_); refine boxE_ (N:=3) (cs:=#[.int .i64 a1_0,.int .i64 a1_1]) (t:=103) ?_; intro gb746 hg w7 hbox hb; have n0_:=Aside0.mk (bb_ BK745.out hb); have n1_:=Aside0.mk (below_step (bl1_ HB.out GE745.out) hb); have n2_:=Aside0.mk (hbox); have n3_:=Aside0.mk ((bs1_ hg HB.out GE745.out:w.heap.size ≤ gb746)); have n4_:=Aside0.mk ((bs1_ hg HB.out GE745.out:w.heap.size ≤ gb746)); have n5_:=Aside0.mk ((nl_ hg BK745.out:gb745 ≠ gb746)); have n6_:=Aside0.mk ((ng_ hg BK745.out:gb746 ≠ gb745)); clear BK745; clear HB; have BK745:=n0_; have HB:=n1_; have BK746:=n2_; have GW746:=n3_; have GE746:=n4_; have NB745_746:=n5_; have NB746_745:=n6_; clear n0_ n1_ n2_ n3_ n4_ n5_ n6_; clear hb hbox hg; have hnb8:=NB746_745.out; have hnc8:=NB745_746.out; have hcz9_0:w7.cell? ⟨gb746,0,none⟩ = some (.int .i64 a1_0):=(blk_cell BK746.out 0).trans rfl; have hcz9_1:w7.cell? ⟨gb746,1,none⟩ = some (.int .i64 a1_1):=(blk_cell BK746.out 1).trans rfl; have hfz9_0:=blk_frozen BK746.out 0; have hfz9_1:=blk_frozen BK746.out 1; have hcz10_0:w7.cell? ⟨gb745,0,none⟩ = some (.int .i64 a0_0):=(blk_cell BK745.out 0).trans rfl; have hcz10_1:w7.cell? ⟨gb745,1,none⟩ = some (.int .i64 a0_1):=(blk_cell BK745.out 1).trans rfl; have hfz10_0:=blk_frozen BK745.out 0; have hfz10_1:=blk_frozen BK745.out 1) | ((with_reducible refine gate_callee (f:=79) rfl ?_); refine goesL_ (some 9) rfl rfl Tryd.func79 (by kernel_rfl) rfl #[.int .i64 a1_0,.int .i64 0,.int .i64 a0_0] rfl ob_ ?_; (with_reducible refine (impl_within.calls a1_0 0 a0_0 true _ A3.out).mono ?_); rintro e w' ⟨rfl,⟨nd,rfl⟩⟩; refine ⟨_,rfl,?_⟩) | (go_at_call 79; (with_reducible refine (impl_within.calls a1_1 0 a0_1 t748 _ A5.out).mono ?_); rintro e w' ⟨rfl,⟨nd,rfl⟩⟩))
    go_ret
    exact ⟨er_,bl2_ HB.out GE745.out GE746.out⟩
  · replace c4:=Bool.eq_false_iff.mpr c4
    subst c4
    have H1:(some false) = some r:=by rw [if_neg (show ¬ (false = true) by decide)] at H; exact H
    clear H
    have H:=H1
    clear H1
    obtain rfl:=Option.some.inj H
    go_enter Tryd.func111,Tryd.ntmps111
    go_wp2_with (first | ((with_reducible refine gate_dst (N:=2) rfl ?_); refine boxE_ (N:=2) (cs:=#[.int .i64 a0_0,.int .i64 a0_1]) (t:=49) ?_; intro gb745 hg w11 hbox hb; have n0_:=Aside0.mk (below_step (bl0_ HB.out) hb); have n1_:=Aside0.mk (hbox); have n2_:=Aside0.mk ((bs0_ hg HB.out:w.heap.size ≤ gb745)); have n3_:=Aside0.mk ((bs0_ hg HB.out:w.heap.size ≤ gb745)); clear HB; have HB:=n0_; have BK745:=n1_; have GW745:=n2_; have GE745:=n3_; clear n0_ n1_ n2_ n3_; clear hb hbox hg) | ((with_reducible refine gate_dst (N:=3) rfl ?_); refine boxE_ (N:=3) (cs:=#[.int .i64 a1_0,.int .i64 a1_1]) (t:=103) ?_; intro gb746 hg w12 hbox hb; have n0_:=Aside0.mk (bb_ BK745.out hb); have n1_:=Aside0.mk (below_step (bl1_ HB.out GE745.out) hb); have n2_:=Aside0.mk (hbox); have n3_:=Aside0.mk ((bs1_ hg HB.out GE745.out:w.heap.size ≤ gb746)); have n4_:=Aside0.mk ((bs1_ hg HB.out GE745.out:w.heap.size ≤ gb746)); have n5_:=Aside0.mk ((nl_ hg BK745.out:gb745 ≠ gb746)); have n6_:=Aside0.mk ((ng_ hg BK745.out:gb746 ≠ gb745)); clear BK745; clear HB; have BK745:=n0_; have HB:=n1_; have BK746:=n2_; have GW746:=n3_; have GE746:=n4_; have NB745_746:=n5_; have NB746_745:=n6_; clear n0_ n1_ n2_ n3_ n4_ n5_ n6_; clear hb hbox hg; have hnb13:=NB746_745.out; have hnc13:=NB745_746.out; have hcz14_0:w12.cell? ⟨gb746,0,none⟩ = some (.int .i64 a1_0):=(blk_cell BK746.out 0).trans rfl; have hcz14_1:w12.cell? ⟨gb746,1,none⟩ = some (.int .i64 a1_1):=(blk_cell BK746.out 1).trans rfl; have hfz14_0:=blk_frozen BK746.out 0; have hfz14_1:=blk_frozen BK746.out 1; have hcz15_0:w12.cell? ⟨gb745,0,none⟩ = some (.int .i64 a0_0):=(blk_cell BK745.out 0).trans rfl; have hcz15_1:w12.cell? ⟨gb745,1,none⟩ = some (.int .i64 a0_1):=(blk_cell BK745.out 1).trans rfl; have hfz15_0:=blk_frozen BK745.out 0; have hfz15_1:=blk_frozen BK745.out 1) | ((with_reducible refine gate_callee (f:=79) rfl ?_); refine goesL_ (some 9) rfl rfl Tryd.func79 (by kernel_rfl) rfl #[.int .i64 a1_0,.int .i64 0,.int .i64 a0_0] rfl ob_ ?_; (with_reducible refine (impl_within.calls a1_0 0 a0_0 false _ A3.out).mono ?_); rintro e w' ⟨rfl,⟨nd,rfl⟩⟩; refine ⟨_,rfl,?_⟩))
    go_ret
    exact ⟨er_,bl2_ HB.out GE745.out GE746.out⟩


def impl_grid_between.j0:Nat → Bool → Int → Int → Int → Int → Int → Int → Option (Int)
 | 0,_,_,_,_,_,_,_ => none
 | k + 1,x20,x750000,x750001,x751000,x751001,x754000,x754001 => if x20 = true then (some 0) else (if x751001 = x754001 then ((impl_grid_level.f x750000 x750001 (mn x751000 x754000) x751001).bind fun t756 => (some t756)) else ((impl_grid_upright.f x750000 x750001 x751000 (mn x751001 x754001)).bind fun t757 => (some t757)))
def impl_grid_between.f (k:Nat) (a0_0:Int) (a0_1:Int) (a1_0:Int) (a1_1:Int) (a2:Int):Option (Int):=(impl_Corner_next.f a1_0 a1_1 a2).bind fun bt751 => ((impl_grid_isCorner.f a0_0 a0_1 a1_0 a1_1).bind fun t754 => (if t754 = true then ((impl_grid_isCorner.f a0_0 a0_1 bt751.1 bt751.2).bind fun t755 => (impl_grid_between.j0 k (!t755) a0_0 a0_1 a1_0 a1_1 bt751.1 bt751.2)) else (impl_grid_between.j0 k true a0_0 a0_1 a1_0 a1_1 bt751.1 bt751.2)))
theorem impl_grid_between.mono_l:∀ k,(∀ y0 y1 y2 y3 y4 y5 y6,LeO (impl_grid_between.j0 k y0 y1 y2 y3 y4 y5 y6) (impl_grid_between.j0 (k + 1) y0 y1 y2 y3 y4 y5 y6))
 | 0 => fun _ _ _ _ _ _ _ r h => by simp [impl_grid_between.j0] at h
 | k + 1 => by
  have ih0:=impl_grid_between.mono_l k
  ·intro y0 y1 y2 y3 y4 y5 y6
   unfold impl_grid_between.j0
   repeat' first
   | (with_reducible exact ih0 _ _ _ _ _ _ _)
   | (with_reducible exact LeO.refl _)
   | (with_reducible exact LeO.none _)
   | (with_reducible refine LeO.ite ?_ ?_)
   | (with_reducible refine LeO.bind ?_ (fun _ => ?_))
   | exact ih0 _ _ _ _ _ _ _
   | exact LeO.none _
   | refine LeO.ite ?_ ?_
   | refine LeO.bind ?_ (fun _ => ?_)
theorem impl_grid_between.mono:∀ a0 a1 a2 a3 a4 k,LeO (impl_grid_between.f k a0 a1 a2 a3 a4) (impl_grid_between.f (k + 1) a0 a1 a2 a3 a4):=by
 intro a0 a1 a2 a3 a4 k
 have ih0:=impl_grid_between.mono_l k
 unfold impl_grid_between.f
 repeat' first
   | (with_reducible exact ih0 _ _ _ _ _ _ _)
   | (with_reducible exact LeO.refl _)
   | (with_reducible exact LeO.none _)
   | (with_reducible refine LeO.ite ?_ ?_)
   | (with_reducible refine LeO.bind ?_ (fun _ => ?_))
   | exact ih0 _ _ _ _ _ _ _
   | exact LeO.none _
   | refine LeO.ite ?_ ?_
   | refine LeO.bind ?_ (fun _ => ?_)
set_option maxHeartbeats 8000000 in
set_option maxRecDepth 100000 in
theorem impl_grid_between.calls (k:Nat) (a0_0:Int) (a0_1:Int) (a1_0:Int) (a1_1:Int) (a2:Int) (r:Int) (w:World) (h:impl_grid_between.f k a0_0 a0_1 a1_0 a1_1 a2 = some r) :
  Calls Tryd.prog 107 #[.agg #[.int .i64 a0_0,.int .i64 a0_1],.agg #[.int .i64 a1_0,.int .i64 a1_1],.int .u8 a2] w fun e w' => e = .returned (.int .u64 r) ∧ Below w.heap.size w w':=by
 have hu49:=Tryd.underlying49
 have hu103:=Tryd.underlying103
 have HB:=Aside0.mk (Below.refl w.heap.size w)
 have H:((impl_Corner_next.f a1_0 a1_1 a2).bind fun bt751 => ((impl_grid_isCorner.f a0_0 a0_1 a1_0 a1_1).bind fun t754 => (if t754 = true then ((impl_grid_isCorner.f a0_0 a0_1 bt751.1 bt751.2).bind fun t755 => (impl_grid_between.j0 k (!t755) a0_0 a0_1 a1_0 a1_1 bt751.1 bt751.2)) else (impl_grid_between.j0 k true a0_0 a0_1 a1_0 a1_1 bt751.1 bt751.2)))) = some r:=h
 clear h
 replace H:=Option.bind_eq_some_iff.mp H
 obtain ⟨⟨t751,t752⟩,A40,H⟩:=H
 replace H:((impl_grid_isCorner.f a0_0 a0_1 a1_0 a1_1).bind fun t754 => (if t754 = true then ((impl_grid_isCorner.f a0_0 a0_1 t751 t752).bind fun t755 => (impl_grid_between.j0 k (!t755) a0_0 a0_1 a1_0 a1_1 t751 t752)) else (impl_grid_between.j0 k true a0_0 a0_1 a1_0 a1_1 t751 t752))) = some r:=H
 have A4:=Aside0.mk A40
 clear A40
 have HC5:=Aside0.mk H
 clear H
 go_enter Tryd.func107,Tryd.ntmps107
 go_upto_region 2 with (first | ((with_reducible refine gate_dst (N:=3) rfl ?_); refine boxE_ (N:=3) (cs:=#[.int .i64 a0_0,.int .i64 a0_1]) (t:=49) ?_; intro gb749 hg w6 hbox hb; have n0_:=Aside0.mk (below_step (bl0_ HB.out) hb); have n1_:=Aside0.mk (hbox); have n2_:=Aside0.mk ((bs0_ hg HB.out:w.heap.size ≤ gb749)); have n3_:=Aside0.mk ((bs0_ hg HB.out:w.heap.size ≤ gb749)); clear HB; have HB:=n0_; have BK749:=n1_; have GW749:=n2_; have GE749:=n3_; clear n0_ n1_ n2_ n3_; clear hb hbox hg) | ((with_reducible refine gate_dst (N:=4) rfl ?_); refine boxE_ (N:=4) (cs:=#[.int .i64 a1_0,.int .i64 a1_1]) (t:=103) ?_; intro gb750 hg w7 hbox hb; have n0_:=Aside0.mk (bb_ BK749.out hb); have n1_:=Aside0.mk (below_step (bl1_ HB.out GE749.out) hb); have n2_:=Aside0.mk (hbox); have n3_:=Aside0.mk ((bs1_ hg HB.out GE749.out:w.heap.size ≤ gb750)); have n4_:=Aside0.mk ((bs1_ hg HB.out GE749.out:w.heap.size ≤ gb750)); have n5_:=Aside0.mk ((nl_ hg BK749.out:gb749 ≠ gb750)); have n6_:=Aside0.mk ((ng_ hg BK749.out:gb750 ≠ gb749)); clear BK749; clear HB; have BK749:=n0_; have HB:=n1_; have BK750:=n2_; have GW750:=n3_; have GE750:=n4_; have NB749_750:=n5_; have NB750_749:=n6_; clear n0_ n1_ n2_ n3_ n4_ n5_ n6_; clear hb hbox hg; have hnb8:=NB750_749.out; have hnc8:=NB749_750.out; have hcz9_0:w7.cell? ⟨gb750,0,none⟩ = some (.int .i64 a1_0):=(blk_cell BK750.out 0).trans rfl; have hcz9_1:w7.cell? ⟨gb750,1,none⟩ = some (.int .i64 a1_1):=(blk_cell BK750.out 1).trans rfl; have hfz9_0:=blk_frozen BK750.out 0; have hfz9_1:=blk_frozen BK750.out 1) | ((with_reducible refine gate_callee (f:=108) rfl ?_); refine goesL_ (some 10) rfl rfl Tryd.func108 (by kernel_rfl) rfl #[.agg #[.int .i64 a1_0,.int .i64 a1_1],.int .u8 a2] rfl ob_ ?_; (with_reducible refine (impl_Corner_next.calls a1_0 a1_1 a2 t751 t752 _ A4.out).mono ?_); rintro e w10 ⟨rfl,hb⟩; refine ⟨_,rfl,?_⟩; have n0_:=Aside0.mk (bb_ BK749.out hb); have n1_:=Aside0.mk (bb_ BK750.out hb); have n2_:=Aside0.mk (below_step (bl2_ HB.out GE749.out GE750.out) hb); clear BK749; clear BK750; clear HB; have BK749:=n0_; have BK750:=n1_; have HB:=n2_; clear n0_ n1_ n2_; (try clear hb); (try clear hb2); (try clear hk); (try clear hi)) | ((with_reducible refine gate_dst (N:=7) rfl ?_); refine boxE_ (N:=7) (cs:=#[.int .i64 0,.int .i64 0]) (t:=103) ?_; intro gb753 hg w11 hbox hb; have n0_:=Aside0.mk (bb_ BK749.out hb); have n1_:=Aside0.mk (bb_ BK750.out hb); have n2_:=Aside0.mk (below_step (bl2_ HB.out GE749.out GE750.out) hb); have n3_:=Aside0.mk (hbox); have n4_:=Aside0.mk ((bs2_ hg HB.out GE749.out GE750.out:w.heap.size ≤ gb753)); have n5_:=Aside0.mk ((bs2_ hg HB.out GE749.out GE750.out:w.heap.size ≤ gb753)); have n6_:=Aside0.mk ((nl_ hg BK749.out:gb749 ≠ gb753)); have n7_:=Aside0.mk ((ng_ hg BK749.out:gb753 ≠ gb749)); have n8_:=Aside0.mk ((nl_ hg BK750.out:gb750 ≠ gb753)); have n9_:=Aside0.mk ((ng_ hg BK750.out:gb753 ≠ gb750)); clear BK749; clear BK750; clear HB; have BK749:=n0_; have BK750:=n1_; have HB:=n2_; have BK753:=n3_; have GW753:=n4_; have GE753:=n5_; have NB749_753:=n6_; have NB753_749:=n7_; have NB750_753:=n8_; have NB753_750:=n9_; clear n0_ n1_ n2_ n3_ n4_ n5_ n6_ n7_ n8_ n9_; clear hb hbox hg; have hnb12:=NB753_749.out; have hnc12:=NB749_753.out; have hnb13:=NB753_750.out; have hnc13:=NB750_753.out; have hcz14_0:w11.cell? ⟨gb753,0,none⟩ = some (.int .i64 0):=(blk_cell BK753.out 0).trans rfl; have hcz14_1:w11.cell? ⟨gb753,1,none⟩ = some (.int .i64 0):=(blk_cell BK753.out 1).trans rfl; have hfz14_0:=blk_frozen BK753.out 0; have hfz14_1:=blk_frozen BK753.out 1))
 (try simp only [Act.put,List.setIfInBounds_toArray,List.set_cons_zero,List.set_cons_succ])
 go_cut [20] (fun v20 wc => ∃ (kq:Nat) (x20_4:Bool),v20 = .bool x20_4 ∧ Aside0 (impl_grid_between.j0 kq x20_4 a0_0 a0_1 a1_0 a1_1 t751 t752 = some r) ∧ Aside0 (kq ≤ k) ∧ Aside0 (wc.heap[gb749]? = some (.cells #[.int .i64 a0_0,.int .i64 a0_1] 49 (0,0))) ∧ Aside0 (wc.heap[gb750]? = some (.cells #[.int .i64 a1_0,.int .i64 a1_1] 103 (0,0))) ∧ Aside0 (wc.heap[gb753]? = some (.cells #[.int .i64 t751,.int .i64 t752] 103 (0,0))) ∧ Aside0 (Below w.heap.size w wc))
 case first =>
  have H:=HC5.out
  clear HC5
  replace H:=Option.bind_eq_some_iff.mp H
  obtain ⟨t754,A150,H⟩:=H
  replace H:(if t754 = true then ((impl_grid_isCorner.f a0_0 a0_1 t751 t752).bind fun t755 => (impl_grid_between.j0 k (!t755) a0_0 a0_1 a1_0 a1_1 t751 t752)) else (impl_grid_between.j0 k true a0_0 a0_1 a1_0 a1_1 t751 t752)) = some r:=H
  have A15:=Aside0.mk A150
  clear A150
  by_cases c16:t754 = true
  ·subst c16
   have H1:((impl_grid_isCorner.f a0_0 a0_1 t751 t752).bind fun t755 => (impl_grid_between.j0 k (!t755) a0_0 a0_1 a1_0 a1_1 t751 t752)) = some r:=by rw [if_pos rfl] at H; exact H
   clear H
   have H:=H1
   clear H1
   replace H:=Option.bind_eq_some_iff.mp H
   obtain ⟨t755,A170,H⟩:=H
   replace H:(impl_grid_between.j0 k (!t755) a0_0 a0_1 a1_0 a1_1 t751 t752) = some r:=H
   have A17:=Aside0.mk A170
   clear A170
   have H':=Aside0.mk H
   clear H
   have hnb18:=NB749_750.out
   have hnc18:=NB750_749.out
   have hnb19:=NB749_753.out
   have hnc19:=NB753_749.out
   have hcz20_0:w11.cell? ⟨gb749,0,none⟩ = some (.int .i64 a0_0):=(blk_cell BK749.out 0).trans rfl
   have hcz20_1:w11.cell? ⟨gb749,1,none⟩ = some (.int .i64 a0_1):=(blk_cell BK749.out 1).trans rfl
   have hfz20_0:=blk_frozen BK749.out 0
   have hfz20_1:=blk_frozen BK749.out 1
   have hnb21:=NB750_753.out
   have hnc21:=NB753_750.out
   have hcz22_0:w11.cell? ⟨gb750,0,none⟩ = some (.int .i64 a1_0):=(blk_cell BK750.out 0).trans rfl
   have hcz22_1:w11.cell? ⟨gb750,1,none⟩ = some (.int .i64 a1_1):=(blk_cell BK750.out 1).trans rfl
   have hfz22_0:=blk_frozen BK750.out 0
   have hfz22_1:=blk_frozen BK750.out 1
   go_wp2_with (first | ((with_reducible refine gate_callee (f:=111) rfl ?_); refine goesL_ (some 13) rfl rfl Tryd.func111 (by kernel_rfl) rfl #[.agg #[.int .i64 a0_0,.int .i64 a0_1],.agg #[.int .i64 a1_0,.int .i64 a1_1]] rfl ob_ ?_; (with_reducible refine (impl_grid_isCorner.calls a0_0 a0_1 a1_0 a1_1 true _ A15.out).mono ?_); rintro e w23 ⟨rfl,hb⟩; refine ⟨_,rfl,?_⟩; have n0_:=Aside0.mk (blk_below (g:=gb749) (o:=.cells #[.int .i64 a0_0,.int .i64 a0_1] 49 (0,0)) (bf2_ NB749_753.out NB749_753.out BK749.out) hb); have n1_:=Aside0.mk (blk_below (g:=gb750) (o:=.cells #[.int .i64 a1_0,.int .i64 a1_1] 103 (0,0)) (bf2_ NB750_753.out NB750_753.out BK750.out) hb); have n2_:=Aside0.mk (blk_below (g:=gb753) (o:=.cells #[.int .i64 t751,.int .i64 t752] 103 (0,0)) (by (with_reducible repeat (first | refine blk_drewN ?_ _ | refine blk_drew ?_ | refine blk_alloc ?_ _)); refine blk_put (cs:=#[.int .i64 t751,.int .i64 0]) ?_ 1 _ rfl; (with_reducible repeat (first | refine blk_drewN ?_ _ | refine blk_drew ?_ | refine blk_alloc ?_ _)); refine blk_put (cs:=#[.int .i64 0,.int .i64 0]) ?_ 0 _ rfl; (with_reducible repeat (first | refine blk_drewN ?_ _ | refine blk_drew ?_ | refine blk_alloc ?_ _)); exact BK753.out) hb); have n3_:=Aside0.mk (below_step (bl3_ HB.out GE749.out GE750.out GE753.out) hb); clear BK749; clear BK750; clear BK753; clear HB; have BK749:=n0_; have BK750:=n1_; have BK753:=n2_; have HB:=n3_; clear n0_ n1_ n2_ n3_; (try clear hb); (try clear hb2); (try clear hk); (try clear hi); have hcz24_0:w23.cell? ⟨gb749,0,none⟩ = some (.int .i64 a0_0):=(blk_cell BK749.out 0).trans rfl; have hcz24_1:w23.cell? ⟨gb749,1,none⟩ = some (.int .i64 a0_1):=(blk_cell BK749.out 1).trans rfl; have hfz24_0:=blk_frozen BK749.out 0; have hfz24_1:=blk_frozen BK749.out 1; have hcz25_0:w23.cell? ⟨gb753,0,none⟩ = some (.int .i64 t751):=(blk_cell BK753.out 0).trans rfl; have hcz25_1:w23.cell? ⟨gb753,1,none⟩ = some (.int .i64 t752):=(blk_cell BK753.out 1).trans rfl; have hfz25_0:=blk_frozen BK753.out 0; have hfz25_1:=blk_frozen BK753.out 1) | (go_at_call 111; (with_reducible refine (impl_grid_isCorner.calls a0_0 a0_1 t751 t752 t755 _ A17.out).mono ?_); rintro e w26 ⟨rfl,hb⟩; have n0_:=Aside0.mk (bb_ BK749.out hb); have n1_:=Aside0.mk (bb_ BK750.out hb); have n2_:=Aside0.mk (bb_ BK753.out hb); have n3_:=Aside0.mk (below_step (bl3_ HB.out GE749.out GE750.out GE753.out) hb); clear BK749; clear BK750; clear BK753; clear HB; have BK749:=n0_; have BK750:=n1_; have BK753:=n2_; have HB:=n3_; clear n0_ n1_ n2_ n3_; (try clear hb); (try clear hb2); (try clear hk); (try clear hi)))
   go_meet
   case rel => exact ⟨_,(!t755),rs_,H',⟨by first | omega | exact Nat.le_refl _⟩,⟨bk_ BK749.out⟩,⟨bk_ BK750.out⟩,⟨bk_ BK753.out⟩,⟨bl3_ HB.out GE749.out GE750.out GE753.out⟩⟩
  ·replace c16:=Bool.eq_false_iff.mpr c16
   subst c16
   have H1:(impl_grid_between.j0 k true a0_0 a0_1 a1_0 a1_1 t751 t752) = some r:=by rw [if_neg (show ¬ (false = true) by decide)] at H; exact H
   clear H
   have H:=H1
   clear H1
   have H':=Aside0.mk H
   clear H
   have hnb27:=NB749_750.out
   have hnc27:=NB750_749.out
   have hnb28:=NB749_753.out
   have hnc28:=NB753_749.out
   have hcz29_0:w11.cell? ⟨gb749,0,none⟩ = some (.int .i64 a0_0):=(blk_cell BK749.out 0).trans rfl
   have hcz29_1:w11.cell? ⟨gb749,1,none⟩ = some (.int .i64 a0_1):=(blk_cell BK749.out 1).trans rfl
   have hfz29_0:=blk_frozen BK749.out 0
   have hfz29_1:=blk_frozen BK749.out 1
   have hnb30:=NB750_753.out
   have hnc30:=NB753_750.out
   have hcz31_0:w11.cell? ⟨gb750,0,none⟩ = some (.int .i64 a1_0):=(blk_cell BK750.out 0).trans rfl
   have hcz31_1:w11.cell? ⟨gb750,1,none⟩ = some (.int .i64 a1_1):=(blk_cell BK750.out 1).trans rfl
   have hfz31_0:=blk_frozen BK750.out 0
   have hfz31_1:=blk_frozen BK750.out 1
   go_wp2_with (first | ((with_reducible refine gate_callee (f:=111) rfl ?_); refine goesL_ (some 13) rfl rfl Tryd.func111 (by kernel_rfl) rfl #[.agg #[.int .i64 a0_0,.int .i64 a0_1],.agg #[.int .i64 a1_0,.int .i64 a1_1]] rfl ob_ ?_; (with_reducible refine (impl_grid_isCorner.calls a0_0 a0_1 a1_0 a1_1 false _ A15.out).mono ?_); rintro e w32 ⟨rfl,hb⟩; refine ⟨_,rfl,?_⟩; have n0_:=Aside0.mk (blk_below (g:=gb749) (o:=.cells #[.int .i64 a0_0,.int .i64 a0_1] 49 (0,0)) (bf2_ NB749_753.out NB749_753.out BK749.out) hb); have n1_:=Aside0.mk (blk_below (g:=gb750) (o:=.cells #[.int .i64 a1_0,.int .i64 a1_1] 103 (0,0)) (bf2_ NB750_753.out NB750_753.out BK750.out) hb); have n2_:=Aside0.mk (blk_below (g:=gb753) (o:=.cells #[.int .i64 t751,.int .i64 t752] 103 (0,0)) (by (with_reducible repeat (first | refine blk_drewN ?_ _ | refine blk_drew ?_ | refine blk_alloc ?_ _)); refine blk_put (cs:=#[.int .i64 t751,.int .i64 0]) ?_ 1 _ rfl; (with_reducible repeat (first | refine blk_drewN ?_ _ | refine blk_drew ?_ | refine blk_alloc ?_ _)); refine blk_put (cs:=#[.int .i64 0,.int .i64 0]) ?_ 0 _ rfl; (with_reducible repeat (first | refine blk_drewN ?_ _ | refine blk_drew ?_ | refine blk_alloc ?_ _)); exact BK753.out) hb); have n3_:=Aside0.mk (below_step (bl3_ HB.out GE749.out GE750.out GE753.out) hb); clear BK749; clear BK750; clear BK753; clear HB; have BK749:=n0_; have BK750:=n1_; have BK753:=n2_; have HB:=n3_; clear n0_ n1_ n2_ n3_; (try clear hb); (try clear hb2); (try clear hk); (try clear hi)))
   go_meet
   case rel => exact ⟨_,(true),rs_,H',⟨by first | omega | exact Nat.le_refl _⟩,⟨bk_ BK749.out⟩,⟨bk_ BK750.out⟩,⟨bk_ BK753.out⟩,⟨bl3_ HB.out GE749.out GE750.out GE753.out⟩⟩
 case rest =>
  clear HC5
  try clear c1
  try clear c2
  try clear p2
  try clear c3
  try clear c8
  try clear c10
  try clear c11
  try clear c12
  try clear c13
  try clear c16
  try clear c18
  try clear c19
  try clear c21
  try clear c27
  try clear c28
  try clear c30
  try clear hcz14_0
  try clear hcz14_1
  try clear hcz20_0
  try clear hcz20_1
  try clear hcz22_0
  try clear hcz22_1
  try clear hcz24_0
  try clear hcz24_1
  try clear hcz25_0
  try clear hcz25_1
  try clear hcz29_0
  try clear hcz29_1
  try clear hcz31_0
  try clear hcz31_1
  try clear hcz9_0
  try clear hcz9_1
  try clear hfz14_0
  try clear hfz14_1
  try clear hfz20_0
  try clear hfz20_1
  try clear hfz22_0
  try clear hfz22_1
  try clear hfz24_0
  try clear hfz24_1
  try clear hfz25_0
  try clear hfz25_1
  try clear hfz29_0
  try clear hfz29_1
  try clear hfz31_0
  try clear hfz31_1
  try clear hfz9_0
  try clear hfz9_1
  obtain ⟨kq,x20_4,rfl,HA,HJ4,BK749,BK750,BK753,HB⟩:=hcut
  cases kq with
  | zero => exact absurd HA.out (by simp [impl_grid_between.j0])
  | succ kj4 =>
   have H:=HA.out
   clear HA
   simp only [impl_grid_between.j0] at H
   by_cases c33:x20_4 = true
   ·subst c33
    have H1:(some 0) = some r:=by rw [if_pos rfl] at H; exact H
    clear H
    have H:=H1
    clear H1
    obtain rfl:=Option.some.inj H
    go_wp2
    go_ret
    exact ⟨er_,bl3_ HB.out GE749.out GE750.out GE753.out⟩
   ·replace c33:=Bool.eq_false_iff.mpr c33
    subst c33
    have H1:(if a1_1 = t752 then ((impl_grid_level.f a0_0 a0_1 (mn a1_0 t751) a1_1).bind fun t756 => (some t756)) else ((impl_grid_upright.f a0_0 a0_1 a1_0 (mn a1_1 t752)).bind fun t757 => (some t757))) = some r:=by rw [if_neg (show ¬ (false = true) by decide)] at H; exact H
    clear H
    have H:=H1
    clear H1
    by_cases c34:a1_1 = t752
    ·rw [if_pos c34] at H
     have c34b0:(a1_1 == t752) = true:=beq_iff_eq.mpr c34
     have c34b1:(a1_1 != t752) = false:=bne_eq_false_iff_eq.mpr c34
     clear c34
     obtain ⟨ji35,hji35⟩:∃ j_:Int,(mn a1_0 t751) = j_:=⟨_,rfl⟩
     replace H:((impl_grid_level.f a0_0 a0_1 (ji35) a1_1).bind fun t756 => (some t756)) = some r:=by first | (rw [hji35] at H; exact H) | (simp only [hji35] at H ⊢; exact H)
     have hji35_:(if t751 < a1_0 then t751 else a1_0) = ji35:=hji35
     replace H:=Option.bind_eq_some_iff.mp H
     obtain ⟨t756,A360,H⟩:=H
     replace H:(some t756) = some r:=H
     have A36:=Aside0.mk A360
     clear A360
     obtain rfl:=Option.some.inj H
     have hnb37:=NB750_749.out
     have hnc37:=NB749_750.out
     have hnb38:=NB750_753.out
     have hnc38:=NB753_750.out
     have hcz39_0:wc.cell? ⟨gb750,0,none⟩ = some (.int .i64 a1_0):=(blk_cell BK750.out 0).trans rfl
     have hcz39_1:wc.cell? ⟨gb750,1,none⟩ = some (.int .i64 a1_1):=(blk_cell BK750.out 1).trans rfl
     have hfz39_0:=blk_frozen BK750.out 0
     have hfz39_1:=blk_frozen BK750.out 1
     have hnb40:=NB753_749.out
     have hnc40:=NB749_753.out
     have hcz41_0:wc.cell? ⟨gb753,0,none⟩ = some (.int .i64 t751):=(blk_cell BK753.out 0).trans rfl
     have hcz41_1:wc.cell? ⟨gb753,1,none⟩ = some (.int .i64 t752):=(blk_cell BK753.out 1).trans rfl
     have hfz41_0:=blk_frozen BK753.out 0
     have hfz41_1:=blk_frozen BK753.out 1
     have hcz42_0:wc.cell? ⟨gb749,0,none⟩ = some (.int .i64 a0_0):=(blk_cell BK749.out 0).trans rfl
     have hcz42_1:wc.cell? ⟨gb749,1,none⟩ = some (.int .i64 a0_1):=(blk_cell BK749.out 1).trans rfl
     have hfz42_0:=blk_frozen BK749.out 0
     have hfz42_1:=blk_frozen BK749.out 1
     go_wp2_with (first | ((with_reducible refine gate_callee (f:=80) rfl ?_); refine goesL_ (some 34) rfl rfl Tryd.func80 (by kernel_rfl) rfl #[.agg #[.int .i64 a0_0,.int .i64 a0_1],.int .i64 ji35,.int .i64 a1_1] rfl (by (try simp only [List.map_toArray,List.map_cons,List.map_nil]); first | done | (simp only [hji35]; rfl) | rfl | (simp only [List.length_drop,List.length_take]; rfl)) ?_; (with_reducible refine (impl_grid_level.calls a0_0 a0_1 ji35 a1_1 t756 _ A36.out).mono ?_); rintro e w43 ⟨rfl,hb⟩; refine ⟨_,rfl,?_⟩; have n0_:=Aside0.mk (bb_ BK749.out hb); have n1_:=Aside0.mk (bb_ BK750.out hb); have n2_:=Aside0.mk (bb_ BK753.out hb); have n3_:=Aside0.mk (below_step (bl3_ HB.out GE749.out GE750.out GE753.out) hb); clear BK749; clear BK750; clear BK753; clear HB; have BK749:=n0_; have BK750:=n1_; have BK753:=n2_; have HB:=n3_; clear n0_ n1_ n2_ n3_; (try clear hb); (try clear hb2); (try clear hk); (try clear hi)))
     go_ret
     exact ⟨by first | rfl | (simp [errW_none,errW_some] <;> rfl) | (simp only [← hji35]; first | rfl | (simp [errW_none,errW_some] <;> rfl)) | (simp [*,errW_none,errW_some] <;> rfl),bl3_ HB.out GE749.out GE750.out GE753.out⟩
    ·rw [if_neg c34] at H
     have c34b0:(a1_1 == t752) = false:=beq_eq_false_iff_ne.mpr c34
     have c34b1:(a1_1 != t752) = true:=bne_iff_ne.mpr c34
     obtain ⟨ji44,hji44⟩:∃ j_:Int,(mn a1_1 t752) = j_:=⟨_,rfl⟩
     replace H:((impl_grid_upright.f a0_0 a0_1 a1_0 (ji44)).bind fun t757 => (some t757)) = some r:=by first | (rw [hji44] at H; exact H) | (simp only [hji44] at H ⊢; exact H)
     have hji44_:(if t752 < a1_1 then t752 else a1_1) = ji44:=hji44
     replace H:=Option.bind_eq_some_iff.mp H
     obtain ⟨t757,A450,H⟩:=H
     replace H:(some t757) = some r:=H
     have A45:=Aside0.mk A450
     clear A450
     obtain rfl:=Option.some.inj H
     have hnb46:=NB750_749.out
     have hnc46:=NB749_750.out
     have hnb47:=NB750_753.out
     have hnc47:=NB753_750.out
     have hcz48_0:wc.cell? ⟨gb750,0,none⟩ = some (.int .i64 a1_0):=(blk_cell BK750.out 0).trans rfl
     have hcz48_1:wc.cell? ⟨gb750,1,none⟩ = some (.int .i64 a1_1):=(blk_cell BK750.out 1).trans rfl
     have hfz48_0:=blk_frozen BK750.out 0
     have hfz48_1:=blk_frozen BK750.out 1
     have hnb49:=NB753_749.out
     have hnc49:=NB749_753.out
     have hcz50_0:wc.cell? ⟨gb753,0,none⟩ = some (.int .i64 t751):=(blk_cell BK753.out 0).trans rfl
     have hcz50_1:wc.cell? ⟨gb753,1,none⟩ = some (.int .i64 t752):=(blk_cell BK753.out 1).trans rfl
     have hfz50_0:=blk_frozen BK753.out 0
     have hfz50_1:=blk_frozen BK753.out 1
     have hcz51_0:wc.cell? ⟨gb749,0,none⟩ = some (.int .i64 a0_0):=(blk_cell BK749.out 0).trans rfl
     have hcz51_1:wc.cell? ⟨gb749,1,none⟩ = some (.int .i64 a0_1):=(blk_cell BK749.out 1).trans rfl
     have hfz51_0:=blk_frozen BK749.out 0
     have hfz51_1:=blk_frozen BK749.out 1
     go_wp2_with (first | ((with_reducible refine gate_callee (f:=81) rfl ?_); refine goesL_ (some 43) rfl rfl Tryd.func81 (by kernel_rfl) rfl #[.agg #[.int .i64 a0_0,.int .i64 a0_1],.int .i64 a1_0,.int .i64 ji44] rfl (by (try simp only [List.map_toArray,List.map_cons,List.map_nil]); first | done | (simp only [hji44]; rfl) | rfl | (simp only [List.length_drop,List.length_take]; rfl)) ?_; (with_reducible refine (impl_grid_upright.calls a0_0 a0_1 a1_0 ji44 t757 _ A45.out).mono ?_); rintro e w52 ⟨rfl,hb⟩; refine ⟨_,rfl,?_⟩; have n0_:=Aside0.mk (bb_ BK749.out hb); have n1_:=Aside0.mk (bb_ BK750.out hb); have n2_:=Aside0.mk (bb_ BK753.out hb); have n3_:=Aside0.mk (below_step (bl3_ HB.out GE749.out GE750.out GE753.out) hb); clear BK749; clear BK750; clear BK753; clear HB; have BK749:=n0_; have BK750:=n1_; have BK753:=n2_; have HB:=n3_; clear n0_ n1_ n2_ n3_; (try clear hb); (try clear hb2); (try clear hk); (try clear hi)))
     go_ret
     exact ⟨by first | rfl | (simp [errW_none,errW_some] <;> rfl) | (simp only [← hji44]; first | rfl | (simp [errW_none,errW_some] <;> rfl)) | (simp [*,errW_none,errW_some] <;> rfl),bl3_ HB.out GE749.out GE750.out GE753.out⟩


mutual
def impl_grid_from.l0:Nat → Int → Int → List (S103) → Int → Int → Int → Option (Int)
 | 0,_,_,_,_,_,_ => none
 | k + 1,x1,x7,x8,x9,x759000,x759001 => if x9 < (x8.length:Int) then ((some (([110,101,115,119]:List Int):List Int)).bind fun y763 => (impl_grid_from.l1 k x1 x7 x8 x9 y763 (y763.length:Int) 0 x759000 x759001)) else (some x7)
def impl_grid_from.l1:Nat → Int → Int → List (S103) → Int → List Int → Int → Int → Int → Int → Option (Int)
 | 0,_,_,_,_,_,_,_,_,_ => none
 | k + 1,x1,x7,x8,x9,x22,x23,x24,x759000,x759001 => if x24 < x23 then (if 0 ≤ x24 then (if x24 < (x22.length:Int) then (if 0 ≤ x9 then (if x9 < (x8.length:Int) then ((impl_grid_between.f k x759000 x759001 ((rd_T103 x8 x9).f0) ((rd_T103 x8 x9).f1) (rd x22 x24)).bind fun t768 => (if (Go.bits .andNot .u64 (Go.bits .and .u64 t768 x1) x7) = 0 then (impl_grid_from.l1 k x1 x7 x8 x9 x22 x23 (wrap64 (x24 + 1)) x759000 x759001) else ((impl_Corner_next.f ((rd_T103 x8 x9).f0) ((rd_T103 x8 x9).f1) (rd x22 x24)).bind fun bt770 => (if x8.length < 8796093022208 then (impl_grid_from.l1 k x1 (Go.bits .or .u64 x7 t768) (x8 ++ [(⟨bt770.1,bt770.2⟩:S103)]) x9 x22 x23 (wrap64 (x24 + 1)) x759000 x759001) else (none))))) else (none)) else (none)) else (none)) else (none)) else (impl_grid_from.l0 k x1 x7 x8 (wrap64 (x9 + 1)) x759000 x759001)
end
def impl_grid_from.f (k:Nat) (a0_0:Int) (a0_1:Int) (a1:Int) (a2_0:Int) (a2_1:Int):Option (Int):=impl_grid_from.l0 k a1 0 (([(⟨a2_0,a2_1⟩:S103)]:List (S103))) 0 a0_0 a0_1
theorem impl_grid_from.mono_l:∀ k,(∀ y0 y1 y2 y3 y4 y5,LeO (impl_grid_from.l0 k y0 y1 y2 y3 y4 y5) (impl_grid_from.l0 (k + 1) y0 y1 y2 y3 y4 y5)) ∧ (∀ y0 y1 y2 y3 y4 y5 y6 y7 y8,LeO (impl_grid_from.l1 k y0 y1 y2 y3 y4 y5 y6 y7 y8) (impl_grid_from.l1 (k + 1) y0 y1 y2 y3 y4 y5 y6 y7 y8))
 | 0 => ⟨fun _ _ _ _ _ _ r h => by simp [impl_grid_from.l0] at h,fun _ _ _ _ _ _ _ _ _ r h => by simp [impl_grid_from.l1] at h⟩
 | k + 1 => by
  obtain ⟨ih0,ih1⟩:=impl_grid_from.mono_l k
  refine ⟨?_,?_⟩
  ·intro y0 y1 y2 y3 y4 y5
   unfold impl_grid_from.l0
   repeat' first
   | (with_reducible exact ih0 _ _ _ _ _ _)
   | (with_reducible exact ih1 _ _ _ _ _ _ _ _ _)
   | (with_reducible exact impl_grid_between.mono _ _ _ _ _ _)
   | (with_reducible exact LeO.refl _)
   | (with_reducible exact LeO.none _)
   | (with_reducible refine LeO.ite ?_ ?_)
   | (with_reducible refine LeO.bind ?_ (fun _ => ?_))
   | exact ih0 _ _ _ _ _ _
   | exact ih1 _ _ _ _ _ _ _ _ _
   | exact impl_grid_between.mono _ _ _ _ _ _
   | exact LeO.none _
   | refine LeO.ite ?_ ?_
   | refine LeO.bind ?_ (fun _ => ?_)
  ·intro y0 y1 y2 y3 y4 y5 y6 y7 y8
   unfold impl_grid_from.l1
   repeat' first
   | (with_reducible exact ih0 _ _ _ _ _ _)
   | (with_reducible exact ih1 _ _ _ _ _ _ _ _ _)
   | (with_reducible exact impl_grid_between.mono _ _ _ _ _ _)
   | (with_reducible exact LeO.refl _)
   | (with_reducible exact LeO.none _)
   | (with_reducible refine LeO.ite ?_ ?_)
   | (with_reducible refine LeO.bind ?_ (fun _ => ?_))
   | exact ih0 _ _ _ _ _ _
   | exact ih1 _ _ _ _ _ _ _ _ _
   | exact impl_grid_between.mono _ _ _ _ _ _
   | exact LeO.none _
   | refine LeO.ite ?_ ?_
   | refine LeO.bind ?_ (fun _ => ?_)
theorem impl_grid_from.mono:∀ a0 a1 a2 a3 a4 k,LeO (impl_grid_from.f k a0 a1 a2 a3 a4) (impl_grid_from.f (k + 1) a0 a1 a2 a3 a4):=by
 intro a0 a1 a2 a3 a4 k
 obtain ⟨ih0,ih1⟩:=impl_grid_from.mono_l k
 unfold impl_grid_from.f
 repeat' first
   | (with_reducible exact ih0 _ _ _ _ _ _)
   | (with_reducible exact ih1 _ _ _ _ _ _ _ _ _)
   | (with_reducible exact impl_grid_between.mono _ _ _ _ _ _)
   | (with_reducible exact LeO.refl _)
   | (with_reducible exact LeO.none _)
   | (with_reducible refine LeO.ite ?_ ?_)
   | (with_reducible refine LeO.bind ?_ (fun _ => ?_))
   | exact ih0 _ _ _ _ _ _
   | exact ih1 _ _ _ _ _ _ _ _ _
   | exact impl_grid_between.mono _ _ _ _ _ _
   | exact LeO.none _
   | refine LeO.ite ?_ ?_
   | refine LeO.bind ?_ (fun _ => ?_)
def impl_grid_from.T8:Bool × List (List Nat × List Nat):=(true,[([],[]),([],[]),([],[]),([1,2],[1,2]),([3],[3]),([],[]),([0,4,5],[0,4,5]),([6,6,0,1,2,3,4,5,6],[6])])
def impl_grid_from.B8:List Nat:=[0,0,0,6,14,0,63,127]
theorem impl_grid_from.tab8:rtab .any (opsOf Tryd.f96 8) = impl_grid_from.T8:=by kernel_rfl
theorem impl_grid_from.bits8:waitsOk impl_grid_from.T8.2 impl_grid_from.B8 = true:=by kernel_rfl
set_option maxHeartbeats 8000000 in
set_option maxRecDepth 100000 in
theorem impl_grid_from.calls (k:Nat) (a0_0:Int) (a0_1:Int) (a1:Int) (a2_0:Int) (a2_1:Int) (r:Int) (w:World) (h:impl_grid_from.f k a0_0 a0_1 a1 a2_0 a2_1 = some r) :
  Calls Tryd.prog 96 #[.agg #[.int .i64 a0_0,.int .i64 a0_1],.int .u64 a1,.agg #[.int .i64 a2_0,.int .i64 a2_1]] w fun e w' => e = .returned (.int .u64 r) ∧ Below w.heap.size w w':=by
 have hu49:=Tryd.underlying49
 have hu103:=Tryd.underlying103
 have HB:=Aside0.mk (Below.refl w.heap.size w)
 have H:(impl_grid_from.l0 k a1 0 (([(⟨a2_0,a2_1⟩:S103)]:List (S103))) 0 a0_0 a0_1) = some r:=h
 clear h
 obtain ⟨y760,hy760⟩:∃ y_:List (S103),y_ = (([(⟨a2_0,a2_1⟩:S103)]:List (S103))):=⟨_,rfl⟩
 replace H:(impl_grid_from.l0 k a1 0 y760 0 a0_0 a0_1) = some r:=by first | (rw [hy760]; with_reducible exact H) | (have H2_:=(Option.bind_some _ _).symm.trans H; rw [hy760]; with_reducible exact H2_) | (have H2_:=(Option.bind_some _ _).symm.trans H; with_reducible exact H2_) | with_reducible exact H | (rw [hy760]; exact H) | exact H
 have Ny760:=Aside0.mk hy760
 clear hy760
 have H':=Aside0.mk H
 clear H
 go_enter Tryd.func96,Tryd.ntmps96
 try go_wp2_with (first | ((with_reducible refine gate_dst (N:=3) rfl ?_); refine boxE_ (N:=3) (cs:=#[.int .i64 a0_0,.int .i64 a0_1]) (t:=49) ?_; intro gb758 hg w4 hbox hb; have n0_:=Aside0.mk (below_step (bl0_ HB.out) hb); have n1_:=Aside0.mk (hbox); have n2_:=Aside0.mk ((bs0_ hg HB.out:w.heap.size ≤ gb758)); have n3_:=Aside0.mk ((bs0_ hg HB.out:w.heap.size ≤ gb758)); clear HB; have HB:=n0_; have BK758:=n1_; have GW758:=n2_; have GE758:=n3_; clear n0_ n1_ n2_ n3_; clear hb hbox hg) | ((with_reducible refine gate_dst (N:=5) rfl ?_); refine boxE_ (N:=5) (cs:=#[.int .i64 a2_0,.int .i64 a2_1]) (t:=103) ?_; intro gb759 hg w5 hbox hb; have n0_:=Aside0.mk (bb_ BK758.out hb); have n1_:=Aside0.mk (below_step (bl1_ HB.out GE758.out) hb); have n2_:=Aside0.mk (hbox); have n3_:=Aside0.mk ((bs1_ hg HB.out GE758.out:w.heap.size ≤ gb759)); have n4_:=Aside0.mk ((bs1_ hg HB.out GE758.out:w.heap.size ≤ gb759)); have n5_:=Aside0.mk ((nl_ hg BK758.out:gb758 ≠ gb759)); have n6_:=Aside0.mk ((ng_ hg BK758.out:gb759 ≠ gb758)); clear BK758; clear HB; have BK758:=n0_; have HB:=n1_; have BK759:=n2_; have GW759:=n3_; have GE759:=n4_; have NB758_759:=n5_; have NB759_758:=n6_; clear n0_ n1_ n2_ n3_ n4_ n5_ n6_; clear hb hbox hg))
 have n0_:=Aside0.mk (blk_drew BK758.out)
 have n1_:=Aside0.mk (blk_drew BK759.out)
 have n2_:=Aside0.mk (below_drew1 HB.out)
 clear BK758
 clear BK759
 clear HB
 have BK758:=n0_
 have BK759:=n1_
 have HB:=n2_
 clear n0_ n1_ n2_
 refine start_ (n:=4) (S:=fun w' => w'.cell? ⟨gb759,0,none⟩ = some (.int .i64 a2_0) ∧ w'.cell? ⟨gb759,1,none⟩ = some (.int .i64 a2_1)) (ds:=[]) #[false,false,false,false] (by kernel_rfl) rfl rfl ⟨(blk_cell BK759.out 0).trans rfl,(blk_cell BK759.out 1).trans rfl⟩ (fun hHeld => ?_)
 generalize w5.drew = w6 at BK758 BK759 HB hHeld ⊢
 refine pure_ (i:=2) (N:=some 7) (v:=?_) (a':=?_) #[false,false,true,false] rfl rfl (by kernel_rfl) (fun _ _ _ h => h) (Or.inl ⟨by rfl,?_⟩) ?_ ?_
 rotate_left
 ·intro w'
  go_simp
  with_reducible rfl
 rotate_left
 ·simp only [Act.put,List.setIfInBounds_toArray,List.set_cons_zero,List.set_cons_succ,i64_w,i32_w]
  rfl
 refine take_ (i:=0) (N:=some 13) (v:=?_) (a':=?_) #[true,false,true,false] rfl rfl (by kernel_rfl) (fun _ _ _ h => h) (Or.inl ⟨by rfl,?_⟩) hHeld ?_ ?_
 rotate_left
 ·rintro w' ⟨s0,s1⟩
  go_simp
  with_reducible rfl
 rotate_left
 ·simp only [Act.put,List.setIfInBounds_toArray,List.set_cons_zero,List.set_cons_succ,i64_w,i32_w]
  rfl
 refine one_ (i:=1) (N:=some 14) #[true,true,true,false] rfl rfl (by kernel_rfl) (by decide) (fun K hK => ?_)
 refine Kd.R_lit_step k103 _ 103 ?hg (N:=14) ?hd (xs:=([(⟨a2_0,a2_1⟩:S103)]:List (S103))) (inner:=[.int .i64 a2_0,.int .i64 a2_1]) (ok:=fun _ => True) (okp:=fun _ => True) ?hr ?hp (fun _ hk => hk) trivial (Below.refl _ _) (Nat.le_refl _) (by simp) ?_; (case hd => rfl); (case hg => rfl); (case hr => first | (go_simp; done) | (go_simp; rfl)); (case hp => exact (Reps.c2 (show Kd.M k103 _ _ _ (⟨a2_0,a2_1⟩:S103) [.int .i64 a2_0,.int .i64 a2_1] from (k103_mkM _ _ _ (⟨a2_0,a2_1⟩:S103) )) (Reps.none _ _)))
 intro v761 w7 ho8 hb hg_ hnew_
 clear hg_ hnew_
 (first | rw [← Ny760.out] at ho8 | (simp only [Int.reduceToNat] at ho8; rw [← Ny760.out] at ho8))
 have n0_:=Aside0.mk (Kd.R_lower (Kd.R_newB ho8 (g:=gb759) (o:=.cells #[.int .i64 a2_0,.int .i64 a2_1] 103 (0,0)) (bk_ BK759.out)) (below_size (bl2_ HB.out GE758.out GE759.out)))
 have n1_:=Aside0.mk (bb_ BK758.out hb)
 have n2_:=Aside0.mk (bb_ BK759.out hb)
 have n3_:=Aside0.mk (below_step (bl2_ HB.out GE758.out GE759.out) hb)
 clear BK758
 clear BK759
 clear HB
 have HO762:=n0_
 have BK758:=n1_
 have BK759:=n2_
 have HB:=n3_
 clear n0_ n1_ n2_ n3_
 clear hb ho8
 refine hK.out _ _ ⟨(blk_cell BK759.out 0).trans rfl,(blk_cell BK759.out 1).trans rfl⟩ (fun hHeld => ?_)
 clear hK K
 refine norm_ (a':=?_) ?_ ?_
 rotate_left
 ·show Act.put _ (some 14) _ = _
  simp only [Act.put,List.setIfInBounds_toArray,List.set_cons_zero,List.set_cons_succ,i64_w,i32_w]
  rfl
 refine pure_ (i:=3) (N:=some 8) (v:=?_) (a':=?_) #[true,true,true,true] rfl rfl (by kernel_rfl) (fun _ _ _ h => h) (Or.inl ⟨by rfl,?_⟩) ?_ ?_
 rotate_left
 ·intro w'
  go_simp
  with_reducible rfl
 rotate_left
 ·simp only [Act.put,List.setIfInBounds_toArray,List.set_cons_zero,List.set_cons_succ,i64_w,i32_w]
  rfl
 refine done_ (by kernel_rfl) ?_
 try go_wp2
 go_loopg [7,8,9] k (fun kq v7 v8 v9 w' => ∃ (x7_1:Int) (x8_1:List (S103)) (x9_1:Int),v7 = .int .u64 x7_1 ∧ v9 = .int .i64 x9_1 ∧ Aside0 (impl_grid_from.l0 kq a1 x7_1 x8_1 x9_1 a0_0 a0_1 = some r) ∧ Aside0 (kq ≤ k) ∧ Aside0 (Kd.R k103 103 w' w.heap.size (fun k_ => k_ ≠ gb759) v8 x8_1) ∧ Aside0 (w'.heap[gb758]? = some (.cells #[.int .i64 a0_0,.int .i64 a0_1] 49 (0,0))) ∧ Aside0 (w'.heap[gb759]? = some (.cells #[.int .i64 a2_0,.int .i64 a2_1] 103 (0,0))) ∧ Aside0 (Below w.heap.size w w'))
 case atStart => exact ⟨(0),(y760),(0),rs_,rs_,H',⟨Nat.le_refl _⟩,⟨by (with_reducible repeat (first | apply Kd.R_alloc | apply Kd.R_drewN | apply Kd.R_drew)); exact Kd.R_mono HO762.out (fun _ hk => hk.2)⟩,⟨bk_ BK758.out⟩,⟨bk_ BK759.out⟩,⟨bl2_ HB.out GE758.out GE759.out⟩⟩
 case round =>
  clear H'
  try clear c2
  try clear p2
  obtain ⟨x7_1,x8_1,x9_1,rfl,rfl,HA,HK1,HO_8,BK758,BK759,HB⟩:=hrel
  cases gk with
  | zero => exact absurd HA.out (by simp [impl_grid_from.l0])
  | succ k1 =>
   have H:=HA.out
   clear HA
   simp only [impl_grid_from.l0] at H
   by_cases c9:x9_1 < (x8_1.length:Int)
   ·rw [if_pos c9] at H
    have c9b0:decide (x9_1 < (x8_1.length:Int)) = true:=decide_eq_true c9
    clear c9
    obtain ⟨y763,hy763⟩:∃ y_:List Int,y_ = (([110,101,115,119]:List Int)):=⟨_,rfl⟩
    replace H:(impl_grid_from.l1 k1 a1 x7_1 x8_1 x9_1 y763 (y763.length:Int) 0 a0_0 a0_1) = some r:=by first | (rw [hy763]; with_reducible exact H) | (have H2_:=(Option.bind_some _ _).symm.trans H; rw [hy763]; with_reducible exact H2_) | (have H2_:=(Option.bind_some _ _).symm.trans H; with_reducible exact H2_) | with_reducible exact H | (rw [hy763]; exact H) | exact H
    have Ny763:=Aside0.mk hy763
    clear hy763
    have H':=Aside0.mk H
    clear H
    obtain ⟨Ao10,co10,eo10⟩:=Kd.R_slice HO_8.out
    subst eo10
    go_wp2_with (first | ((with_reducible refine gate_dst (N:=21) rfl ?_); refine MkR_lit 5 119 Tryd.underlying119 Tryd.underlying5 ?hg (N:=21) (N2:=22) ?hd (xs:=([110,101,115,119]:List Int)) (inner:=[.int .u8 110,.int .u8 101,.int .u8 115,.int .u8 119]) rfl ?hr ?hg2 ?hr2 (by simp) ?_; (case hd => rfl); (case hg => rfl); (case hg2 => rfl); (case hr => first | (go_simp; done) | (go_simp; rfl)); (case hr2 => intro hkc; first | (go_simp; done) | (go_simp; rfl)); intro v764 w11 ho12 hb hg_ hnew_; clear hg_ hnew_; (first | rw [← Ny763.out] at ho12 | (simp only [Int.reduceToNat] at ho12; rw [← Ny763.out] at ho12)); have n0_:=Aside0.mk (Kd.R_below (kr_ HO_8.out) hb); have n1_:=Aside0.mk (MkR_lower ho12 (below_size (bl2_ HB.out GE758.out GE759.out))); have n2_:=Aside0.mk (bb_ BK758.out hb); have n3_:=Aside0.mk (bb_ BK759.out hb); have n4_:=Aside0.mk (below_step (bl2_ HB.out GE758.out GE759.out) hb); clear HO_8; clear BK758; clear BK759; clear HB; have HO_8:=n0_; have HO765:=n1_; have BK758:=n2_; have BK759:=n3_; have HB:=n4_; clear n0_ n1_ n2_ n3_ n4_; clear hb ho12; obtain ⟨Ao13,co13,eo13⟩:=MkR_slice HO765.out; subst eo13))
    go_loopg [7,8,24] k1 (fun kq v7 v8 v24 w' => ∃ (x7_2:Int) (x8_2:List (S103)) (x24_2:Int),v7 = .int .u64 x7_2 ∧ v24 = .int .i64 x24_2 ∧ Aside0 (impl_grid_from.l1 kq a1 x7_2 x8_2 x9_1 y763 (y763.length:Int) x24_2 a0_0 a0_1 = some r) ∧ Aside0 (kq ≤ k1) ∧ Aside0 (Kd.R k103 103 w' w.heap.size (fun k_ => k_ ≠ gb759) v8 x8_2) ∧ Aside0 (MkR 5 w' w.heap.size (.slice Ao13 y763.length co13) y763) ∧ Aside0 (w'.heap[gb758]? = some (.cells #[.int .i64 a0_0,.int .i64 a0_1] 49 (0,0))) ∧ Aside0 (w'.heap[gb759]? = some (.cells #[.int .i64 a2_0,.int .i64 a2_1] 103 (0,0))) ∧ Aside0 (Below w.heap.size w w'))
    case atStart => exact ⟨(x7_1),(x8_1),(0),rs_,rs_,H',⟨Nat.le_refl _⟩,⟨kr_ HO_8.out⟩,⟨by (with_reducible repeat (first | apply MkR_alloc | apply MkR_drewN | apply MkR_drew)); exact HO765.out⟩,⟨bk_ BK758.out⟩,⟨bk_ BK759.out⟩,⟨bl2_ HB.out GE758.out GE759.out⟩⟩
    case round =>
     clear H'
     try clear c2
     try clear p2
     try clear c9
     try clear c9b0
     try clear p2
     obtain ⟨x7_2,x8_2,x24_2,rfl,rfl,HA,HK2,HO_8,HO_22,BK758,BK759,HB⟩:=hrel
     cases gk with
     | zero => exact absurd HA.out (by simp [impl_grid_from.l1])
     | succ k2 =>
      have H:=HA.out
      clear HA
      simp only [impl_grid_from.l1] at H
      by_cases c14:x24_2 < (y763.length:Int)
      ·rw [if_pos c14] at H
       have c14b0:decide (x24_2 < (y763.length:Int)) = true:=decide_eq_true c14
       clear c14
       by_cases c15:0 ≤ x24_2
       ·rw [if_pos c15] at H
        have c15b0:decide (0 ≤ x24_2) = true:=decide_eq_true c15
        clear c15
        by_cases c16:x24_2 < (y763.length:Int)
        ·rw [if_pos c16] at H
         have c16b0:decide (x24_2 < (y763.length:Int)) = true:=decide_eq_true c16
         clear c16
         by_cases c17:0 ≤ x9_1
         ·rw [if_pos c17] at H
          have c17b0:decide (0 ≤ x9_1) = true:=decide_eq_true c17
          clear c17
          by_cases c18:x9_1 < (x8_2.length:Int)
          ·rw [if_pos c18] at H
           have c18b0:decide (x9_1 < (x8_2.length:Int)) = true:=decide_eq_true c18
           clear c18
           replace H:=Option.bind_eq_some_iff.mp H
           obtain ⟨t768,A190,H⟩:=H
           replace H:(if (Go.bits .andNot .u64 (Go.bits .and .u64 t768 a1) x7_2) = 0 then (impl_grid_from.l1 k2 a1 x7_2 x8_2 x9_1 y763 (y763.length:Int) (wrap64 (x24_2 + 1)) a0_0 a0_1) else ((impl_Corner_next.f ((rd_T103 x8_2 x9_1).f0) ((rd_T103 x8_2 x9_1).f1) (rd y763 x24_2)).bind fun bt770 => (if x8_2.length < 8796093022208 then (impl_grid_from.l1 k2 a1 (Go.bits .or .u64 x7_2 t768) (x8_2 ++ [(⟨bt770.1,bt770.2⟩:S103)]) x9_1 y763 (y763.length:Int) (wrap64 (x24_2 + 1)) a0_0 a0_1) else (none)))) = some r:=H
           have A19:=Aside0.mk A190
           clear A190
           by_cases c20:(Go.bits .andNot .u64 (Go.bits .and .u64 t768 a1) x7_2) = 0
           ·rw [if_pos c20] at H
            have c20b0:((Go.bits .andNot .u64 (Go.bits .and .u64 t768 a1) x7_2) == 0) = true:=beq_iff_eq.mpr c20
            have c20b1:((Go.bits .andNot .u64 (Go.bits .and .u64 t768 a1) x7_2) != 0) = false:=bne_eq_false_iff_eq.mpr c20
            clear c20
            have H':=Aside0.mk H
            clear H
            have p766:0 ≤ (x24_2:Int):=of_decide_eq_true as_
            have q766:x24_2 < (y763.length:Int):=of_decide_eq_true as_
            obtain ⟨ad766,e766,hx766_0⟩:=Kd.at_int (MkR_reads' HO_22.out).2.2 x24_2 p766 q766
            cases e766
            replace p766:=eq_true p766
            replace q766:=eq_true q766
            try go_wp2
            have n0_:=Aside0.mk (Kd.R_drew HO_8.out)
            have n1_:=Aside0.mk (MkR_drew HO_22.out)
            have n2_:=Aside0.mk (blk_drew BK758.out)
            have n3_:=Aside0.mk (blk_drew BK759.out)
            have n4_:=Aside0.mk (below_drew1 HB.out)
            clear HO_8
            clear HO_22
            clear BK758
            clear BK759
            clear HB
            have HO_8:=n0_
            have HO_22:=n1_
            have BK758:=n2_
            have BK759:=n3_
            have HB:=n4_
            clear n0_ n1_ n2_ n3_ n4_
            obtain ⟨Ao22,co22,eo22⟩:=Kd.R_slice HO_8.out
            (first | subst eo22 | (injection eo22 with f1_ f2_ f3_; have f4_:=f1_.symm; have f5_:=f3_.symm; clear f1_ f2_ f3_; subst f4_; subst f5_))
            have p767:0 ≤ (x9_1:Int):=of_decide_eq_true as_
            have q767:x9_1 < (x8_2.length:Int):=of_decide_eq_true as_
            obtain ⟨ad767,e767,hx767_0,hx767_1⟩:=at_T103 (Kd.R_reads' HO_8.out).2.2 x9_1 p767 q767
            cases e767
            replace p767:=eq_true p767
            replace q767:=eq_true q767
            refine start_ (n:=8) (S:=fun w' => w'.cell? ⟨gb758,0,none⟩ = some (.int .i64 a0_0) ∧ w'.cell? ⟨gb758,1,none⟩ = some (.int .i64 a0_1) ∧ w'.cell? (ad767.add ((x9_1).toNat * 2)) = some (.int .i64 ((rd_T103 x8_2 x9_1).f0)) ∧ w'.cell? ⟨(ad767.add ((x9_1).toNat * 2)).block,(ad767.add ((x9_1).toNat * 2)).off + 1,none⟩ = some (.int .i64 ((rd_T103 x8_2 x9_1).f1))) (ds:=[]) #[false,false,false,false,false,false,false,false] (by kernel_rfl) rfl rfl ⟨(blk_cell BK758.out 0).trans rfl,(blk_cell BK758.out 1).trans rfl,hx767_0,hx767_1⟩ (fun hHeld => ?_); refine with_tabW impl_grid_from.tab8 impl_grid_from.bits8 (fun HT_ HW_ => ?_)
            generalize wr.drew = w21 at HO_8 HO_22 BK758 BK759 HB hx767_0 hx767_1 hHeld ⊢
            refine pure_ (i:=1) (N:=some 29) (v:=?_) (a':=?_) #[false,true,false,false,false,false,false,false] rfl rfl (any_of HT_.out (by kernel_rfl)) (fun _ _ _ h => h) (Or.inl ⟨by rfl,?_⟩) ?_ ?_
            rotate_left
            ·intro w'
             go_simp
             with_reducible rfl
            rotate_left
            ·simp only [Act.put,List.setIfInBounds_toArray,List.set_cons_zero,List.set_cons_succ,i64_w,i32_w]
             rfl
            refine pure_ (i:=2) (N:=some 30) (v:=?_) (a':=?_) #[false,true,true,false,false,false,false,false] rfl rfl (any_of HT_.out (by kernel_rfl)) (fun _ _ _ h => h) (Or.inl ⟨by rfl,?_⟩) ?_ ?_
            rotate_left
            ·intro w'
             go_simp
             with_reducible rfl
            rotate_left
            ·simp only [Act.put,List.setIfInBounds_toArray,List.set_cons_zero,List.set_cons_succ,i64_w,i32_w]
             rfl
            refine pure_ (i:=3) (N:=some 31) (v:=?_) (a':=?_) #[false,true,true,true,false,false,false,false] rfl rfl (any_of HT_.out (by kernel_rfl)) (fun _ _ _ h => h) (Or.inl ⟨by rfl,?_⟩) ?_ ?_
            rotate_left
            ·intro w'
             go_simp
             with_reducible rfl
            rotate_left
            ·simp only [Act.put,List.setIfInBounds_toArray,List.set_cons_zero,List.set_cons_succ,i64_w,i32_w]
             rfl
            refine pure_ (i:=5) (N:=some 33) (v:=?_) (a':=?_) #[false,true,true,true,false,true,false,false] rfl rfl (any_of HT_.out (by kernel_rfl)) (fun _ _ _ h => h) (Or.inl ⟨by rfl,?_⟩) ?_ ?_
            rotate_left
            ·intro w'
             go_simp
             with_reducible rfl
            rotate_left
            ·simp only [Act.put,List.setIfInBounds_toArray,List.set_cons_zero,List.set_cons_succ,i64_w,i32_w]
             rfl
            refine take_ (i:=0) (N:=some 28) (v:=?_) (a':=?_) #[true,true,true,true,false,true,false,false] rfl rfl (take_ofW HT_.out HW_.out (by kernel_rfl)) (fun _ _ _ h => h) (Or.inl ⟨by rfl,?_⟩) hHeld ?_ ?_
            rotate_left
            ·rintro w' ⟨s0,s1,s2,s3⟩
             go_simp
             with_reducible rfl
            rotate_left
            ·simp only [Act.put,List.setIfInBounds_toArray,List.set_cons_zero,List.set_cons_succ,i64_w,i32_w]
             rfl
            refine take_ (i:=4) (N:=some 32) (v:=?_) (a':=?_) #[true,true,true,true,true,true,false,false] rfl rfl (take_ofW HT_.out HW_.out (by kernel_rfl)) (fun _ _ _ h => h) (Or.inl ⟨by rfl,?_⟩) hHeld ?_ ?_
            rotate_left
            ·rintro w' ⟨s0,s1,s2,s3⟩
             go_simp
             with_reducible rfl
            rotate_left
            ·simp only [Act.put,List.setIfInBounds_toArray,List.set_cons_zero,List.set_cons_succ,i64_w,i32_w]
             rfl
            refine one_ (i:=6) (N:=some 34) #[true,true,true,true,true,true,true,false] rfl rfl (one_of HT_.out (by kernel_rfl)) (by decide) (fun K hK => ?_)
            refine goes_ Tryd.func107 (by kernel_rfl) rfl #[.agg #[.int .i64 a0_0,.int .i64 a0_1],.agg #[.int .i64 ((rd_T103 x8_2 x9_1).f0),.int .i64 ((rd_T103 x8_2 x9_1).f1)],.int .u8 (rd y763 x24_2)] (by rfl) rfl rfl ob_ ?_
            with_reducible refine (impl_grid_between.calls k2 a0_0 a0_1 ((rd_T103 x8_2 x9_1).f0) ((rd_T103 x8_2 x9_1).f1) (rd y763 x24_2) t768 _ A19.out).mono ?_
            rintro e w23 ⟨rfl,hb⟩
            have HS2_:=(hb.cell (World.block_lt_of_cell? _ _ (hHeld.2.2.1))).trans (hHeld.2.2.1)
            have HS3_:=(hb.cell (World.block_lt_of_cell? _ _ (hHeld.2.2.2))).trans (hHeld.2.2.2)
            refine ⟨_,rfl,?_⟩
            have n0_:=Aside0.mk (Kd.R_below (kr_ HO_8.out) hb)
            have n1_:=Aside0.mk (MkR_below (by (with_reducible repeat (first | apply MkR_alloc | apply MkR_drewN | apply MkR_drew)); exact HO_22.out) hb)
            have n2_:=Aside0.mk (bb_ BK758.out hb)
            have n3_:=Aside0.mk (bb_ BK759.out hb)
            have n4_:=Aside0.mk (below_step (bl2_ HB.out GE758.out GE759.out) hb)
            clear HO_8
            clear HO_22
            clear BK758
            clear BK759
            clear HB
            have HO_8:=n0_
            have HO_22:=n1_
            have BK758:=n2_
            have BK759:=n3_
            have HB:=n4_
            clear n0_ n1_ n2_ n3_ n4_
            (try clear hb)
            (try clear hb2)
            (try clear hk)
            (try clear hi)
            refine hK.out _ _ ⟨(blk_cell BK758.out 0).trans rfl,(blk_cell BK758.out 1).trans rfl,HS2_,HS3_⟩ (fun hHeld => ?_)
            clear hK K
            refine norm_ (a':=?_) ?_ ?_
            rotate_left
            ·show Act.put _ (some 34) _ = _
             simp only [Act.put,List.setIfInBounds_toArray,List.set_cons_zero,List.set_cons_succ,i64_w,i32_w]
             rfl
            refine pure_ (i:=7) (N:=some 12) (v:=?_) (a':=?_) #[true,true,true,true,true,true,true,true] rfl rfl (any_of HT_.out (by kernel_rfl)) (fun _ _ _ h => h) (Or.inl ⟨by rfl,?_⟩) ?_ ?_
            rotate_left
            ·intro w'
             go_simp
             with_reducible rfl
            rotate_left
            ·simp only [Act.put,List.setIfInBounds_toArray,List.set_cons_zero,List.set_cons_succ,i64_w,i32_w]
             rfl
            refine done_ (done_of HT_.out (by kernel_rfl)) ?_
            try go_wp2
            go_roundg k2
            case measure => have:=HK1.out; have:=HK2.out; omega
            case rel => exact ⟨(x7_2),(x8_2),(wrap64 (x24_2 + 1)),rs_,rs_,H',⟨by have:=HK1.out; have:=HK2.out; omega⟩,⟨kr_ HO_8.out⟩,⟨by (with_reducible repeat (first | apply MkR_alloc | apply MkR_drewN | apply MkR_drew)); exact HO_22.out⟩,⟨bk_ BK758.out⟩,⟨bk_ BK759.out⟩,⟨bl2_ HB.out GE758.out GE759.out⟩⟩
           ·rw [if_neg c20] at H
            have c20b0:((Go.bits .andNot .u64 (Go.bits .and .u64 t768 a1) x7_2) == 0) = false:=beq_eq_false_iff_ne.mpr c20
            have c20b1:((Go.bits .andNot .u64 (Go.bits .and .u64 t768 a1) x7_2) != 0) = true:=bne_iff_ne.mpr c20
            replace H:=Option.bind_eq_some_iff.mp H
            obtain ⟨⟨t770,t771⟩,A240,H⟩:=H
            replace H:(if x8_2.length < 8796093022208 then (impl_grid_from.l1 k2 a1 (Go.bits .or .u64 x7_2 t768) (x8_2 ++ [(⟨t770,t771⟩:S103)]) x9_1 y763 (y763.length:Int) (wrap64 (x24_2 + 1)) a0_0 a0_1) else (none)) = some r:=H
            have A24:=Aside0.mk A240
            clear A240
            by_cases c25:x8_2.length < 8796093022208
            ·rw [if_pos c25] at H
             have LMc25:=Aside0.mk c25
             clear c25
             obtain ⟨y772,hy772⟩:∃ y_:List (S103),y_ = (x8_2 ++ [(⟨t770,t771⟩:S103)]):=⟨_,rfl⟩
             replace H:(impl_grid_from.l1 k2 a1 (Go.bits .or .u64 x7_2 t768) y772 x9_1 y763 (y763.length:Int) (wrap64 (x24_2 + 1)) a0_0 a0_1) = some r:=by first | (rw [hy772]; with_reducible exact H) | (have H2_:=(Option.bind_some _ _).symm.trans H; rw [hy772]; with_reducible exact H2_) | (have H2_:=(Option.bind_some _ _).symm.trans H; with_reducible exact H2_) | with_reducible exact H | (rw [hy772]; exact H) | exact H
             have Ny772:=Aside0.mk hy772
             clear hy772
             have H':=Aside0.mk H
             clear H
             have p766:0 ≤ (x24_2:Int):=of_decide_eq_true as_
             have q766:x24_2 < (y763.length:Int):=of_decide_eq_true as_
             obtain ⟨ad766,e766,hx766_0⟩:=Kd.at_int (MkR_reads' HO_22.out).2.2 x24_2 p766 q766
             cases e766
             replace p766:=eq_true p766
             replace q766:=eq_true q766
             try go_wp2
             have n0_:=Aside0.mk (Kd.R_drew HO_8.out)
             have n1_:=Aside0.mk (MkR_drew HO_22.out)
             have n2_:=Aside0.mk (blk_drew BK758.out)
             have n3_:=Aside0.mk (blk_drew BK759.out)
             have n4_:=Aside0.mk (below_drew1 HB.out)
             clear HO_8
             clear HO_22
             clear BK758
             clear BK759
             clear HB
             have HO_8:=n0_
             have HO_22:=n1_
             have BK758:=n2_
             have BK759:=n3_
             have HB:=n4_
             clear n0_ n1_ n2_ n3_ n4_
             obtain ⟨Ao27,co27,eo27⟩:=Kd.R_slice HO_8.out
             (first | subst eo27 | (injection eo27 with f1_ f2_ f3_; have f4_:=f1_.symm; have f5_:=f3_.symm; clear f1_ f2_ f3_; subst f4_; subst f5_))
             have p767:0 ≤ (x9_1:Int):=of_decide_eq_true as_
             have q767:x9_1 < (x8_2.length:Int):=of_decide_eq_true as_
             obtain ⟨ad767,e767,hx767_0,hx767_1⟩:=at_T103 (Kd.R_reads' HO_8.out).2.2 x9_1 p767 q767
             cases e767
             replace p767:=eq_true p767
             replace q767:=eq_true q767
             refine start_ (n:=8) (S:=fun w' => w'.cell? ⟨gb758,0,none⟩ = some (.int .i64 a0_0) ∧ w'.cell? ⟨gb758,1,none⟩ = some (.int .i64 a0_1) ∧ w'.cell? (ad767.add ((x9_1).toNat * 2)) = some (.int .i64 ((rd_T103 x8_2 x9_1).f0)) ∧ w'.cell? ⟨(ad767.add ((x9_1).toNat * 2)).block,(ad767.add ((x9_1).toNat * 2)).off + 1,none⟩ = some (.int .i64 ((rd_T103 x8_2 x9_1).f1))) (ds:=[]) #[false,false,false,false,false,false,false,false] (by kernel_rfl) rfl rfl ⟨(blk_cell BK758.out 0).trans rfl,(blk_cell BK758.out 1).trans rfl,hx767_0,hx767_1⟩ (fun hHeld => ?_); refine with_tabW impl_grid_from.tab8 impl_grid_from.bits8 (fun HT_ HW_ => ?_)
             generalize wr.drew = w26 at HO_8 HO_22 BK758 BK759 HB hx767_0 hx767_1 hHeld ⊢
             refine pure_ (i:=1) (N:=some 29) (v:=?_) (a':=?_) #[false,true,false,false,false,false,false,false] rfl rfl (any_of HT_.out (by kernel_rfl)) (fun _ _ _ h => h) (Or.inl ⟨by rfl,?_⟩) ?_ ?_
             rotate_left
             ·intro w'
              go_simp
              with_reducible rfl
             rotate_left
             ·simp only [Act.put,List.setIfInBounds_toArray,List.set_cons_zero,List.set_cons_succ,i64_w,i32_w]
              rfl
             refine pure_ (i:=2) (N:=some 30) (v:=?_) (a':=?_) #[false,true,true,false,false,false,false,false] rfl rfl (any_of HT_.out (by kernel_rfl)) (fun _ _ _ h => h) (Or.inl ⟨by rfl,?_⟩) ?_ ?_
             rotate_left
             ·intro w'
              go_simp
              with_reducible rfl
             rotate_left
             ·simp only [Act.put,List.setIfInBounds_toArray,List.set_cons_zero,List.set_cons_succ,i64_w,i32_w]
              rfl
             refine pure_ (i:=3) (N:=some 31) (v:=?_) (a':=?_) #[false,true,true,true,false,false,false,false] rfl rfl (any_of HT_.out (by kernel_rfl)) (fun _ _ _ h => h) (Or.inl ⟨by rfl,?_⟩) ?_ ?_
             rotate_left
             ·intro w'
              go_simp
              with_reducible rfl
             rotate_left
             ·simp only [Act.put,List.setIfInBounds_toArray,List.set_cons_zero,List.set_cons_succ,i64_w,i32_w]
              rfl
             refine pure_ (i:=5) (N:=some 33) (v:=?_) (a':=?_) #[false,true,true,true,false,true,false,false] rfl rfl (any_of HT_.out (by kernel_rfl)) (fun _ _ _ h => h) (Or.inl ⟨by rfl,?_⟩) ?_ ?_
             rotate_left
             ·intro w'
              go_simp
              with_reducible rfl
             rotate_left
             ·simp only [Act.put,List.setIfInBounds_toArray,List.set_cons_zero,List.set_cons_succ,i64_w,i32_w]
              rfl
             refine take_ (i:=0) (N:=some 28) (v:=?_) (a':=?_) #[true,true,true,true,false,true,false,false] rfl rfl (take_ofW HT_.out HW_.out (by kernel_rfl)) (fun _ _ _ h => h) (Or.inl ⟨by rfl,?_⟩) hHeld ?_ ?_
             rotate_left
             ·rintro w' ⟨s0,s1,s2,s3⟩
              go_simp
              with_reducible rfl
             rotate_left
             ·simp only [Act.put,List.setIfInBounds_toArray,List.set_cons_zero,List.set_cons_succ,i64_w,i32_w]
              rfl
             refine take_ (i:=4) (N:=some 32) (v:=?_) (a':=?_) #[true,true,true,true,true,true,false,false] rfl rfl (take_ofW HT_.out HW_.out (by kernel_rfl)) (fun _ _ _ h => h) (Or.inl ⟨by rfl,?_⟩) hHeld ?_ ?_
             rotate_left
             ·rintro w' ⟨s0,s1,s2,s3⟩
              go_simp
              with_reducible rfl
             rotate_left
             ·simp only [Act.put,List.setIfInBounds_toArray,List.set_cons_zero,List.set_cons_succ,i64_w,i32_w]
              rfl
             refine one_ (i:=6) (N:=some 34) #[true,true,true,true,true,true,true,false] rfl rfl (one_of HT_.out (by kernel_rfl)) (by decide) (fun K hK => ?_)
             refine goes_ Tryd.func107 (by kernel_rfl) rfl #[.agg #[.int .i64 a0_0,.int .i64 a0_1],.agg #[.int .i64 ((rd_T103 x8_2 x9_1).f0),.int .i64 ((rd_T103 x8_2 x9_1).f1)],.int .u8 (rd y763 x24_2)] (by rfl) rfl rfl ob_ ?_
             with_reducible refine (impl_grid_between.calls k2 a0_0 a0_1 ((rd_T103 x8_2 x9_1).f0) ((rd_T103 x8_2 x9_1).f1) (rd y763 x24_2) t768 _ A19.out).mono ?_
             rintro e w28 ⟨rfl,hb⟩
             have HS2_:=(hb.cell (World.block_lt_of_cell? _ _ (hHeld.2.2.1))).trans (hHeld.2.2.1)
             have HS3_:=(hb.cell (World.block_lt_of_cell? _ _ (hHeld.2.2.2))).trans (hHeld.2.2.2)
             refine ⟨_,rfl,?_⟩
             have n0_:=Aside0.mk (Kd.R_below (kr_ HO_8.out) hb)
             have n1_:=Aside0.mk (MkR_below (by (with_reducible repeat (first | apply MkR_alloc | apply MkR_drewN | apply MkR_drew)); exact HO_22.out) hb)
             have n2_:=Aside0.mk (bb_ BK758.out hb)
             have n3_:=Aside0.mk (bb_ BK759.out hb)
             have n4_:=Aside0.mk (below_step (bl2_ HB.out GE758.out GE759.out) hb)
             clear HO_8
             clear HO_22
             clear BK758
             clear BK759
             clear HB
             have HO_8:=n0_
             have HO_22:=n1_
             have BK758:=n2_
             have BK759:=n3_
             have HB:=n4_
             clear n0_ n1_ n2_ n3_ n4_
             (try clear hb)
             (try clear hb2)
             (try clear hk)
             (try clear hi)
             refine hK.out _ _ ⟨(blk_cell BK758.out 0).trans rfl,(blk_cell BK758.out 1).trans rfl,HS2_,HS3_⟩ (fun hHeld => ?_)
             clear hK K
             refine norm_ (a':=?_) ?_ ?_
             rotate_left
             ·show Act.put _ (some 34) _ = _
              simp only [Act.put,List.setIfInBounds_toArray,List.set_cons_zero,List.set_cons_succ,i64_w,i32_w]
              rfl
             refine pure_ (i:=7) (N:=some 12) (v:=?_) (a':=?_) #[true,true,true,true,true,true,true,true] rfl rfl (any_of HT_.out (by kernel_rfl)) (fun _ _ _ h => h) (Or.inl ⟨by rfl,?_⟩) ?_ ?_
             rotate_left
             ·intro w'
              go_simp
              with_reducible rfl
             rotate_left
             ·simp only [Act.put,List.setIfInBounds_toArray,List.set_cons_zero,List.set_cons_succ,i64_w,i32_w]
              rfl
             refine done_ (done_of HT_.out (by kernel_rfl)) ?_
             have p769:0 ≤ (x9_1:Int):=of_decide_eq_true as_
             have q769:x9_1 < (x8_2.length:Int):=of_decide_eq_true as_
             obtain ⟨ad769,e769,hx769_0,hx769_1⟩:=at_T103 (Kd.R_reads' HO_8.out).2.2 x9_1 p769 q769
             obtain rfl:ad767 = ad769:=(by injection e769)
             replace p769:=eq_true p769
             replace q769:=eq_true q769
             try go_wp2_with (first | ((with_reducible refine gate_callee (f:=108) rfl ?_); refine goesL_ (some 50) rfl rfl Tryd.func108 (by kernel_rfl) rfl #[.agg #[.int .i64 ((rd_T103 x8_2 x9_1).f0),.int .i64 ((rd_T103 x8_2 x9_1).f1)],.int .u8 (rd y763 x24_2)] rfl ob_ ?_; (with_reducible refine (impl_Corner_next.calls ((rd_T103 x8_2 x9_1).f0) ((rd_T103 x8_2 x9_1).f1) (rd y763 x24_2) t770 t771 _ A24.out).mono ?_); rintro e w29 ⟨rfl,hb⟩; refine ⟨_,rfl,?_⟩; have n0_:=Aside0.mk (Kd.R_below (kr_ HO_8.out) hb); have n1_:=Aside0.mk (MkR_below (by (with_reducible repeat (first | apply MkR_alloc | apply MkR_drewN | apply MkR_drew)); exact HO_22.out) hb); have n2_:=Aside0.mk (bb_ BK758.out hb); have n3_:=Aside0.mk (bb_ BK759.out hb); have n4_:=Aside0.mk (below_step (bl2_ HB.out GE758.out GE759.out) hb); clear HO_8; clear HO_22; clear BK758; clear BK759; clear HB; have HO_8:=n0_; have HO_22:=n1_; have BK758:=n2_; have BK759:=n3_; have HB:=n4_; clear n0_ n1_ n2_ n3_ n4_; (try clear hb); (try clear hb2); (try clear hk); (try clear hi)) | ((with_reducible refine gate_builtin (b:=.append) (xs:=#[.tmp 44,.tmp 51]) rfl ?_); at_builtin; refine Kd.R_append k103 (w0:=w) w.heap.size rfl (.tmp 44) (.tmp 51) 104 103 (.agg #[(.int .i64 0),(.int .i64 0)]) 16 rfl Tryd.underlying104 info103 rfl (by decide) (by omega) (.slice (some ad767) x8_2.length co27) x8_2 (⟨t770,t771⟩:S103) [.int .i64 t770,.int .i64 t771] (fun k_ => k_ ≠ gb759) (fun _ => False) rfl rfl ?aP (fun _ hk => hk.elim) ?aF ?aO ?aB ?aS ?aL ?_; (case aP => exact k103_mkM _ _ _ (⟨t770,t771⟩:S103)); (case aB => exact (bl2_ HB.out GE758.out GE759.out)); (case aF => exact (fun k_ hk => Kd.freshB (g:=gb759) (o:=.cells #[.int .i64 a2_0,.int .i64 a2_1] 103 (0,0)) (bk_ BK759.out) k_ hk)); (case aO => exact (kr_ HO_8.out)); (case aS => exact (below_size (bl2_ HB.out GE758.out GE759.out))); (case aL => have:=LMc25.out; omega); intro v773 w30 ho hb hg hat; rw [← Ny772.out] at ho; have n0_:=Aside0.mk (MkR_over' (by (with_reducible repeat (first | apply MkR_alloc | apply MkR_drewN | apply MkR_drew)); exact HO_22.out) (Kd.R_typed (kr_ HO_8.out)) (by decide) hg); have n1_:=Aside0.mk (blk_grown (g:=gb758) (o:=.cells #[.int .i64 a0_0,.int .i64 a0_1] 49 (0,0)) (bk_ BK758.out) hg (Kd.R_ne HO_8.out BK758.out (by decide))); have n2_:=Aside0.mk (blk_grown (g:=gb759) (o:=.cells #[.int .i64 a2_0,.int .i64 a2_1] 103 (0,0)) (bk_ BK759.out) hg (Kd.R_away HO_8.out (fun _ hk => hk))); have n3_:=Aside0.mk (hb); have n4_:=Aside0.mk (ho); clear HO_22; clear BK758; clear BK759; clear HB; clear HO_8; have HO_22:=n0_; have BK758:=n1_; have BK759:=n2_; have HB:=n3_; have HO774:=n4_; clear n0_ n1_ n2_ n3_ n4_; clear ho hb hg hat))
             go_roundg k2
             case measure => have:=HK1.out; have:=HK2.out; omega
             case rel => exact ⟨(Go.bits .or .u64 x7_2 t768),(y772),(wrap64 (x24_2 + 1)),rs_,rs_,H',⟨by have:=HK1.out; have:=HK2.out; omega⟩,⟨kr_ HO774.out⟩,⟨by (with_reducible repeat (first | apply MkR_alloc | apply MkR_drewN | apply MkR_drew)); exact HO_22.out⟩,⟨bk_ BK758.out⟩,⟨bk_ BK759.out⟩,⟨bl2_ HB.out GE758.out GE759.out⟩⟩
            ·rw [if_neg c25] at H
             exact absurd H (by simp)
          ·rw [if_neg c18] at H
           exact absurd H (by simp)
         ·rw [if_neg c17] at H
          exact absurd H (by simp)
        ·rw [if_neg c16] at H
         exact absurd H (by simp)
       ·rw [if_neg c15] at H
        exact absurd H (by simp)
      ·rw [if_neg c14] at H
       have c14b0:decide (x24_2 < (y763.length:Int)) = false:=decide_eq_false c14
       clear c14
       have H':=Aside0.mk H
       clear H
       go_wp2
       go_roundg k2
       case measure => have:=HK1.out; have:=HK2.out; omega
       case rel => exact ⟨(x7_2),(x8_2),(wrap64 (x9_1 + 1)),rs_,rs_,H',⟨by have:=HK1.out; have:=HK2.out; omega⟩,⟨kr_ HO_8.out⟩,⟨bk_ BK758.out⟩,⟨bk_ BK759.out⟩,⟨bl2_ HB.out GE758.out GE759.out⟩⟩
   ·rw [if_neg c9] at H
    have c9b0:decide (x9_1 < (x8_1.length:Int)) = false:=decide_eq_false c9
    clear c9
    obtain rfl:=Option.some.inj H
    obtain ⟨Ao31,co31,eo31⟩:=Kd.R_slice HO_8.out
    subst eo31
    go_wp2
    go_ret
    exact ⟨er_,bl2_ HB.out GE758.out GE759.out⟩


def impl_grid_parts.l0:Nat → Int → List Int → List (S103) → Int → Int → Int → Int → Option (List Int)
 | 0,_,_,_,_,_,_,_ => none
 | k + 1,x1,x5,x11,x12,x13,x776000,x776001 => if x13 < x12 then (if 0 ≤ x13 then (if x13 < (x11.length:Int) then ((impl_grid_from.f k x776000 x776001 x1 ((rd_T103 x11 x13).f0) ((rd_T103 x11 x13).f1)).bind fun t784 => (if t784 = 0 then (impl_grid_parts.l0 k x1 x5 x11 x12 (wrap64 (x13 + 1)) x776000 x776001) else (if x5.length < 17592186044416 then (impl_grid_parts.l0 k (Go.bits .andNot .u64 x1 t784) (x5 ++ [t784]) x11 x12 (wrap64 (x13 + 1)) x776000 x776001) else (none)))) else (none)) else (none)) else (some x5)
def impl_grid_parts.f (k:Nat) (a0_0:Int) (a0_1:Int) (a1:Int):Option (List Int):=(impl_grid_corners.f k a0_0 a0_1).bind fun t779 => (impl_grid_parts.l0 k a1 (([]:List Int)) t779 (t779.length:Int) 0 a0_0 a0_1)
theorem impl_grid_parts.mono_l:∀ k,(∀ y0 y1 y2 y3 y4 y5 y6,LeO (impl_grid_parts.l0 k y0 y1 y2 y3 y4 y5 y6) (impl_grid_parts.l0 (k + 1) y0 y1 y2 y3 y4 y5 y6))
 | 0 => fun _ _ _ _ _ _ _ r h => by simp [impl_grid_parts.l0] at h
 | k + 1 => by
  have ih0:=impl_grid_parts.mono_l k
  ·intro y0 y1 y2 y3 y4 y5 y6
   unfold impl_grid_parts.l0
   repeat' first
   | (with_reducible exact ih0 _ _ _ _ _ _ _)
   | (with_reducible exact impl_grid_corners.mono _ _ _)
   | (with_reducible exact impl_grid_from.mono _ _ _ _ _ _)
   | (with_reducible exact LeO.refl _)
   | (with_reducible exact LeO.none _)
   | (with_reducible refine LeO.ite ?_ ?_)
   | (with_reducible refine LeO.bind ?_ (fun _ => ?_))
   | exact ih0 _ _ _ _ _ _ _
   | exact impl_grid_corners.mono _ _ _
   | exact impl_grid_from.mono _ _ _ _ _ _
   | exact LeO.none _
   | refine LeO.ite ?_ ?_
   | refine LeO.bind ?_ (fun _ => ?_)
theorem impl_grid_parts.mono:∀ a0 a1 a2 k,LeO (impl_grid_parts.f k a0 a1 a2) (impl_grid_parts.f (k + 1) a0 a1 a2):=by
 intro a0 a1 a2 k
 have ih0:=impl_grid_parts.mono_l k
 unfold impl_grid_parts.f
 repeat' first
   | (with_reducible exact ih0 _ _ _ _ _ _ _)
   | (with_reducible exact impl_grid_corners.mono _ _ _)
   | (with_reducible exact impl_grid_from.mono _ _ _ _ _ _)
   | (with_reducible exact LeO.refl _)
   | (with_reducible exact LeO.none _)
   | (with_reducible refine LeO.ite ?_ ?_)
   | (with_reducible refine LeO.bind ?_ (fun _ => ?_))
   | exact ih0 _ _ _ _ _ _ _
   | exact impl_grid_corners.mono _ _ _
   | exact impl_grid_from.mono _ _ _ _ _ _
   | exact LeO.none _
   | refine LeO.ite ?_ ?_
   | refine LeO.bind ?_ (fun _ => ?_)
set_option maxHeartbeats 8000000 in
set_option maxRecDepth 100000 in
theorem impl_grid_parts.calls (k:Nat) (a0_0:Int) (a0_1:Int) (a1:Int) (r:List Int) (w:World) (h:impl_grid_parts.f k a0_0 a0_1 a1 = some r) :
  Calls Tryd.prog 66 #[.agg #[.int .i64 a0_0,.int .i64 a0_1],.int .u64 a1] w fun e w' => ∃ v0_:Value,e = .returned (v0_) ∧ Kd.R (Kd.int .u64) 53 w' w.heap.size (fun _ => True) v0_ r ∧ Below w.heap.size w w':=by
 have hu49:=Tryd.underlying49
 have hu103:=Tryd.underlying103
 have HB:=Aside0.mk (Below.refl w.heap.size w)
 have H:((impl_grid_corners.f k a0_0 a0_1).bind fun t779 => (impl_grid_parts.l0 k a1 (([]:List Int)) t779 (t779.length:Int) 0 a0_0 a0_1)) = some r:=h
 clear h
 obtain ⟨y776,hy776⟩:∃ y_:List Int,y_ = (([]:List Int)):=⟨_,rfl⟩
 replace H:((impl_grid_corners.f k a0_0 a0_1).bind fun t779 => (impl_grid_parts.l0 k a1 y776 t779 (t779.length:Int) 0 a0_0 a0_1)) = some r:=by first | (rw [hy776]; with_reducible exact H) | (have H2_:=(Option.bind_some _ _).symm.trans H; rw [hy776]; with_reducible exact H2_) | (have H2_:=(Option.bind_some _ _).symm.trans H; with_reducible exact H2_) | with_reducible exact H | (rw [hy776]; exact H) | exact H
 have Ny776:=Aside0.mk hy776
 clear hy776
 replace H:=Option.bind_eq_some_iff.mp H
 obtain ⟨t779,A30,H⟩:=H
 replace H:(impl_grid_parts.l0 k a1 y776 t779 (t779.length:Int) 0 a0_0 a0_1) = some r:=H
 have A3:=Aside0.mk A30
 clear A30
 have H':=Aside0.mk H
 clear H
 go_enter Tryd.func66,Tryd.ntmps66
 go_wp2_with (first | ((with_reducible refine gate_dst (N:=2) rfl ?_); refine boxE_ (N:=2) (cs:=#[.int .i64 a0_0,.int .i64 a0_1]) (t:=49) ?_; intro gb775 hg w4 hbox hb; have n0_:=Aside0.mk (below_step (bl0_ HB.out) hb); have n1_:=Aside0.mk (hbox); have n2_:=Aside0.mk ((bs0_ hg HB.out:w.heap.size ≤ gb775)); have n3_:=Aside0.mk ((bs0_ hg HB.out:w.heap.size ≤ gb775)); clear HB; have HB:=n0_; have BK775:=n1_; have GW775:=n2_; have GE775:=n3_; clear n0_ n1_ n2_ n3_; clear hb hbox hg) | ((with_reducible refine gate_dst (N:=9) rfl ?_); refine Kd.R_lit (Kd.int .u64) _ 53 ?hg (N:=9) ?hd (xs:=([]:List Int)) (inner:=[]) (ok:=fun _ => True) (okp:=fun _ => True) ?hr ?hp (fun _ hk => hk) trivial (Below.refl _ _) (Nat.le_refl _) (by simp) ?_; (case hd => rfl); (case hg => rfl); (case hr => first | (go_simp; done) | (go_simp; rfl)); (case hp => exact (Reps.none _ _)); intro v777 w5 ho6 hb hg_ hnew_; clear hg_ hnew_; (first | rw [← Ny776.out] at ho6 | (simp only [Int.reduceToNat] at ho6; rw [← Ny776.out] at ho6)); have n0_:=Aside0.mk (Kd.R_lower ho6 (below_size (bl1_ HB.out GE775.out))); have n1_:=Aside0.mk (bb_ BK775.out hb); have n2_:=Aside0.mk (below_step (bl1_ HB.out GE775.out) hb); clear BK775; clear HB; have HO778:=n0_; have BK775:=n1_; have HB:=n2_; clear n0_ n1_ n2_; clear hb ho6; have hcz7_0:w5.cell? ⟨gb775,0,none⟩ = some (.int .i64 a0_0):=(blk_cell BK775.out 0).trans rfl; have hcz7_1:w5.cell? ⟨gb775,1,none⟩ = some (.int .i64 a0_1):=(blk_cell BK775.out 1).trans rfl; have hfz7_0:=blk_frozen BK775.out 0; have hfz7_1:=blk_frozen BK775.out 1) | ((with_reducible refine gate_callee (f:=95) rfl ?_); refine goesL_ (some 11) rfl rfl Tryd.func95 (by kernel_rfl) rfl #[.agg #[.int .i64 a0_0,.int .i64 a0_1]] rfl ob_ ?_; (with_reducible refine (impl_grid_corners.calls k a0_0 a0_1 t779 _ A3.out).mono ?_); rintro e w8 ⟨v780,rfl,ho0,hb⟩; refine ⟨_,rfl,?_⟩; have n0_:=Aside0.mk (Kd.R_below (kr_ HO778.out) hb); have n1_:=Aside0.mk (Kd.R_lower ho0 (below_size (bl1_ HB.out GE775.out))); have n2_:=Aside0.mk (bb_ BK775.out hb); have n3_:=Aside0.mk (below_step (bl1_ HB.out GE775.out) hb); clear HO778; clear BK775; clear HB; have HO778:=n0_; have HO781:=n1_; have BK775:=n2_; have HB:=n3_; clear n0_ n1_ n2_ n3_; (try clear hb); (try clear hb2); (try clear hk); (try clear hi); (try clear ho0); obtain ⟨Ao9,co9,eo9⟩:=Kd.R_slice HO781.out; subst eo9))
 go_loopg [1,5,13] k (fun kq v1 v5 v13 w' => ∃ (x1_1:Int) (x5_1:List Int) (x13_1:Int),v1 = .int .u64 x1_1 ∧ v13 = .int .i64 x13_1 ∧ Aside0 (impl_grid_parts.l0 kq x1_1 x5_1 t779 (t779.length:Int) x13_1 a0_0 a0_1 = some r) ∧ Aside0 (kq ≤ k) ∧ Aside0 (Kd.R (Kd.int .u64) 53 w' w.heap.size (fun _ => True) v5 x5_1) ∧ Aside0 (Kd.R k103 103 w' w.heap.size (fun _ => True) (.slice Ao9 t779.length co9) t779) ∧ Aside0 (w'.heap[gb775]? = some (.cells #[.int .i64 a0_0,.int .i64 a0_1] 49 (0,0))) ∧ Aside0 (Below w.heap.size w w'))
 case atStart => exact ⟨(a1),(y776),(0),rs_,rs_,H',⟨Nat.le_refl _⟩,⟨kr_ HO778.out⟩,⟨kr_ HO781.out⟩,⟨bk_ BK775.out⟩,⟨bl1_ HB.out GE775.out⟩⟩
 case round =>
  clear H'
  try clear p2
  try clear c6
  try clear c9
  try clear hcz7_0
  try clear hcz7_1
  try clear hfz7_0
  try clear hfz7_1
  obtain ⟨x1_1,x5_1,x13_1,rfl,rfl,HA,HK1,HO_5,HO_11,BK775,HB⟩:=hrel
  cases gk with
  | zero => exact absurd HA.out (by simp [impl_grid_parts.l0])
  | succ k1 =>
   have H:=HA.out
   clear HA
   simp only [impl_grid_parts.l0] at H
   by_cases c10:x13_1 < (t779.length:Int)
   ·rw [if_pos c10] at H
    have c10b0:decide (x13_1 < (t779.length:Int)) = true:=decide_eq_true c10
    clear c10
    by_cases c11:0 ≤ x13_1
    ·rw [if_pos c11] at H
     have c11b0:decide (0 ≤ x13_1) = true:=decide_eq_true c11
     clear c11
     by_cases c12:x13_1 < (t779.length:Int)
     ·rw [if_pos c12] at H
      have c12b0:decide (x13_1 < (t779.length:Int)) = true:=decide_eq_true c12
      clear c12
      replace H:=Option.bind_eq_some_iff.mp H
      obtain ⟨t784,A130,H⟩:=H
      replace H:(if t784 = 0 then (impl_grid_parts.l0 k1 x1_1 x5_1 t779 (t779.length:Int) (wrap64 (x13_1 + 1)) a0_0 a0_1) else (if x5_1.length < 17592186044416 then (impl_grid_parts.l0 k1 (Go.bits .andNot .u64 x1_1 t784) (x5_1 ++ [t784]) t779 (t779.length:Int) (wrap64 (x13_1 + 1)) a0_0 a0_1) else (none))) = some r:=H
      have A13:=Aside0.mk A130
      clear A130
      by_cases c14:t784 = 0
      ·rw [if_pos c14] at H
       have c14b0:(t784 == 0) = true:=beq_iff_eq.mpr c14
       have c14b1:(t784 != 0) = false:=bne_eq_false_iff_eq.mpr c14
       clear c14
       have H':=Aside0.mk H
       clear H
       have p782:0 ≤ (x13_1:Int):=of_decide_eq_true as_
       have q782:x13_1 < (t779.length:Int):=of_decide_eq_true as_
       obtain ⟨ad782,e782,hx782_0,hx782_1⟩:=at_T103 (Kd.R_reads' HO_11.out).2.2 x13_1 p782 q782
       cases e782
       replace p782:=eq_true p782
       replace q782:=eq_true q782
       go_wp2_with (first | ((with_reducible refine gate_dst (N:=7) rfl ?_); refine boxE_ (N:=7) (cs:=#[.int .i64 0,.int .i64 0]) (t:=103) ?_; intro gb783 hg w15 hbox hb; have n0_:=Aside0.mk (Kd.R_below (kr_ HO_5.out) hb); have n1_:=Aside0.mk (Kd.R_below (Kd.R_elderB (kr_ HO_11.out) gb783 (Nat.le_of_eq hg.symm)) hb); have n2_:=Aside0.mk (bb_ BK775.out hb); have n3_:=Aside0.mk (below_step (bl1_ HB.out GE775.out) hb); have n4_:=Aside0.mk (hbox); have n5_:=Aside0.mk ((bs1_ hg HB.out GE775.out:w.heap.size ≤ gb783)); have n6_:=Aside0.mk ((bs1_ hg HB.out GE775.out:w.heap.size ≤ gb783)); have n7_:=Aside0.mk ((nl_ hg BK775.out:gb775 ≠ gb783)); have n8_:=Aside0.mk ((ng_ hg BK775.out:gb783 ≠ gb775)); clear HO_5; clear HO_11; clear BK775; clear HB; have HO_5:=n0_; have HO_11:=n1_; have BK775:=n2_; have HB:=n3_; have BK783:=n4_; have GW783:=n5_; have GE783:=n6_; have NB775_783:=n7_; have NB783_775:=n8_; clear n0_ n1_ n2_ n3_ n4_ n5_ n6_ n7_ n8_; clear hb hbox hg; have hnb16:=NB783_775.out; have hnc16:=NB775_783.out; have hcz17_0:w15.cell? ⟨gb783,0,none⟩ = some (.int .i64 0):=(blk_cell BK783.out 0).trans rfl; have hcz17_1:w15.cell? ⟨gb783,1,none⟩ = some (.int .i64 0):=(blk_cell BK783.out 1).trans rfl; have hfz17_0:=blk_frozen BK783.out 0; have hfz17_1:=blk_frozen BK783.out 1; have hcz18_0:w15.cell? ⟨gb775,0,none⟩ = some (.int .i64 a0_0):=(blk_cell BK775.out 0).trans rfl; have hcz18_1:w15.cell? ⟨gb775,1,none⟩ = some (.int .i64 a0_1):=(blk_cell BK775.out 1).trans rfl; have hfz18_0:=blk_frozen BK775.out 0; have hfz18_1:=blk_frozen BK775.out 1) | ((with_reducible refine gate_callee (f:=96) rfl ?_); refine goesL_ (some 20) rfl rfl Tryd.func96 (by kernel_rfl) rfl #[.agg #[.int .i64 a0_0,.int .i64 a0_1],.int .u64 x1_1,.agg #[.int .i64 ((rd_T103 t779 x13_1).f0),.int .i64 ((rd_T103 t779 x13_1).f1)]] rfl ob_ ?_; (with_reducible refine (impl_grid_from.calls k1 a0_0 a0_1 x1_1 ((rd_T103 t779 x13_1).f0) ((rd_T103 t779 x13_1).f1) t784 _ A13.out).mono ?_); rintro e w19 ⟨rfl,hb⟩; refine ⟨_,rfl,?_⟩; have n0_:=Aside0.mk (Kd.R_below (by (with_reducible repeat (first | apply Kd.R_alloc | apply Kd.R_drewN | apply Kd.R_drew)); exact (Kd.R_mono (Kd.R_far (p:=⟨gb783,1,none⟩) (Kd.R_far (p:=⟨gb783,0,none⟩) (Kd.R_types HO_5.out BK783.out (by decide)) (fun _ hk => hk.2) (.int .i64 ((rd_T103 t779 x13_1).f0))) (fun _ hk => hk.2) (.int .i64 ((rd_T103 t779 x13_1).f1))) (fun _ h_ => h_.1))) hb); have n1_:=Aside0.mk (Kd.R_below (by (with_reducible repeat (first | apply Kd.R_alloc | apply Kd.R_drewN | apply Kd.R_drew)); exact (Kd.R_mono (Kd.R_far (p:=⟨gb783,1,none⟩) (Kd.R_far (p:=⟨gb783,0,none⟩) (Kd.R_mono HO_11.out (fun k_ hk => (⟨hk,hk.2⟩:_ ∧ k_ ≠ gb783))) (fun _ hk => hk.2) (.int .i64 ((rd_T103 t779 x13_1).f0))) (fun _ hk => hk.2) (.int .i64 ((rd_T103 t779 x13_1).f1))) (fun _ h_ => h_.1))) hb); have n2_:=Aside0.mk (blk_below (g:=gb775) (o:=.cells #[.int .i64 a0_0,.int .i64 a0_1] 49 (0,0)) (bf2_ NB775_783.out NB775_783.out BK775.out) hb); have n3_:=Aside0.mk (blk_below (g:=gb783) (o:=.cells #[.int .i64 ((rd_T103 t779 x13_1).f0),.int .i64 ((rd_T103 t779 x13_1).f1)] 103 (0,0)) (by (with_reducible repeat (first | refine blk_drewN ?_ _ | refine blk_drew ?_ | refine blk_alloc ?_ _)); refine blk_put (cs:=#[.int .i64 ((rd_T103 t779 x13_1).f0),.int .i64 0]) ?_ 1 _ rfl; (with_reducible repeat (first | refine blk_drewN ?_ _ | refine blk_drew ?_ | refine blk_alloc ?_ _)); refine blk_put (cs:=#[.int .i64 0,.int .i64 0]) ?_ 0 _ rfl; (with_reducible repeat (first | refine blk_drewN ?_ _ | refine blk_drew ?_ | refine blk_alloc ?_ _)); exact BK783.out) hb); have n4_:=Aside0.mk (below_step (bl2_ HB.out GE775.out GE783.out) hb); clear HO_5; clear HO_11; clear BK775; clear BK783; clear HB; have HO_5:=n0_; have HO_11:=n1_; have BK775:=n2_; have BK783:=n3_; have HB:=n4_; clear n0_ n1_ n2_ n3_ n4_; (try clear hb); (try clear hb2); (try clear hk); (try clear hi)))
       go_roundg k1
       case measure => have:=HK1.out; omega
       case rel => exact ⟨(x1_1),(x5_1),(wrap64 (x13_1 + 1)),rs_,rs_,H',⟨by have:=HK1.out; omega⟩,⟨kr_ HO_5.out⟩,⟨by (with_reducible repeat (first | apply Kd.R_alloc | apply Kd.R_drewN | apply Kd.R_drew)); exact Kd.R_mono HO_11.out (fun _ hk => trivial)⟩,⟨bk_ BK775.out⟩,⟨bl2_ HB.out GE775.out GE783.out⟩⟩
      ·rw [if_neg c14] at H
       have c14b0:(t784 == 0) = false:=beq_eq_false_iff_ne.mpr c14
       have c14b1:(t784 != 0) = true:=bne_iff_ne.mpr c14
       by_cases c20:x5_1.length < 17592186044416
       ·rw [if_pos c20] at H
        have LMc20:=Aside0.mk c20
        clear c20
        obtain ⟨y785,hy785⟩:∃ y_:List Int,y_ = (x5_1 ++ [t784]):=⟨_,rfl⟩
        replace H:(impl_grid_parts.l0 k1 (Go.bits .andNot .u64 x1_1 t784) y785 t779 (t779.length:Int) (wrap64 (x13_1 + 1)) a0_0 a0_1) = some r:=by first | (rw [hy785]; with_reducible exact H) | (have H2_:=(Option.bind_some _ _).symm.trans H; rw [hy785]; with_reducible exact H2_) | (have H2_:=(Option.bind_some _ _).symm.trans H; with_reducible exact H2_) | with_reducible exact H | (rw [hy785]; exact H) | exact H
        have Ny785:=Aside0.mk hy785
        clear hy785
        have H':=Aside0.mk H
        clear H
        have p782:0 ≤ (x13_1:Int):=of_decide_eq_true as_
        have q782:x13_1 < (t779.length:Int):=of_decide_eq_true as_
        obtain ⟨ad782,e782,hx782_0,hx782_1⟩:=at_T103 (Kd.R_reads' HO_11.out).2.2 x13_1 p782 q782
        cases e782
        replace p782:=eq_true p782
        replace q782:=eq_true q782
        go_wp2_with (first | ((with_reducible refine gate_dst (N:=7) rfl ?_); refine boxE_ (N:=7) (cs:=#[.int .i64 0,.int .i64 0]) (t:=103) ?_; intro gb783 hg w21 hbox hb; have n0_:=Aside0.mk (Kd.R_below (kr_ HO_5.out) hb); have n1_:=Aside0.mk (Kd.R_below (Kd.R_elderB (kr_ HO_11.out) gb783 (Nat.le_of_eq hg.symm)) hb); have n2_:=Aside0.mk (bb_ BK775.out hb); have n3_:=Aside0.mk (below_step (bl1_ HB.out GE775.out) hb); have n4_:=Aside0.mk (hbox); have n5_:=Aside0.mk ((bs1_ hg HB.out GE775.out:w.heap.size ≤ gb783)); have n6_:=Aside0.mk ((bs1_ hg HB.out GE775.out:w.heap.size ≤ gb783)); have n7_:=Aside0.mk ((nl_ hg BK775.out:gb775 ≠ gb783)); have n8_:=Aside0.mk ((ng_ hg BK775.out:gb783 ≠ gb775)); clear HO_5; clear HO_11; clear BK775; clear HB; have HO_5:=n0_; have HO_11:=n1_; have BK775:=n2_; have HB:=n3_; have BK783:=n4_; have GW783:=n5_; have GE783:=n6_; have NB775_783:=n7_; have NB783_775:=n8_; clear n0_ n1_ n2_ n3_ n4_ n5_ n6_ n7_ n8_; clear hb hbox hg; have hnb22:=NB783_775.out; have hnc22:=NB775_783.out; have hcz23_0:w21.cell? ⟨gb783,0,none⟩ = some (.int .i64 0):=(blk_cell BK783.out 0).trans rfl; have hcz23_1:w21.cell? ⟨gb783,1,none⟩ = some (.int .i64 0):=(blk_cell BK783.out 1).trans rfl; have hfz23_0:=blk_frozen BK783.out 0; have hfz23_1:=blk_frozen BK783.out 1; have hcz24_0:w21.cell? ⟨gb775,0,none⟩ = some (.int .i64 a0_0):=(blk_cell BK775.out 0).trans rfl; have hcz24_1:w21.cell? ⟨gb775,1,none⟩ = some (.int .i64 a0_1):=(blk_cell BK775.out 1).trans rfl; have hfz24_0:=blk_frozen BK775.out 0; have hfz24_1:=blk_frozen BK775.out 1) | ((with_reducible refine gate_callee (f:=96) rfl ?_); refine goesL_ (some 20) rfl rfl Tryd.func96 (by kernel_rfl) rfl #[.agg #[.int .i64 a0_0,.int .i64 a0_1],.int .u64 x1_1,.agg #[.int .i64 ((rd_T103 t779 x13_1).f0),.int .i64 ((rd_T103 t779 x13_1).f1)]] rfl ob_ ?_; (with_reducible refine (impl_grid_from.calls k1 a0_0 a0_1 x1_1 ((rd_T103 t779 x13_1).f0) ((rd_T103 t779 x13_1).f1) t784 _ A13.out).mono ?_); rintro e w25 ⟨rfl,hb⟩; refine ⟨_,rfl,?_⟩; have n0_:=Aside0.mk (Kd.R_below (by (with_reducible repeat (first | apply Kd.R_alloc | apply Kd.R_drewN | apply Kd.R_drew)); exact (Kd.R_mono (Kd.R_far (p:=⟨gb783,1,none⟩) (Kd.R_far (p:=⟨gb783,0,none⟩) (Kd.R_types HO_5.out BK783.out (by decide)) (fun _ hk => hk.2) (.int .i64 ((rd_T103 t779 x13_1).f0))) (fun _ hk => hk.2) (.int .i64 ((rd_T103 t779 x13_1).f1))) (fun _ h_ => h_.1))) hb); have n1_:=Aside0.mk (Kd.R_below (by (with_reducible repeat (first | apply Kd.R_alloc | apply Kd.R_drewN | apply Kd.R_drew)); exact (Kd.R_mono (Kd.R_far (p:=⟨gb783,1,none⟩) (Kd.R_far (p:=⟨gb783,0,none⟩) (Kd.R_mono HO_11.out (fun k_ hk => (⟨hk,hk.2⟩:_ ∧ k_ ≠ gb783))) (fun _ hk => hk.2) (.int .i64 ((rd_T103 t779 x13_1).f0))) (fun _ hk => hk.2) (.int .i64 ((rd_T103 t779 x13_1).f1))) (fun _ h_ => h_.1))) hb); have n2_:=Aside0.mk (blk_below (g:=gb775) (o:=.cells #[.int .i64 a0_0,.int .i64 a0_1] 49 (0,0)) (bf2_ NB775_783.out NB775_783.out BK775.out) hb); have n3_:=Aside0.mk (blk_below (g:=gb783) (o:=.cells #[.int .i64 ((rd_T103 t779 x13_1).f0),.int .i64 ((rd_T103 t779 x13_1).f1)] 103 (0,0)) (by (with_reducible repeat (first | refine blk_drewN ?_ _ | refine blk_drew ?_ | refine blk_alloc ?_ _)); refine blk_put (cs:=#[.int .i64 ((rd_T103 t779 x13_1).f0),.int .i64 0]) ?_ 1 _ rfl; (with_reducible repeat (first | refine blk_drewN ?_ _ | refine blk_drew ?_ | refine blk_alloc ?_ _)); refine blk_put (cs:=#[.int .i64 0,.int .i64 0]) ?_ 0 _ rfl; (with_reducible repeat (first | refine blk_drewN ?_ _ | refine blk_drew ?_ | refine blk_alloc ?_ _)); exact BK783.out) hb); have n4_:=Aside0.mk (below_step (bl2_ HB.out GE775.out GE783.out) hb); clear HO_5; clear HO_11; clear BK775; clear BK783; clear HB; have HO_5:=n0_; have HO_11:=n1_; have BK775:=n2_; have BK783:=n3_; have HB:=n4_; clear n0_ n1_ n2_ n3_ n4_; (try clear hb); (try clear hb2); (try clear hk); (try clear hi)) | ((with_reducible refine gate_builtin (b:=.append) (xs:=#[.tmp 23,.tmp 25]) rfl ?_); at_builtin; refine Kd.R_append (Kd.int .u64) (w0:=w) w.heap.size rfl (.tmp 23) (.tmp 25) 78 53 (.int .u64 0) 8 rfl Tryd.underlying78 info53 rfl (by decide) (by omega) u5 x5_1 t784 [.int .u64 t784] (fun _ => True) (fun _ => False) rfl rfl ?aP (fun _ hk => hk.elim) ?aF ?aO ?aB ?aS ?aL ?_; (case aP => exact rfl); (case aB => exact (bl2_ HB.out GE775.out GE783.out)); (case aF => exact (fun _ _ => trivial)); (case aO => exact (kr_ HO_5.out)); (case aS => exact (below_size (bl2_ HB.out GE775.out GE783.out))); (case aL => have:=LMc20.out; omega); intro v786 w26 ho hb hg hat; rw [← Ny785.out] at ho; have n0_:=Aside0.mk (Kd.R_over' (kr_ HO_11.out) (Kd.R_typed (kr_ HO_5.out)) (by decide) hg); have n1_:=Aside0.mk (blk_grown (g:=gb775) (o:=.cells #[.int .i64 a0_0,.int .i64 a0_1] 49 (0,0)) (bk_ BK775.out) hg (Kd.R_ne HO_5.out BK775.out (by decide))); have n2_:=Aside0.mk (blk_grown (g:=gb783) (o:=.cells #[.int .i64 ((rd_T103 t779 x13_1).f0),.int .i64 ((rd_T103 t779 x13_1).f1)] 103 (0,0)) (bk_ BK783.out) hg (Kd.R_ne HO_5.out BK783.out (by decide))); have n3_:=Aside0.mk (hb); have n4_:=Aside0.mk (ho); clear HO_11; clear BK775; clear BK783; clear HB; clear HO_5; have HO_11:=n0_; have BK775:=n1_; have BK783:=n2_; have HB:=n3_; have HO787:=n4_; clear n0_ n1_ n2_ n3_ n4_; clear ho hb hg hat))
        go_roundg k1
        case measure => have:=HK1.out; omega
        case rel => exact ⟨(Go.bits .andNot .u64 x1_1 t784),(y785),(wrap64 (x13_1 + 1)),rs_,rs_,H',⟨by have:=HK1.out; omega⟩,⟨kr_ HO787.out⟩,⟨by (with_reducible repeat (first | apply Kd.R_alloc | apply Kd.R_drewN | apply Kd.R_drew)); exact Kd.R_mono HO_11.out (fun _ hk => trivial)⟩,⟨bk_ BK775.out⟩,⟨bl2_ HB.out GE775.out GE783.out⟩⟩
       ·rw [if_neg c20] at H
        exact absurd H (by simp)
     ·rw [if_neg c12] at H
      exact absurd H (by simp)
    ·rw [if_neg c11] at H
     exact absurd H (by simp)
   ·rw [if_neg c10] at H
    have c10b0:decide (x13_1 < (t779.length:Int)) = false:=decide_eq_false c10
    clear c10
    obtain rfl:=Option.some.inj H
    go_wp2
    go_ret
    exact ⟨_,er_,by (with_reducible repeat (first | apply Kd.R_alloc | apply Kd.R_drewN | apply Kd.R_drew)); exact HO_5.out,bl1_ HB.out GE775.out⟩

end Go.Proofs.YtjnajeplfgdklaaDoor.P
