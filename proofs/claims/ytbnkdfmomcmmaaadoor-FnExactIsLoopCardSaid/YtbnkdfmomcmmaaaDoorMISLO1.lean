/- For every input the law FnExactIsLoop answers true: the program's IsLoop tells what the reference's IsLoop tells; no condition. (part 1 of the proof; the words of the kit's print tool and the texts of this seat, merged by a program) -/
import Derived.ArgAppend
import Derived.Below
import Derived.BigQuiet
import Derived.ChangeOld
import Derived.Deep.AppendLies
import Derived.Deep.CutBlock
import Derived.Deep.DeepCutAuto
import Derived.Deep.Draws
import Derived.Deep.LoopGhost
import Derived.Deep.OwnRows
import Derived.Deep.QuietTactic
import Derived.Deep.RegionHeld3
import Derived.Deep.RegionLaw
import Derived.DeepKeys4
import Derived.FnData
import Derived.Handed
import Derived.IntWalk
import Derived.JoinedOf
import Derived.KernelRfl
import Derived.LaidHandle
import Derived.LaidLaws
import Derived.Laws.BitsLemmas
import Derived.Laws.BytesArg
import Derived.Laws.IdiomCopy
import Derived.Laws.IdiomStrings
import Derived.Laws.MakeOwn
import Derived.Laws.OwnMore
import Derived.Laws.Rows
import Derived.Laws.Slices
import Derived.Lib.AppendStr
import Derived.Lib.ConvBytes
import Derived.Lib.SlBytesConst
import Derived.Lib.SmallJoins
import Derived.Maps.AppendAt
import Derived.Maps.OwnSet
import Derived.OpenShut
import Derived.OrdersHeld
import Derived.OwnWalk
import Derived.ProofKit
import Derived.RowKit
import Derived.RowKit3
import Derived.SevenTiedAt
import Derived.Shelf.Abstract
import Derived.Shelf.Strings.SlTrimAscii
import Derived.ShutString
import Derived.SizedLaws
import Derived.Tactics
import Derived.Test.YtbnkdfmomcmmaaaDoorCards
import Derived.Test.YtbnkdfmomcmmaaaDoorClosed
import Derived.Test.YtbnkdfmomcmmaaaDoorProg
import Derived.Test.YtbnkdfmomcmmaaaDoorPshelf
import Derived.Test.YtbnkdfmomcmmaaaDoorRows
import Derived.Test.YtbnkdfmomcmmaaaDoorTie
import Derived.WalkKit
import Derived.WideLaws
import Derived.Test.YtbnkdfmomcmmaaaDoorMISLO0
namespace Go.Proofs.YtbnkdfmomcmmaaaDoor.P
open Go.RowKit Go.Proofs.YtbnkdfmomcmmaaaDoorW.PrintWords Go.Proofs.YtbnkdfmomcmmaaaDoorW.PrintLast Go.Proofs.YtbnkdfmomcmmaaaDoorW.PrintMore
attribute [local go_sem] max2_int min2_int max_two min_two max_three min_three max_four min_four   -- for this text's walks alone
set_option linter.unusedVariables false
set_option linter.unusedSimpArgs false



def errW : Option Int → Value
  | none => .nilIface
  | some c => .iface 0 (.int .i64 c)
theorem errW_none : errW none = .nilIface := rfl
theorem errW_some (c : Int) : errW (some c) = .iface 0 (.int .i64 c) := rfl

theorem info41 : (Tryd.prog.info? 41).map (fun i => (i.zero, i.size, i.bytes)) = some (some (.agg #[(.int .i64 0), (.int .i64 0)]), 2, 16) := by kernel_rfl
structure S41 where
  f0 : Int
  f1 : Int
def z41 : S41 := ⟨(0 : Int), (0 : Int)⟩
def k41 : Kd S41 := Kd.iso (Kd.pair (Kd.int .i64) (Kd.int .i64)) (fun x : S41 => (x.f0, x.f1))
theorem k41_open {w : World} {x : S41} {cs : List Value} (h : k41.K w x cs) : cs = [.int .i64 x.f0, .int .i64 x.f1] := by
  obtain ⟨_, _, rfl, rfl, rfl⟩ := h
  exact rfl
theorem k41_mkM (w : World) (base : Nat) (ok : Nat → Prop) (x : S41)  : k41.M w base ok x [.int .i64 x.f0, .int .i64 x.f1] := ⟨[.int .i64 x.f0], [.int .i64 x.f1], rfl, rfl, rfl⟩
def rd_T41 (xs : List S41) (i : Int) : S41 := xs.getD i.toNat z41
theorem at_T41 {w : World} {A : Option Addr} {n : Nat} {xs : List S41} (h : Kd.C k41 w A n xs) (i : Int) (h0 : 0 ≤ i) (h1 : i < n) : ∃ ad , A = some ad ∧ w.cell? (ad.add (i.toNat * 2)) = some (.int .i64 (rd_T41 xs i).f0) ∧ w.cell? ⟨(ad.add (i.toNat * 2)).block, (ad.add (i.toNat * 2)).off + 1, none⟩ = some (.int .i64 (rd_T41 xs i).f1) := by
  obtain ⟨ad, c, e, _, hK, hc0⟩ := Kd.C_get h z41 i h0 h1
  have hc : ∀ j u, c[j]? = some u → w.cell? (ad.add (i.toNat * 2 + j)) = some u := hc0
  obtain rfl := k41_open hK
  exact ⟨ad, e, hc 0 _ rfl, by rw [← add_field _ _ 1 (by omega)]; exact hc 1 _ rfl⟩

end Go.Proofs.YtbnkdfmomcmmaaaDoor.P


namespace Go.Proofs.YtbnkdfmomcmmaaaDoor.P
open Go.RowKit Go.Proofs.YtbnkdfmomcmmaaaDoorW.PrintWords Go.Proofs.YtbnkdfmomcmmaaaDoorW.PrintLast Go.Proofs.YtbnkdfmomcmmaaaDoorW.PrintMore
attribute [local go_sem] max2_int min2_int max_two min_two max_three min_three max_four min_four   -- for this text's walks alone
set_option linter.unusedVariables false
set_option linter.unusedSimpArgs false

theorem eqA41 (d : Nat) (w : World) (x0 y0 : Int) (x1 y1 : Int) :
    (Op.equalIn (d + 2) 41 (.agg #[.int .i64 x0, .int .i64 x1]) (.agg #[.int .i64 y0, .int .i64 y1])).run Tryd.prog w = .ok (x0 == y0 && (x1 == y1)) w := by
  refine eqA_of Tryd.underlying41 (by kernel_rfl) ?_
  refine eqf_cons (by rfl) (by go_simp; rfl) (by go_simp; rfl) (by go_simp) ?_
  exact eqf_last (by rfl) (by go_simp; rfl) (by go_simp; rfl) (by go_simp)
end Go.Proofs.YtbnkdfmomcmmaaaDoor.P


namespace Go.Proofs.YtbnkdfmomcmmaaaDoor.P
open Go.RowKit Go.Proofs.YtbnkdfmomcmmaaaDoorW.PrintWords Go.Proofs.YtbnkdfmomcmmaaaDoorW.PrintLast Go.Proofs.YtbnkdfmomcmmaaaDoorW.PrintMore
attribute [local go_sem] max2_int min2_int max_two min_two max_three min_three max_four min_four   -- for this text's walks alone
set_option linter.unusedVariables false
set_option linter.unusedSimpArgs false

def spec_liDirs.f  : Option (ByteArray) := some (⟨#[110, 101, 115, 119]⟩ : ByteArray)
set_option maxHeartbeats 8000000 in
set_option maxRecDepth 100000 in
theorem spec_liDirs.calls  (r : ByteArray) (w : World) (h : spec_liDirs.f  = some r) :
    Calls Tryd.prog 42 #[] w fun e w' => e = .returned (.string r) ∧ Drawn0 w w' := by
  have H : (some (⟨#[110, 101, 115, 119]⟩ : ByteArray)) = some r := h
  clear h
  obtain rfl := Option.some.inj H
  go_enter Tryd.func42, Tryd.ntmps42
  go_wp2
  go_ret
  exact ⟨by first | rfl | (simp; done) | (simp [*]; done), by repeat (first | exact Drawn0.refl _ | apply Drawn0.step)⟩

end Go.Proofs.YtbnkdfmomcmmaaaDoor.P


namespace Go.Proofs.YtbnkdfmomcmmaaaDoor.P
open Go.RowKit Go.Proofs.YtbnkdfmomcmmaaaDoorW.PrintWords Go.Proofs.YtbnkdfmomcmmaaaDoorW.PrintLast Go.Proofs.YtbnkdfmomcmmaaaDoorW.PrintMore
attribute [local go_sem] max2_int min2_int max_two min_two max_three min_three max_four min_four   -- for this text's walks alone
set_option linter.unusedVariables false
set_option linter.unusedSimpArgs false

def spec_loDir.l0 : Nat → Int → Int → Option (Int)
  | 0, _, _ => none
  | k + 1, x0, x3 => if x3 < 4 then ((spec_liDirs.f).bind fun t101 => (if 0 ≤ x3 then (if x3 < (t101.size : Int) then (if (bt t101 x3) = x0 then (some x3) else (spec_loDir.l0 k x0 (wrap64 (x3 + 1)))) else (none)) else (none))) else (some (-1))
def spec_loDir.f (k : Nat) (a0 : Int) : Option (Int) := spec_loDir.l0 k a0 0
theorem spec_loDir.mono_l : ∀ k, (∀ y0 y1, LeO (spec_loDir.l0 k y0 y1) (spec_loDir.l0 (k + 1) y0 y1))
  | 0 => fun _ _ r h => by simp [spec_loDir.l0] at h
  | k + 1 => by
    have ih0 := spec_loDir.mono_l k
    · intro y0 y1
      unfold spec_loDir.l0
      repeat' first
      | (with_reducible exact ih0 _ _)
      | (with_reducible exact LeO.refl _)
      | (with_reducible exact LeO.none _)
      | (with_reducible refine LeO.ite ?_ ?_)
      | (with_reducible refine LeO.bind ?_ (fun _ => ?_))
      | exact ih0 _ _
      | exact LeO.none _
      | refine LeO.ite ?_ ?_
      | refine LeO.bind ?_ (fun _ => ?_)
theorem spec_loDir.mono : ∀ a0 k, LeO (spec_loDir.f k a0) (spec_loDir.f (k + 1) a0) := by
  intro a0 k
  have ih0 := spec_loDir.mono_l k
  unfold spec_loDir.f
  repeat' first
      | (with_reducible exact ih0 _ _)
      | (with_reducible exact LeO.refl _)
      | (with_reducible exact LeO.none _)
      | (with_reducible refine LeO.ite ?_ ?_)
      | (with_reducible refine LeO.bind ?_ (fun _ => ?_))
      | exact ih0 _ _
      | exact LeO.none _
      | refine LeO.ite ?_ ?_
      | refine LeO.bind ?_ (fun _ => ?_)
set_option maxHeartbeats 8000000 in
set_option maxRecDepth 100000 in
theorem spec_loDir.calls (k : Nat) (a0 : Int) (r : Int) (w : World) (h : spec_loDir.f k a0 = some r) :
    Calls Tryd.prog 36 #[.int .u8 a0] w fun e w' => e = .returned (.int .i64 r) ∧ Drawn0 w w' := by
  have H : (spec_loDir.l0 k a0 0) = some r := h
  clear h
  have H' := Aside0.mk H
  clear H
  go_enter Tryd.func36, Tryd.ntmps36
  go_wp2
  go_loopg [3] k (fun kq v3 w' => ∃ (x3_1 : Int), v3 = .int .i64 x3_1 ∧ Aside0 (spec_loDir.l0 kq a0 x3_1 = some r) ∧ Aside0 (kq ≤ k) ∧ Drawn0 w w')
  case atStart => exact ⟨(0), (by first | rfl | (simp; done) | (simp [*]; done)), H', ⟨Nat.le_refl _⟩, by repeat (first | exact Drawn0.refl _ | apply Drawn0.step)⟩
  case round =>
    clear H'
    obtain ⟨x3_1, rfl, HA, HK1, ⟨m1, rfl⟩⟩ := hrel
    cases gk with
    | zero => exact absurd HA.out (by simp [spec_loDir.l0])
    | succ k1 =>
      have H := HA.out
      clear HA
      simp only [spec_loDir.l0] at H
      by_cases c2 : x3_1 < 4
      · rw [if_pos c2] at H
        have c2b0 : decide (x3_1 < 4) = true := decide_eq_true c2
        clear c2
        replace H := Option.bind_eq_some_iff.mp H
        obtain ⟨t101, A30, H⟩ := H
        replace H : (if 0 ≤ x3_1 then (if x3_1 < (t101.size : Int) then (if (bt t101 x3_1) = a0 then (some x3_1) else (spec_loDir.l0 k1 a0 (wrap64 (x3_1 + 1)))) else (none)) else (none)) = some r := H
        have A3 := Aside0.mk A30
        clear A30
        by_cases c4 : 0 ≤ x3_1
        · rw [if_pos c4] at H
          have c4b0 : decide (0 ≤ x3_1) = true := decide_eq_true c4
          clear c4
          by_cases c5 : x3_1 < (t101.size : Int)
          · rw [if_pos c5] at H
            have c5b0 : decide (x3_1 < (t101.size : Int)) = true := decide_eq_true c5
            clear c5
            by_cases c7 : (bt t101 x3_1) = a0
            · rw [if_pos c7] at H
              have c7b0 : ((bt t101 x3_1) == a0) = true := beq_iff_eq.mpr c7
              have c7b1 : ((bt t101 x3_1) != a0) = false := bne_eq_false_iff_eq.mpr c7
              clear c7
              obtain rfl := Option.some.inj H
              go_wp2_with (first | ((with_reducible refine gate_callee (f := 42) rfl ?_); refine goesL_ (some 8) rfl rfl Tryd.func42 (by kernel_rfl) rfl #[] rfl (by (try simp only [List.map_toArray, List.map_cons, List.map_nil]); first | done | rfl | (simp only [List.length_drop, List.length_take]; rfl)) ?_; (with_reducible refine (spec_liDirs.calls  t101 _ A3.out).mono ?_); rintro e w' ⟨rfl, ⟨nd, rfl⟩⟩; refine ⟨_, rfl, ?_⟩; have p6 : 0 ≤ (x3_1 : Int) := of_decide_eq_true (by first | (with_reducible assumption) | assumption); have q6 : x3_1 < (t101.size : Int) := of_decide_eq_true (by first | (with_reducible assumption) | assumption); have hx6 := bt_at t101 x3_1; replace p6 := eq_true p6; replace q6 := eq_true q6))
              go_ret
              exact ⟨by first | rfl | (simp; done) | (simp [*]; done), by repeat (first | exact Drawn0.refl _ | apply Drawn0.step)⟩
            · rw [if_neg c7] at H
              have c7b0 : ((bt t101 x3_1) == a0) = false := beq_eq_false_iff_ne.mpr c7
              have c7b1 : ((bt t101 x3_1) != a0) = true := bne_iff_ne.mpr c7
              have H' := Aside0.mk H
              clear H
              go_wp2_with (first | ((with_reducible refine gate_callee (f := 42) rfl ?_); refine goesL_ (some 8) rfl rfl Tryd.func42 (by kernel_rfl) rfl #[] rfl (by (try simp only [List.map_toArray, List.map_cons, List.map_nil]); first | done | rfl | (simp only [List.length_drop, List.length_take]; rfl)) ?_; (with_reducible refine (spec_liDirs.calls  t101 _ A3.out).mono ?_); rintro e w' ⟨rfl, ⟨nd, rfl⟩⟩; refine ⟨_, rfl, ?_⟩; have p6 : 0 ≤ (x3_1 : Int) := of_decide_eq_true (by first | (with_reducible assumption) | assumption); have q6 : x3_1 < (t101.size : Int) := of_decide_eq_true (by first | (with_reducible assumption) | assumption); have hx6 := bt_at t101 x3_1; replace p6 := eq_true p6; replace q6 := eq_true q6))
              go_roundg k1
              case measure => have := HK1.out; omega
              case rel => exact ⟨(wrap64 (x3_1 + 1)), (by first | rfl | (simp; done) | (simp [*]; done)), H', ⟨by have := HK1.out; omega⟩, by repeat (first | exact Drawn0.refl _ | apply Drawn0.step)⟩
          · rw [if_neg c5] at H
            exact absurd H (by simp)
        · rw [if_neg c4] at H
          exact absurd H (by simp)
      · rw [if_neg c2] at H
        have c2b0 : decide (x3_1 < 4) = false := decide_eq_false c2
        clear c2
        obtain rfl := Option.some.inj H
        go_wp2
        go_ret
        exact ⟨by first | rfl | (simp; done) | (simp [*]; done), by repeat (first | exact Drawn0.refl _ | apply Drawn0.step)⟩

end Go.Proofs.YtbnkdfmomcmmaaaDoor.P


namespace Go.Proofs.YtbnkdfmomcmmaaaDoor.P
open Go.RowKit Go.Proofs.YtbnkdfmomcmmaaaDoorW.PrintWords Go.Proofs.YtbnkdfmomcmmaaaDoorW.PrintLast Go.Proofs.YtbnkdfmomcmmaaaDoorW.PrintMore
attribute [local go_sem] max2_int min2_int max_two min_two max_three min_three max_four min_four   -- for this text's walks alone
set_option linter.unusedVariables false
set_option linter.unusedSimpArgs false

def spec_l1In.f (a0 : Int) (a1 : Int) (a2 : Int) : Option (Bool) := if a0 ≥ a1 then (some (decide (a0 ≤ a2))) else (some false)
set_option maxHeartbeats 8000000 in
set_option maxRecDepth 100000 in
theorem spec_l1In.calls (a0 : Int) (a1 : Int) (a2 : Int) (r : Bool) (w : World) (h : spec_l1In.f a0 a1 a2 = some r) :
    Calls Tryd.prog 41 #[.int .i64 a0, .int .i64 a1, .int .i64 a2] w fun e w' => e = .returned (.bool r) ∧ Drawn0 w w' := by
  have H : (if a0 ≥ a1 then (some (decide (a0 ≤ a2))) else (some false)) = some r := h
  clear h
  by_cases c4 : a0 ≥ a1
  · rw [if_pos c4] at H
    have c4b0 : decide (a1 ≤ a0) = true := decide_eq_true c4
    clear c4
    obtain rfl := Option.some.inj H
    go_enter Tryd.func41, Tryd.ntmps41
    go_wp2
    go_ret
    exact ⟨by first | rfl | (simp; done) | (simp [*]; done), by repeat (first | exact Drawn0.refl _ | apply Drawn0.step)⟩
  · rw [if_neg c4] at H
    have c4b0 : decide (a1 ≤ a0) = false := decide_eq_false c4
    clear c4
    obtain rfl := Option.some.inj H
    go_enter Tryd.func41, Tryd.ntmps41
    go_wp2
    go_ret
    exact ⟨by first | rfl | (simp; done) | (simp [*]; done), by repeat (first | exact Drawn0.refl _ | apply Drawn0.step)⟩

end Go.Proofs.YtbnkdfmomcmmaaaDoor.P


namespace Go.Proofs.YtbnkdfmomcmmaaaDoor.P
open Go.RowKit Go.Proofs.YtbnkdfmomcmmaaaDoorW.PrintWords Go.Proofs.YtbnkdfmomcmmaaaDoorW.PrintLast Go.Proofs.YtbnkdfmomcmmaaaDoorW.PrintMore
attribute [local go_sem] max2_int min2_int max_two min_two max_three min_three max_four min_four   -- for this text's walks alone
set_option linter.unusedVariables false
set_option linter.unusedSimpArgs false

attribute [local go_sem high] eqA41
def spec_liHas.l0 : Nat → List (S41) → Int → Int → Int → Int → Option (Bool)
  | 0, _, _, _, _, _ => none
  | k + 1, x7, x8, x9, x103000, x103001 => if x9 < x8 then (if 0 ≤ x9 then (if x9 < (x7.length : Int) then (if (((rd_T41 x7 x9).f0) == x103000 && (((rd_T41 x7 x9).f1) == x103001)) = true then (some true) else (spec_liHas.l0 k x7 x8 (wrap64 (x9 + 1)) x103000 x103001)) else (none)) else (none)) else (some false)
def spec_liHas.f (k : Nat) (l0 : List (S41)) (a1_0 : Int) (a1_1 : Int) : Option (Bool) := spec_liHas.l0 k l0 (l0.length : Int) 0 a1_0 a1_1
theorem spec_liHas.mono_l : ∀ k, (∀ y0 y1 y2 y3 y4, LeO (spec_liHas.l0 k y0 y1 y2 y3 y4) (spec_liHas.l0 (k + 1) y0 y1 y2 y3 y4))
  | 0 => fun _ _ _ _ _ r h => by simp [spec_liHas.l0] at h
  | k + 1 => by
    have ih0 := spec_liHas.mono_l k
    · intro y0 y1 y2 y3 y4
      unfold spec_liHas.l0
      repeat' first
      | (with_reducible exact ih0 _ _ _ _ _)
      | (with_reducible exact LeO.refl _)
      | (with_reducible exact LeO.none _)
      | (with_reducible refine LeO.ite ?_ ?_)
      | (with_reducible refine LeO.bind ?_ (fun _ => ?_))
      | exact ih0 _ _ _ _ _
      | exact LeO.none _
      | refine LeO.ite ?_ ?_
      | refine LeO.bind ?_ (fun _ => ?_)
theorem spec_liHas.mono : ∀ a0 a1 a2 k, LeO (spec_liHas.f k a0 a1 a2) (spec_liHas.f (k + 1) a0 a1 a2) := by
  intro a0 a1 a2 k
  have ih0 := spec_liHas.mono_l k
  unfold spec_liHas.f
  repeat' first
      | (with_reducible exact ih0 _ _ _ _ _)
      | (with_reducible exact LeO.refl _)
      | (with_reducible exact LeO.none _)
      | (with_reducible refine LeO.ite ?_ ?_)
      | (with_reducible refine LeO.bind ?_ (fun _ => ?_))
      | exact ih0 _ _ _ _ _
      | exact LeO.none _
      | refine LeO.ite ?_ ?_
      | refine LeO.bind ?_ (fun _ => ?_)
set_option maxHeartbeats 8000000 in
set_option maxRecDepth 100000 in
theorem spec_liHas.calls (k : Nat) (A0 : Option Addr) (c0 : Nat) (l0 : List (S41)) (a1_0 : Int) (a1_1 : Int) (r : Bool) (w : World) (hr0 : Kd.C k41 w A0 l0.length l0) (hc0 : l0.length ≤ c0) (h : spec_liHas.f k l0 a1_0 a1_1 = some r) :
    Calls Tryd.prog 48 #[.slice A0 l0.length c0, .agg #[.int .i64 a1_0, .int .i64 a1_1]] w fun e w' => e = .returned (.bool r) ∧ Below w.heap.size w w' := by
  have hu41 := Tryd.underlying41
  have HR0 := Aside0.mk hr0
  have HC0 := Aside0.mk hc0
  clear hr0 hc0
  have HB := Aside0.mk (Below.refl w.heap.size w)
  have H : (spec_liHas.l0 k l0 (l0.length : Int) 0 a1_0 a1_1) = some r := h
  clear h
  have H' := Aside0.mk H
  clear H
  go_enter Tryd.func48, Tryd.ntmps48
  go_wp2_with (first | ((with_reducible refine gate_dst (N := 3) rfl ?_); refine box_event ?hg (N := 3) ?hd (cs := #[.int .i64 a1_0, .int .i64 a1_1]) (t := 41) ?hr ?_; (case hd => rfl); (case hg => rfl); (case hr => first | (go_simp; done) | (go_simp; rfl)); intro gb102 hg w3 hbox hb; have n0_ := Aside0.mk (below_step (by repeat (first | (with_reducible first | exact HB.out | apply below_alloc | apply pw_below_drewN | apply below_drew1) | exact HB.out)) hb); have n1_ := Aside0.mk (hbox); have n2_ := Aside0.mk ((by rw [hg]; exact (below_size (by repeat (first | (with_reducible first | exact HB.out | apply below_alloc | apply pw_below_drewN | apply below_drew1) | exact HB.out))) : w.heap.size ≤ gb102)); have n3_ := Aside0.mk ((by rw [hg]; exact (below_size (by repeat (first | (with_reducible first | exact HB.out | apply below_alloc | apply pw_below_drewN | apply below_drew1) | exact HB.out))) : w.heap.size ≤ gb102)); clear HB; have HB := n0_; have BK102 := n1_; have GW102 := n2_; have GE102 := n3_; clear n0_ n1_ n2_ n3_; clear hb hbox hg))
  go_loopg [9] k (fun kq v9 w' => ∃ (x9_1 : Int), v9 = .int .i64 x9_1 ∧ Aside0 (spec_liHas.l0 kq l0 (l0.length : Int) x9_1 a1_0 a1_1 = some r) ∧ Aside0 (kq ≤ k) ∧ Aside0 (w'.heap[gb102]? = some (.cells #[.int .i64 a1_0, .int .i64 a1_1] 41 (0, 0))) ∧ Aside0 (Below w.heap.size w w'))
  case atStart => exact ⟨(0), (by first | rfl | (simp; done) | (simp [*]; done)), H', ⟨Nat.le_refl _⟩, ⟨by (with_reducible repeat (first | refine blk_drewN ?_ _ | refine blk_drew ?_ | refine blk_alloc ?_ _)); exact BK102.out⟩, ⟨by repeat (first | (with_reducible first | exact HB.out | apply below_alloc | apply pw_below_drewN | apply below_drew1 | refine below_set ?_ GE102.out) | exact HB.out)⟩⟩
  case round =>
    clear H'
    try clear p2
    obtain ⟨x9_1, rfl, HA, HK1, BK102, HB⟩ := hrel
    cases gk with
    | zero => exact absurd HA.out (by simp [spec_liHas.l0])
    | succ k1 =>
      have H := HA.out
      clear HA
      simp only [spec_liHas.l0] at H
      by_cases c4 : x9_1 < (l0.length : Int)
      · rw [if_pos c4] at H
        have c4b0 : decide (x9_1 < (l0.length : Int)) = true := decide_eq_true c4
        clear c4
        by_cases c5 : 0 ≤ x9_1
        · rw [if_pos c5] at H
          have c5b0 : decide (0 ≤ x9_1) = true := decide_eq_true c5
          clear c5
          by_cases c6 : x9_1 < (l0.length : Int)
          · rw [if_pos c6] at H
            have c6b0 : decide (x9_1 < (l0.length : Int)) = true := decide_eq_true c6
            clear c6
            by_cases c7 : (((rd_T41 l0 x9_1).f0) == a1_0 && (((rd_T41 l0 x9_1).f1) == a1_1)) = true
            · rw [if_pos c7] at H
              have c7b0 : (((rd_T41 l0 x9_1).f0) == a1_0 && (((rd_T41 l0 x9_1).f1) == a1_1)) = true := c7
              (try (have c7b1 : decide (((rd_T41 l0 x9_1).f0) = a1_0 && (((rd_T41 l0 x9_1).f1) == a1_1)) = true := by simpa using c7))
              (try (have c7b2 : (((rd_T41 l0 x9_1).f0) == a1_0 && (((rd_T41 l0 x9_1).f1) == a1_1)) = true := by simpa using c7))
              clear c7
              obtain rfl := Option.some.inj H
              have p103 : 0 ≤ (x9_1 : Int) := of_decide_eq_true (by first | (with_reducible assumption) | assumption)
              have q103 : x9_1 < (l0.length : Int) := of_decide_eq_true (by first | (with_reducible assumption) | assumption)
              obtain ⟨ad103, e103, hx103_0, hx103_1⟩ := at_T41 HR0.out x9_1 p103 q103
              cases e103
              replace hx103_0 := (HB.out.cell (World.block_lt_of_cell? w _ hx103_0)).trans hx103_0
              replace hx103_1 := (HB.out.cell (World.block_lt_of_cell? w _ hx103_1)).trans hx103_1
              replace p103 := eq_true p103
              replace q103 := eq_true q103
              go_wp2_with (first | ((with_reducible refine gate_dst (N := 6) rfl ?_); refine box_event ?hg (N := 6) ?hd (cs := #[.int .i64 0, .int .i64 0]) (t := 41) ?hr ?_; (case hd => rfl); (case hg => rfl); (case hr => first | (go_simp; done) | (go_simp; rfl)); intro gb104 hg w8 hbox hb; have n0_ := Aside0.mk (blk_below (g := gb102) (o := .cells #[.int .i64 a1_0, .int .i64 a1_1] 41 (0, 0)) (by (with_reducible repeat (first | refine blk_drewN ?_ _ | refine blk_drew ?_ | refine blk_alloc ?_ _)); exact BK102.out) hb); have n1_ := Aside0.mk (below_step (by repeat (first | (with_reducible first | exact HB.out | apply below_alloc | apply pw_below_drewN | apply below_drew1 | refine below_set ?_ GE102.out) | exact HB.out)) hb); have n2_ := Aside0.mk (hbox); have n3_ := Aside0.mk ((by rw [hg]; exact (below_size (by repeat (first | (with_reducible first | exact HB.out | apply below_alloc | apply pw_below_drewN | apply below_drew1 | refine below_set ?_ GE102.out) | exact HB.out))) : w.heap.size ≤ gb104)); have n4_ := Aside0.mk ((by rw [hg]; exact (below_size (by repeat (first | (with_reducible first | exact HB.out | apply below_alloc | apply pw_below_drewN | apply below_drew1 | refine below_set ?_ GE102.out) | exact HB.out))) : w.heap.size ≤ gb104)); have n5_ := Aside0.mk ((by rw [hg]; exact Nat.ne_of_lt (blk_lt (g := gb102) (o := .cells #[.int .i64 a1_0, .int .i64 a1_1] 41 (0, 0)) (by (with_reducible repeat (first | refine blk_drewN ?_ _ | refine blk_drew ?_ | refine blk_alloc ?_ _)); exact BK102.out)) : gb102 ≠ gb104)); have n6_ := Aside0.mk ((by rw [hg]; exact Nat.ne_of_gt (blk_lt (g := gb102) (o := .cells #[.int .i64 a1_0, .int .i64 a1_1] 41 (0, 0)) (by (with_reducible repeat (first | refine blk_drewN ?_ _ | refine blk_drew ?_ | refine blk_alloc ?_ _)); exact BK102.out)) : gb104 ≠ gb102)); clear BK102; clear HB; have BK102 := n0_; have HB := n1_; have BK104 := n2_; have GW104 := n3_; have GE104 := n4_; have NB102_104 := n5_; have NB104_102 := n6_; clear n0_ n1_ n2_ n3_ n4_ n5_ n6_; clear hb hbox hg; have hnb9 := NB104_102.out; have hnc9 := NB102_104.out; have hcz10_0 : w8.cell? ⟨gb104, 0, none⟩ = some (.int .i64 0) := (blk_cell BK104.out 0).trans rfl; have hcz10_1 : w8.cell? ⟨gb104, 1, none⟩ = some (.int .i64 0) := (blk_cell BK104.out 1).trans rfl; have hfz10_0 := blk_frozen BK104.out 0; have hfz10_1 := blk_frozen BK104.out 1; have hcz11_0 : w8.cell? ⟨gb102, 0, none⟩ = some (.int .i64 a1_0) := (blk_cell BK102.out 0).trans rfl; have hcz11_1 : w8.cell? ⟨gb102, 1, none⟩ = some (.int .i64 a1_1) := (blk_cell BK102.out 1).trans rfl; have hfz11_0 := blk_frozen BK102.out 0; have hfz11_1 := blk_frozen BK102.out 1))
              go_ret
              exact ⟨by first | rfl | (simp [errW_none, errW_some] <;> rfl) | (simp [*, errW_none, errW_some] <;> rfl), by repeat (first | (with_reducible first | exact HB.out | apply below_alloc | apply pw_below_drewN | apply below_drew1 | refine below_set ?_ GE102.out | refine below_set ?_ GE104.out) | exact HB.out)⟩
            · rw [if_neg c7] at H
              have c7b0 : (((rd_T41 l0 x9_1).f0) == a1_0 && (((rd_T41 l0 x9_1).f1) == a1_1)) = false := by simpa using c7
              (try (have c7b1 : decide (((rd_T41 l0 x9_1).f0) = a1_0 && (((rd_T41 l0 x9_1).f1) == a1_1)) = false := by simpa using c7))
              (try (have c7b2 : (((rd_T41 l0 x9_1).f0) == a1_0 && (((rd_T41 l0 x9_1).f1) == a1_1)) = false := by simpa using c7))
              (try (have c7b3 : ¬ (((rd_T41 l0 x9_1).f0) = a1_0 && (((rd_T41 l0 x9_1).f1) == a1_1)) := by simpa using c7))
              clear c7
              have H' := Aside0.mk H
              clear H
              have p103 : 0 ≤ (x9_1 : Int) := of_decide_eq_true (by first | (with_reducible assumption) | assumption)
              have q103 : x9_1 < (l0.length : Int) := of_decide_eq_true (by first | (with_reducible assumption) | assumption)
              obtain ⟨ad103, e103, hx103_0, hx103_1⟩ := at_T41 HR0.out x9_1 p103 q103
              cases e103
              replace hx103_0 := (HB.out.cell (World.block_lt_of_cell? w _ hx103_0)).trans hx103_0
              replace hx103_1 := (HB.out.cell (World.block_lt_of_cell? w _ hx103_1)).trans hx103_1
              replace p103 := eq_true p103
              replace q103 := eq_true q103
              go_wp2_with (first | ((with_reducible refine gate_dst (N := 6) rfl ?_); refine box_event ?hg (N := 6) ?hd (cs := #[.int .i64 0, .int .i64 0]) (t := 41) ?hr ?_; (case hd => rfl); (case hg => rfl); (case hr => first | (go_simp; done) | (go_simp; rfl)); intro gb104 hg w12 hbox hb; have n0_ := Aside0.mk (blk_below (g := gb102) (o := .cells #[.int .i64 a1_0, .int .i64 a1_1] 41 (0, 0)) (by (with_reducible repeat (first | refine blk_drewN ?_ _ | refine blk_drew ?_ | refine blk_alloc ?_ _)); exact BK102.out) hb); have n1_ := Aside0.mk (below_step (by repeat (first | (with_reducible first | exact HB.out | apply below_alloc | apply pw_below_drewN | apply below_drew1 | refine below_set ?_ GE102.out) | exact HB.out)) hb); have n2_ := Aside0.mk (hbox); have n3_ := Aside0.mk ((by rw [hg]; exact (below_size (by repeat (first | (with_reducible first | exact HB.out | apply below_alloc | apply pw_below_drewN | apply below_drew1 | refine below_set ?_ GE102.out) | exact HB.out))) : w.heap.size ≤ gb104)); have n4_ := Aside0.mk ((by rw [hg]; exact (below_size (by repeat (first | (with_reducible first | exact HB.out | apply below_alloc | apply pw_below_drewN | apply below_drew1 | refine below_set ?_ GE102.out) | exact HB.out))) : w.heap.size ≤ gb104)); have n5_ := Aside0.mk ((by rw [hg]; exact Nat.ne_of_lt (blk_lt (g := gb102) (o := .cells #[.int .i64 a1_0, .int .i64 a1_1] 41 (0, 0)) (by (with_reducible repeat (first | refine blk_drewN ?_ _ | refine blk_drew ?_ | refine blk_alloc ?_ _)); exact BK102.out)) : gb102 ≠ gb104)); have n6_ := Aside0.mk ((by rw [hg]; exact Nat.ne_of_gt (blk_lt (g := gb102) (o := .cells #[.int .i64 a1_0, .int .i64 a1_1] 41 (0, 0)) (by (with_reducible repeat (first | refine blk_drewN ?_ _ | refine blk_drew ?_ | refine blk_alloc ?_ _)); exact BK102.out)) : gb104 ≠ gb102)); clear BK102; clear HB; have BK102 := n0_; have HB := n1_; have BK104 := n2_; have GW104 := n3_; have GE104 := n4_; have NB102_104 := n5_; have NB104_102 := n6_; clear n0_ n1_ n2_ n3_ n4_ n5_ n6_; clear hb hbox hg; have hnb13 := NB104_102.out; have hnc13 := NB102_104.out; have hcz14_0 : w12.cell? ⟨gb104, 0, none⟩ = some (.int .i64 0) := (blk_cell BK104.out 0).trans rfl; have hcz14_1 : w12.cell? ⟨gb104, 1, none⟩ = some (.int .i64 0) := (blk_cell BK104.out 1).trans rfl; have hfz14_0 := blk_frozen BK104.out 0; have hfz14_1 := blk_frozen BK104.out 1; have hcz15_0 : w12.cell? ⟨gb102, 0, none⟩ = some (.int .i64 a1_0) := (blk_cell BK102.out 0).trans rfl; have hcz15_1 : w12.cell? ⟨gb102, 1, none⟩ = some (.int .i64 a1_1) := (blk_cell BK102.out 1).trans rfl; have hfz15_0 := blk_frozen BK102.out 0; have hfz15_1 := blk_frozen BK102.out 1))
              go_roundg k1
              case measure => have := HK1.out; omega
              case rel => exact ⟨(wrap64 (x9_1 + 1)), (by first | rfl | (simp; done) | (simp [*]; done)), H', ⟨by have := HK1.out; omega⟩, ⟨by (with_reducible repeat (first | refine blk_drewN ?_ _ | refine blk_drew ?_ | refine blk_alloc ?_ _)); refine blk_far ?_ NB102_104.out _; (with_reducible repeat (first | refine blk_drewN ?_ _ | refine blk_drew ?_ | refine blk_alloc ?_ _)); refine blk_far ?_ NB102_104.out _; (with_reducible repeat (first | refine blk_drewN ?_ _ | refine blk_drew ?_ | refine blk_alloc ?_ _)); exact BK102.out⟩, ⟨by repeat (first | (with_reducible first | exact HB.out | apply below_alloc | apply pw_below_drewN | apply below_drew1 | refine below_set ?_ GE102.out | refine below_set ?_ GE104.out) | exact HB.out)⟩⟩
          · rw [if_neg c6] at H
            exact absurd H (by simp)
        · rw [if_neg c5] at H
          exact absurd H (by simp)
      · rw [if_neg c4] at H
        have c4b0 : decide (x9_1 < (l0.length : Int)) = false := decide_eq_false c4
        clear c4
        obtain rfl := Option.some.inj H
        go_wp2
        go_ret
        exact ⟨by first | rfl | (simp [errW_none, errW_some] <;> rfl) | (simp [*, errW_none, errW_some] <;> rfl), by repeat (first | (with_reducible first | exact HB.out | apply below_alloc | apply pw_below_drewN | apply below_drew1 | refine below_set ?_ GE102.out) | exact HB.out)⟩

end Go.Proofs.YtbnkdfmomcmmaaaDoor.P


namespace Go.Proofs.YtbnkdfmomcmmaaaDoor.P
open Go.RowKit Go.Proofs.YtbnkdfmomcmmaaaDoorW.PrintWords Go.Proofs.YtbnkdfmomcmmaaaDoorW.PrintLast Go.Proofs.YtbnkdfmomcmmaaaDoorW.PrintMore
attribute [local go_sem] max2_int min2_int max_two min_two max_three min_three max_four min_four   -- for this text's walks alone
set_option linter.unusedVariables false
set_option linter.unusedSimpArgs false

def spec_loStep.f (a0_0 : Int) (a0_1 : Int) (a1 : Int) : Option (Int × Int) := (some (([0, 1, 0, (-1)] : List Int) : List Int)).bind fun y107 => (if 0 ≤ a1 then (if a1 < (y107.length : Int) then ((some (([(-1), 0, 1, 0] : List Int) : List Int)).bind fun y111 => (if a1 < (y111.length : Int) then (some (wrap64 (a0_0 + (rd y107 a1)), wrap64 (a0_1 + (rd y111 a1)))) else (none))) else (none)) else (none))
def spec_loStep.T1 : Bool × List (List Nat × List Nat) := (true, [([], []), ([0], [0]), ([], []), ([], []), ([2, 3], [2, 3]), ([4], [4]), ([1, 5], [1, 5]), ([], []), ([7], [7]), ([], []), ([], []), ([9, 10], [9, 10]), ([11], [11]), ([8, 12], [8, 12]), ([6, 13], [6, 13]), ([14, 0, 1, 2, 3, 4, 5, 6, 7, 8, 9, 10, 11, 12, 13, 14], [14])])
def spec_loStep.B1 : List Nat := [0, 1, 0, 0, 12, 28, 63, 0, 128, 0, 0, 1536, 3584, 8064, 16383, 32767]
theorem spec_loStep.tab1 : rtab .any (opsOf Tryd.f49 1) = spec_loStep.T1 := by kernel_rfl
theorem spec_loStep.bits1 : waitsOk spec_loStep.T1.2 spec_loStep.B1 = true := by kernel_rfl
set_option maxHeartbeats 8000000 in
set_option maxRecDepth 100000 in
theorem spec_loStep.calls (a0_0 : Int) (a0_1 : Int) (a1 : Int) (r1 : Int) (r2 : Int) (w : World) (h : spec_loStep.f a0_0 a0_1 a1 = some (r1, r2)) :
    Calls Tryd.prog 49 #[.agg #[.int .i64 a0_0, .int .i64 a0_1], .int .i64 a1] w fun e w' => e = .returned (.agg #[.int .i64 r1, .int .i64 r2]) ∧ Below w.heap.size w w' := by
  have hu41 := Tryd.underlying41
  have HB := Aside0.mk (Below.refl w.heap.size w)
  have H : ((some (([0, 1, 0, (-1)] : List Int) : List Int)).bind fun y107 => (if 0 ≤ a1 then (if a1 < (y107.length : Int) then ((some (([(-1), 0, 1, 0] : List Int) : List Int)).bind fun y111 => (if a1 < (y111.length : Int) then (some (wrap64 (a0_0 + (rd y107 a1)), wrap64 (a0_1 + (rd y111 a1)))) else (none))) else (none)) else (none))) = some (r1, r2) := h
  clear h
  obtain ⟨y107, hy107⟩ : ∃ y_ : List Int, y_ = (([0, 1, 0, (-1)] : List Int)) := ⟨_, rfl⟩
  replace H : (if 0 ≤ a1 then (if a1 < (y107.length : Int) then ((some (([(-1), 0, 1, 0] : List Int) : List Int)).bind fun y111 => (if a1 < (y111.length : Int) then (some (wrap64 (a0_0 + (rd y107 a1)), wrap64 (a0_1 + (rd y111 a1)))) else (none))) else (none)) else (none)) = some (r1, r2) := by first | (rw [hy107]; with_reducible exact H) | (have H2_ := (Option.bind_some _ _).symm.trans H; rw [hy107]; with_reducible exact H2_) | (have H2_ := (Option.bind_some _ _).symm.trans H; with_reducible exact H2_) | with_reducible exact H | (rw [hy107]; exact H) | exact H
  have Ny107 := Aside0.mk hy107
  clear hy107
  by_cases c3 : 0 ≤ a1
  · rw [if_pos c3] at H
    have c3b0 : decide (0 ≤ a1) = true := decide_eq_true c3
    clear c3
    by_cases c4 : a1 < (y107.length : Int)
    · rw [if_pos c4] at H
      have c4b0 : decide (a1 < (y107.length : Int)) = true := decide_eq_true c4
      clear c4
      obtain ⟨y111, hy111⟩ : ∃ y_ : List Int, y_ = (([(-1), 0, 1, 0] : List Int)) := ⟨_, rfl⟩
      replace H : (if a1 < (y111.length : Int) then (some (wrap64 (a0_0 + (rd y107 a1)), wrap64 (a0_1 + (rd y111 a1)))) else (none)) = some (r1, r2) := by first | (rw [hy111]; with_reducible exact H) | (have H2_ := (Option.bind_some _ _).symm.trans H; rw [hy111]; with_reducible exact H2_) | (have H2_ := (Option.bind_some _ _).symm.trans H; with_reducible exact H2_) | with_reducible exact H | (rw [hy111]; exact H) | exact H
      have Ny111 := Aside0.mk hy111
      clear hy111
      by_cases c5 : a1 < (y111.length : Int)
      · rw [if_pos c5] at H
        have c5b0 : decide (a1 < (y111.length : Int)) = true := decide_eq_true c5
        clear c5
        simp only [Option.some.injEq, Prod.mk.injEq] at H
        obtain ⟨rfl, rfl⟩ := H
        go_enter Tryd.func49, Tryd.ntmps49
        try go_wp2_with (first | ((with_reducible refine gate_dst (N := 2) rfl ?_); refine box_event ?hg (N := 2) ?hd (cs := #[.int .i64 a0_0, .int .i64 a0_1]) (t := 41) ?hr ?_; (case hd => rfl); (case hg => rfl); (case hr => first | (go_simp; done) | (go_simp; rfl)); intro gb105 hg w6 hbox hb; have n0_ := Aside0.mk (below_step (by repeat (first | (with_reducible first | exact HB.out | apply below_alloc | apply pw_below_drewN | apply below_drew1) | exact HB.out)) hb); have n1_ := Aside0.mk (hbox); have n2_ := Aside0.mk ((by rw [hg]; exact (below_size (by repeat (first | (with_reducible first | exact HB.out | apply below_alloc | apply pw_below_drewN | apply below_drew1) | exact HB.out))) : w.heap.size ≤ gb105)); have n3_ := Aside0.mk ((by rw [hg]; exact (below_size (by repeat (first | (with_reducible first | exact HB.out | apply below_alloc | apply pw_below_drewN | apply below_drew1) | exact HB.out))) : w.heap.size ≤ gb105)); clear HB; have HB := n0_; have BK105 := n1_; have GW105 := n2_; have GE105 := n3_; clear n0_ n1_ n2_ n3_; clear hb hbox hg) | ((with_reducible refine gate_dst (N := 4) rfl ?_); refine box_event ?hg (N := 4) ?hd (cs := #[.int .i64 0, .int .i64 0]) (t := 41) ?hr ?_; (case hd => rfl); (case hg => rfl); (case hr => first | (go_simp; done) | (go_simp; rfl)); intro gb106 hg w7 hbox hb; have n0_ := Aside0.mk (blk_below (g := gb105) (o := .cells #[.int .i64 a0_0, .int .i64 a0_1] 41 (0, 0)) (by (with_reducible repeat (first | refine blk_drewN ?_ _ | refine blk_drew ?_ | refine blk_alloc ?_ _)); exact BK105.out) hb); have n1_ := Aside0.mk (below_step (by repeat (first | (with_reducible first | exact HB.out | apply below_alloc | apply pw_below_drewN | apply below_drew1 | refine below_set ?_ GE105.out) | exact HB.out)) hb); have n2_ := Aside0.mk (hbox); have n3_ := Aside0.mk ((by rw [hg]; exact (below_size (by repeat (first | (with_reducible first | exact HB.out | apply below_alloc | apply pw_below_drewN | apply below_drew1 | refine below_set ?_ GE105.out) | exact HB.out))) : w.heap.size ≤ gb106)); have n4_ := Aside0.mk ((by rw [hg]; exact (below_size (by repeat (first | (with_reducible first | exact HB.out | apply below_alloc | apply pw_below_drewN | apply below_drew1 | refine below_set ?_ GE105.out) | exact HB.out))) : w.heap.size ≤ gb106)); have n5_ := Aside0.mk ((by rw [hg]; exact Nat.ne_of_lt (blk_lt (g := gb105) (o := .cells #[.int .i64 a0_0, .int .i64 a0_1] 41 (0, 0)) (by (with_reducible repeat (first | refine blk_drewN ?_ _ | refine blk_drew ?_ | refine blk_alloc ?_ _)); exact BK105.out)) : gb105 ≠ gb106)); have n6_ := Aside0.mk ((by rw [hg]; exact Nat.ne_of_gt (blk_lt (g := gb105) (o := .cells #[.int .i64 a0_0, .int .i64 a0_1] 41 (0, 0)) (by (with_reducible repeat (first | refine blk_drewN ?_ _ | refine blk_drew ?_ | refine blk_alloc ?_ _)); exact BK105.out)) : gb106 ≠ gb105)); clear BK105; clear HB; have BK105 := n0_; have HB := n1_; have BK106 := n2_; have GW106 := n3_; have GE106 := n4_; have NB105_106 := n5_; have NB106_105 := n6_; clear n0_ n1_ n2_ n3_ n4_ n5_ n6_; clear hb hbox hg))
        have pi110 : (0 ≤ (a1 : Int)) = True := eq_true (of_decide_eq_true (by first | (with_reducible assumption) | assumption))
        have qi110 : (a1 < (y107.length : Int)) = True := eq_true (of_decide_eq_true (by first | (with_reducible assumption) | assumption))
        have pi114 : (0 ≤ (a1 : Int)) = True := eq_true (of_decide_eq_true (by first | (with_reducible assumption) | assumption))
        have qi114 : (a1 < (y111.length : Int)) = True := eq_true (of_decide_eq_true (by first | (with_reducible assumption) | assumption))
        have n0_ := Aside0.mk (blk_drew BK105.out)
        have n1_ := Aside0.mk (blk_drew BK106.out)
        have n2_ := Aside0.mk (below_drew1 HB.out)
        clear BK105
        clear BK106
        clear HB
        have BK105 := n0_
        have BK106 := n1_
        have HB := n2_
        clear n0_ n1_ n2_
        refine start_ (n := 16) (S := fun w' => True) (ds := []) #[false, false, false, false, false, false, false, false, false, false, false, false, false, false, false, false] (by kernel_rfl) rfl rfl trivial (fun hHeld => ?_); refine with_tabW spec_loStep.tab1 spec_loStep.bits1 (fun HT_ HW_ => ?_)
        generalize w7.drew = w8 at BK105 BK106 HB hHeld ⊢
        refine pure_ (i := 0) (N := some 5) (v := ?_) (a' := ?_) #[true, false, false, false, false, false, false, false, false, false, false, false, false, false, false, false] rfl rfl (any_of HT_.out (by kernel_rfl)) (fun _ _ _ h => h) (Or.inl ⟨by rfl, ?_⟩) ?_ ?_
        rotate_left
        · intro w'
          go_simp
          with_reducible rfl
        rotate_left
        · simp only [Act.put, List.setIfInBounds_toArray, List.set_cons_zero, List.set_cons_succ, i64_w, i32_w]
          rfl
        refine pure_ (i := 3) (N := some 8) (v := ?_) (a' := ?_) #[true, false, false, true, false, false, false, false, false, false, false, false, false, false, false, false] rfl rfl (any_of HT_.out (by kernel_rfl)) (fun _ _ _ h => h) (Or.inl ⟨by rfl, ?_⟩) ?_ ?_
        rotate_left
        · intro w'
          go_simp
          with_reducible rfl
        rotate_left
        · simp only [Act.put, List.setIfInBounds_toArray, List.set_cons_zero, List.set_cons_succ, i64_w, i32_w]
          rfl
        refine pure_ (i := 7) (N := some 12) (v := ?_) (a' := ?_) #[true, false, false, true, false, false, false, true, false, false, false, false, false, false, false, false] rfl rfl (any_of HT_.out (by kernel_rfl)) (fun _ _ _ h => h) (Or.inl ⟨by rfl, ?_⟩) ?_ ?_
        rotate_left
        · intro w'
          go_simp
          with_reducible rfl
        rotate_left
        · simp only [Act.put, List.setIfInBounds_toArray, List.set_cons_zero, List.set_cons_succ, i64_w, i32_w]
          rfl
        refine pure_ (i := 10) (N := some 15) (v := ?_) (a' := ?_) #[true, false, false, true, false, false, false, true, false, false, true, false, false, false, false, false] rfl rfl (any_of HT_.out (by kernel_rfl)) (fun _ _ _ h => h) (Or.inl ⟨by rfl, ?_⟩) ?_ ?_
        rotate_left
        · intro w'
          go_simp
          with_reducible rfl
        rotate_left
        · simp only [Act.put, List.setIfInBounds_toArray, List.set_cons_zero, List.set_cons_succ, i64_w, i32_w]
          rfl
        refine inv_at [1, 2, 4, 5, 6, 8, 9, 11, 12, 13, 14, 15] (fun a0_ b a w' => ∃ (v108 : Value) (adz_v108 : Addr) (v112 : Value) (adz_v112 : Addr) (m4_ : Value) (m11_ : Value), a = putSel a0_ b [(1, 6, .int .i64 a0_0), (2, 7, v108), (4, 9, m4_), (5, 10, .int .i64 (rd y107 a1)), (6, 11, .int .i64 (wrap64 (a0_0 + (rd y107 a1)))), (8, 13, .int .i64 a0_1), (9, 14, v112), (11, 16, m11_), (12, 17, .int .i64 (rd y111 a1)), (13, 18, .int .i64 (wrap64 (a0_1 + (rd y111 a1)))), (14, 19, .agg #[.int .i64 (wrap64 (a0_0 + (rd y107 a1))), .int .i64 (wrap64 (a0_1 + (rd y111 a1)))])] ∧ (w'.heap[gb105]? = some (.cells #[.int .i64 a0_0, .int .i64 a0_1] 41 (0, 0))) ∧ (b 15 = false → w'.heap[gb106]? = some (.cells #[.int .i64 0, .int .i64 0] 41 (0, 0))) ∧ (Below w.heap.size w w') ∧ (b 2 = true → Kd.R (Kd.int .i64) 3 w' w.heap.size (fun _ => True) v108 y107) ∧ (b 2 = true → ∃ c_, (v108 : Value) = .slice (some adz_v108) y107.length c_) ∧ (b 9 = true → Kd.R (Kd.int .i64) 3 w' w.heap.size (fun _ => True) v112 y111) ∧ (b 9 = true → ∃ c_, (v112 : Value) = .slice (some adz_v112) y111.length c_) ∧ (b 15 = true → w'.heap[gb106]? = some (.cells #[.int .i64 (wrap64 (a0_0 + (rd y107 a1))), .int .i64 (wrap64 (a0_1 + (rd y111 a1)))] 41 (0, 0))) ∧ (b 4 = true → (m4_ : Value) = .pointer (some (adz_v108.add (a1).toNat))) ∧ (b 11 = true → (m11_ : Value) = .pointer (some (adz_v112.add (a1).toNat)))) HT_.out HW_.out (by kernel_rfl) (by kernel_rfl) ?_ ?_ ?_
        · exact ⟨.bool false, ⟨0, 0, none⟩, .bool false, ⟨0, 0, none⟩, .bool false, .bool false, by simp only [putSel, Bool.false_eq_true, if_false], BK105.out, fun _ => BK106.out, HB.out, fun h_ => absurd h_ (by decide), fun h_ => absurd h_ (by decide), fun h_ => absurd h_ (by decide), fun h_ => absurd h_ (by decide), fun h_ => absurd h_ (by decide), fun h_ => absurd h_ (by decide), fun h_ => absurd h_ (by decide)⟩
        · skip
          clear BK105 BK106 HB
          refine steps_cons ?_ ?_
          · rintro b a w' ⟨v108, adz_v108, v112, adz_v112, m4_, m11_, ha, Q_BK105, Q_BK106, Q_HB, Q_HO109, Q_HA_HO109, Q_HO113, Q_HA_HO113, Q_BK106_e15, Q_X4_, Q_X11_⟩ hb_ hon hoff
            refine ⟨_, rfl, fun K hK => ?_⟩
            have e5 : a.tmps[5]? = some (.pointer (some ⟨gb105, 0, none⟩)) := by rw [ha]; exact (putSel_off rfl).trans rfl
            replace ha := Aside0.mk ha
            have BK105 := Aside0.mk Q_BK105
            have BK106 := Aside0.mk (Q_BK106 (hoff 15 (by kernel_rfl)))
            have HB := Aside0.mk Q_HB
            have hc0_ : w'.cell? ⟨gb105, 0, none⟩ = some (.int .i64 a0_0) := (blk_cell BK105.out 0).trans rfl
            have hc1_ : w'.cell? ⟨gb105, 1, none⟩ = some (.int .i64 a0_1) := (blk_cell BK105.out 1).trans rfl
            refine value_ (w1 := w') (v := .int .i64 a0_0) (by rfl) rfl ?_ ?_
            · go_simp
              (try simp only [i64_w])
              try rfl
            refine hK.out _ _ ⟨v108, adz_v108, v112, adz_v112, m4_, m11_, (by rw [ha.out]; exact putSel_upk 0 hb_ rfl rfl rfl), Q_BK105, Q_BK106, Q_HB, Q_HO109, Q_HA_HO109, Q_HO113, Q_HA_HO113, fun h0_ => absurd ((hoff 15 (by kernel_rfl)).symm.trans h0_) (by decide), Q_X4_, Q_X11_⟩
          refine steps_cons ?_ ?_
          · rintro b a w' ⟨v108, adz_v108, v112, adz_v112, m4_, m11_, ha, Q_BK105, Q_BK106, Q_HB, Q_HO109, Q_HA_HO109, Q_HO113, Q_HA_HO113, Q_BK106_e15, Q_X4_, Q_X11_⟩ hb_ hon hoff
            refine ⟨_, rfl, fun K hK => ?_⟩
            replace ha := Aside0.mk ha
            have BK105 := Aside0.mk Q_BK105
            have BK106 := Aside0.mk (Q_BK106 (hoff 15 (by kernel_rfl)))
            have HB := Aside0.mk Q_HB
            refine Kd.R_lit_step (Kd.int .i64) _ 3 ?hg (N := 7) ?hd (xs := ([0, 1, 0, (-1)] : List Int)) (inner := [.int .i64 0, .int .i64 1, .int .i64 0, .int .i64 (-1)]) (ok := fun _ => True) (okp := fun _ => True) ?hr ?hp (fun _ hk => hk) trivial (Below.refl _ _) (Nat.le_refl _) (by simp) ?_; (case hd => rfl); (case hg => rfl); (case hr => first | (go_simp; done) | (go_simp; rfl)); (case hp => exact (Reps.one (show Kd.M (Kd.int .i64) _ _ _ 0 [.int .i64 0] from rfl) (Reps.one (show Kd.M (Kd.int .i64) _ _ _ 1 [.int .i64 1] from rfl) (Reps.one (show Kd.M (Kd.int .i64) _ _ _ 0 [.int .i64 0] from rfl) (Reps.one (show Kd.M (Kd.int .i64) _ _ _ (-1) [.int .i64 (-1)] from rfl) (Reps.none _ _))))))
            intro v108 w9 ho10 hb hg_ hnew_
            clear hg_ hnew_
            (first | rw [← Ny107.out] at ho10 | (simp only [Int.reduceToNat] at ho10; rw [← Ny107.out] at ho10))
            have n0_ := Aside0.mk (Kd.R_lower ho10 (below_size (by repeat (first | (with_reducible first | exact HB.out | apply below_alloc | apply pw_below_drewN | apply below_drew1 | refine below_set ?_ GE105.out | refine below_set ?_ GE106.out) | exact HB.out))))
            have n1_ := Aside0.mk (blk_below (g := gb105) (o := .cells #[.int .i64 a0_0, .int .i64 a0_1] 41 (0, 0)) (by (with_reducible repeat (first | refine blk_drewN ?_ _ | refine blk_drew ?_ | refine blk_alloc ?_ _)); exact BK105.out) hb)
            have n2_ := Aside0.mk (blk_below (g := gb106) (o := .cells #[.int .i64 0, .int .i64 0] 41 (0, 0)) (by (with_reducible repeat (first | refine blk_drewN ?_ _ | refine blk_drew ?_ | refine blk_alloc ?_ _)); exact BK106.out) hb)
            have n3_ := Aside0.mk (below_step (by repeat (first | (with_reducible first | exact HB.out | apply below_alloc | apply pw_below_drewN | apply below_drew1 | refine below_set ?_ GE105.out | refine below_set ?_ GE106.out) | exact HB.out)) hb)
            have z_HO113 := fun (h0_ : b 9 = true) => (show Kd.R (Kd.int .i64) 3 w9 w.heap.size (fun _ => True) v112 y111 from by first | exact (Kd.R_elder' (by (with_reducible repeat (first | apply Kd.R_alloc | apply Kd.R_drewN | apply Kd.R_drew)); exact (Q_HO113 h0_)) (Kd.R_base ho10) hb) | exact Kd.R_mono (Kd.R_elder' (by (with_reducible repeat (first | apply Kd.R_alloc | apply Kd.R_drewN | apply Kd.R_drew)); exact (Q_HO113 h0_)) (Kd.R_base ho10) hb) (fun _ h_ => by first | trivial | exact h_ | exact h_.1))
            clear BK105
            clear BK106
            clear HB
            have HO109 := n0_
            have BK105 := n1_
            have BK106 := n2_
            have HB := n3_
            clear n0_ n1_ n2_ n3_
            clear hb ho10
            obtain ⟨Ao11, co11, eo11⟩ := Kd.R_slice HO109.out
            subst eo11
            obtain ⟨ado11, fo11, _⟩ := Kd.at_int (Kd.R_reads' HO109.out).2.2 0 (by decide) (by rw [Ny107.out]; simp)
            cases fo11
            refine hK.out _ _ ⟨.slice (some ado11) y107.length co11, ado11, v112, adz_v112, m4_, m11_, (by rw [ha.out]; exact putSel_upk 1 hb_ rfl rfl rfl), (by (with_reducible repeat (first | refine blk_drewN ?_ _ | refine blk_drew ?_ | refine blk_alloc ?_ _)); exact BK105.out), fun _ => (by (with_reducible repeat (first | refine blk_drewN ?_ _ | refine blk_drew ?_ | refine blk_alloc ?_ _)); exact BK106.out), (by repeat (first | (with_reducible first | exact HB.out | apply below_alloc | apply pw_below_drewN | apply below_drew1 | refine below_set ?_ GE105.out | refine below_set ?_ GE106.out) | exact HB.out)), fun _ => (by (with_reducible repeat (first | apply Kd.R_alloc | apply Kd.R_drewN | apply Kd.R_drew)); exact HO109.out), fun _ => ⟨_, rfl⟩, z_HO113, Q_HA_HO113, fun h0_ => absurd ((hoff 15 (by kernel_rfl)).symm.trans h0_) (by decide), fun h0_ => absurd ((hoff 4 (by kernel_rfl)).symm.trans h0_) (by decide), Q_X11_⟩
          refine steps_cons ?_ ?_
          · rintro b a w' ⟨v108, adz_v108, v112, adz_v112, m4_, m11_, ha, Q_BK105, Q_BK106, Q_HB, Q_HO109, Q_HA_HO109, Q_HO113, Q_HA_HO113, Q_BK106_e15, Q_X4_, Q_X11_⟩ hb_ hon hoff
            refine ⟨_, rfl, fun K hK => ?_⟩
            have e7 : a.tmps[7]? = some (v108) := by rw [ha]; exact putSel_on (e := (2, 7, v108)) 1 rfl rfl (hon 2 (by kernel_rfl)) rfl
            have e8 : a.tmps[8]? = some (.int .i64 a1) := by rw [ha]; exact (putSel_off rfl).trans rfl
            replace ha := Aside0.mk ha
            have BK105 := Aside0.mk Q_BK105
            have BK106 := Aside0.mk (Q_BK106 (hoff 15 (by kernel_rfl)))
            have HB := Aside0.mk Q_HB
            have HO109 := Aside0.mk (Q_HO109 (hon 2 (by kernel_rfl)))
            have HA_HO109 := Aside0.mk (Q_HA_HO109 (hon 2 (by kernel_rfl)))
            obtain ⟨c_, hv_⟩ := HA_HO109.out
            rw [hv_] at e7
            refine value_ (w1 := w') (v := .pointer (some (adz_v108.add (a1).toNat))) (by rfl) rfl ?_ ?_
            · go_simp
              (try simp only [i64_w])
              try rfl
            refine hK.out _ _ ⟨v108, adz_v108, v112, adz_v112, (.pointer (some (adz_v108.add (a1).toNat))), m11_, (by rw [ha.out]; exact putSel_upk 2 hb_ rfl rfl rfl), Q_BK105, Q_BK106, Q_HB, Q_HO109, Q_HA_HO109, Q_HO113, Q_HA_HO113, fun h0_ => absurd ((hoff 15 (by kernel_rfl)).symm.trans h0_) (by decide), fun _ => rfl, Q_X11_⟩
          refine steps_cons ?_ ?_
          · rintro b a w' ⟨v108, adz_v108, v112, adz_v112, m4_, m11_, ha, Q_BK105, Q_BK106, Q_HB, Q_HO109, Q_HA_HO109, Q_HO113, Q_HA_HO113, Q_BK106_e15, Q_X4_, Q_X11_⟩ hb_ hon hoff
            refine ⟨_, rfl, fun K hK => ?_⟩
            have e9 : a.tmps[9]? = some (m4_) := by rw [ha]; exact putSel_on (e := (4, 9, m4_)) 2 rfl rfl (hon 4 (by kernel_rfl)) rfl
            rw [Q_X4_ (hon 4 (by kernel_rfl))] at e9
            replace ha := Aside0.mk ha
            have BK105 := Aside0.mk Q_BK105
            have BK106 := Aside0.mk (Q_BK106 (hoff 15 (by kernel_rfl)))
            have HB := Aside0.mk Q_HB
            have HO109 := Aside0.mk (Q_HO109 (hon 2 (by kernel_rfl)))
            have HA_HO109 := Aside0.mk (Q_HA_HO109 (hon 2 (by kernel_rfl)))
            obtain ⟨c_, hv_⟩ := HA_HO109.out
            have hF_ := HO109.out
            rw [hv_] at hF_
            obtain ⟨ad_, ea_, hx_⟩ := Kd.at_int (Kd.R_reads' hF_).2.2 a1 (of_eq_true pi110) (of_eq_true qi110)
            cases ea_
            refine value_ (w1 := w') (v := .int .i64 (rd y107 a1)) (by rfl) rfl ?_ ?_
            · go_simp
              (try simp only [i64_w])
              try rfl
            refine hK.out _ _ ⟨v108, adz_v108, v112, adz_v112, m4_, m11_, (by rw [ha.out]; exact putSel_upk 3 hb_ rfl rfl rfl), Q_BK105, Q_BK106, Q_HB, Q_HO109, Q_HA_HO109, Q_HO113, Q_HA_HO113, fun h0_ => absurd ((hoff 15 (by kernel_rfl)).symm.trans h0_) (by decide), Q_X4_, Q_X11_⟩
          refine steps_cons ?_ ?_
          · rintro b a w' ⟨v108, adz_v108, v112, adz_v112, m4_, m11_, ha, Q_BK105, Q_BK106, Q_HB, Q_HO109, Q_HA_HO109, Q_HO113, Q_HA_HO113, Q_BK106_e15, Q_X4_, Q_X11_⟩ hb_ hon hoff
            refine ⟨_, rfl, fun K hK => ?_⟩
            have e6 : a.tmps[6]? = some (.int .i64 a0_0) := by rw [ha]; exact putSel_on (e := (1, 6, .int .i64 a0_0)) 0 rfl rfl (hon 1 (by kernel_rfl)) rfl
            have e10 : a.tmps[10]? = some (.int .i64 (rd y107 a1)) := by rw [ha]; exact putSel_on (e := (5, 10, .int .i64 (rd y107 a1))) 3 rfl rfl (hon 5 (by kernel_rfl)) rfl
            replace ha := Aside0.mk ha
            have BK105 := Aside0.mk Q_BK105
            have BK106 := Aside0.mk (Q_BK106 (hoff 15 (by kernel_rfl)))
            have HB := Aside0.mk Q_HB
            have HO109 := Aside0.mk (Q_HO109 (hon 2 (by kernel_rfl)))
            have HA_HO109 := Aside0.mk (Q_HA_HO109 (hon 2 (by kernel_rfl)))
            refine value_ (w1 := w') (v := .int .i64 (wrap64 (a0_0 + (rd y107 a1)))) (by rfl) rfl ?_ ?_
            · go_simp
              (try simp only [i64_w])
              try rfl
            refine hK.out _ _ ⟨v108, adz_v108, v112, adz_v112, m4_, m11_, (by rw [ha.out]; exact putSel_upk 4 hb_ rfl rfl rfl), Q_BK105, Q_BK106, Q_HB, Q_HO109, Q_HA_HO109, Q_HO113, Q_HA_HO113, fun h0_ => absurd ((hoff 15 (by kernel_rfl)).symm.trans h0_) (by decide), Q_X4_, Q_X11_⟩
          refine steps_cons ?_ ?_
          · rintro b a w' ⟨v108, adz_v108, v112, adz_v112, m4_, m11_, ha, Q_BK105, Q_BK106, Q_HB, Q_HO109, Q_HA_HO109, Q_HO113, Q_HA_HO113, Q_BK106_e15, Q_X4_, Q_X11_⟩ hb_ hon hoff
            refine ⟨_, rfl, fun K hK => ?_⟩
            have e12 : a.tmps[12]? = some (.pointer (some ⟨gb105, 1, none⟩)) := by rw [ha]; exact (putSel_off rfl).trans rfl
            replace ha := Aside0.mk ha
            have BK105 := Aside0.mk Q_BK105
            have BK106 := Aside0.mk (Q_BK106 (hoff 15 (by kernel_rfl)))
            have HB := Aside0.mk Q_HB
            have hc0_ : w'.cell? ⟨gb105, 0, none⟩ = some (.int .i64 a0_0) := (blk_cell BK105.out 0).trans rfl
            have hc1_ : w'.cell? ⟨gb105, 1, none⟩ = some (.int .i64 a0_1) := (blk_cell BK105.out 1).trans rfl
            refine value_ (w1 := w') (v := .int .i64 a0_1) (by rfl) rfl ?_ ?_
            · go_simp
              (try simp only [i64_w])
              try rfl
            refine hK.out _ _ ⟨v108, adz_v108, v112, adz_v112, m4_, m11_, (by rw [ha.out]; exact putSel_upk 5 hb_ rfl rfl rfl), Q_BK105, Q_BK106, Q_HB, Q_HO109, Q_HA_HO109, Q_HO113, Q_HA_HO113, fun h0_ => absurd ((hoff 15 (by kernel_rfl)).symm.trans h0_) (by decide), Q_X4_, Q_X11_⟩
          refine steps_cons ?_ ?_
          · rintro b a w' ⟨v108, adz_v108, v112, adz_v112, m4_, m11_, ha, Q_BK105, Q_BK106, Q_HB, Q_HO109, Q_HA_HO109, Q_HO113, Q_HA_HO113, Q_BK106_e15, Q_X4_, Q_X11_⟩ hb_ hon hoff
            refine ⟨_, rfl, fun K hK => ?_⟩
            replace ha := Aside0.mk ha
            have BK105 := Aside0.mk Q_BK105
            have BK106 := Aside0.mk (Q_BK106 (hoff 15 (by kernel_rfl)))
            have HB := Aside0.mk Q_HB
            refine Kd.R_lit_step (Kd.int .i64) _ 3 ?hg (N := 14) ?hd (xs := ([(-1), 0, 1, 0] : List Int)) (inner := [.int .i64 (-1), .int .i64 0, .int .i64 1, .int .i64 0]) (ok := fun _ => True) (okp := fun _ => True) ?hr ?hp (fun _ hk => hk) trivial (Below.refl _ _) (Nat.le_refl _) (by simp) ?_; (case hd => rfl); (case hg => rfl); (case hr => first | (go_simp; done) | (go_simp; rfl)); (case hp => exact (Reps.one (show Kd.M (Kd.int .i64) _ _ _ (-1) [.int .i64 (-1)] from rfl) (Reps.one (show Kd.M (Kd.int .i64) _ _ _ 0 [.int .i64 0] from rfl) (Reps.one (show Kd.M (Kd.int .i64) _ _ _ 1 [.int .i64 1] from rfl) (Reps.one (show Kd.M (Kd.int .i64) _ _ _ 0 [.int .i64 0] from rfl) (Reps.none _ _))))))
            intro v112 w9 ho10 hb hg_ hnew_
            clear hg_ hnew_
            (first | rw [← Ny111.out] at ho10 | (simp only [Int.reduceToNat] at ho10; rw [← Ny111.out] at ho10))
            have n0_ := Aside0.mk (Kd.R_lower ho10 (below_size (by repeat (first | (with_reducible first | exact HB.out | apply below_alloc | apply pw_below_drewN | apply below_drew1 | refine below_set ?_ GE105.out | refine below_set ?_ GE106.out) | exact HB.out))))
            have n1_ := Aside0.mk (blk_below (g := gb105) (o := .cells #[.int .i64 a0_0, .int .i64 a0_1] 41 (0, 0)) (by (with_reducible repeat (first | refine blk_drewN ?_ _ | refine blk_drew ?_ | refine blk_alloc ?_ _)); exact BK105.out) hb)
            have n2_ := Aside0.mk (blk_below (g := gb106) (o := .cells #[.int .i64 0, .int .i64 0] 41 (0, 0)) (by (with_reducible repeat (first | refine blk_drewN ?_ _ | refine blk_drew ?_ | refine blk_alloc ?_ _)); exact BK106.out) hb)
            have n3_ := Aside0.mk (below_step (by repeat (first | (with_reducible first | exact HB.out | apply below_alloc | apply pw_below_drewN | apply below_drew1 | refine below_set ?_ GE105.out | refine below_set ?_ GE106.out) | exact HB.out)) hb)
            have z_HO109 := fun (h0_ : b 2 = true) => (show Kd.R (Kd.int .i64) 3 w9 w.heap.size (fun _ => True) v108 y107 from by first | exact (Kd.R_elder' (by (with_reducible repeat (first | apply Kd.R_alloc | apply Kd.R_drewN | apply Kd.R_drew)); exact (Q_HO109 h0_)) (Kd.R_base ho10) hb) | exact Kd.R_mono (Kd.R_elder' (by (with_reducible repeat (first | apply Kd.R_alloc | apply Kd.R_drewN | apply Kd.R_drew)); exact (Q_HO109 h0_)) (Kd.R_base ho10) hb) (fun _ h_ => by first | trivial | exact h_ | exact h_.1))
            clear BK105
            clear BK106
            clear HB
            have HO113 := n0_
            have BK105 := n1_
            have BK106 := n2_
            have HB := n3_
            clear n0_ n1_ n2_ n3_
            clear hb ho10
            obtain ⟨Ao11, co11, eo11⟩ := Kd.R_slice HO113.out
            subst eo11
            obtain ⟨ado11, fo11, _⟩ := Kd.at_int (Kd.R_reads' HO113.out).2.2 0 (by decide) (by rw [Ny111.out]; simp)
            cases fo11
            refine hK.out _ _ ⟨v108, adz_v108, .slice (some ado11) y111.length co11, ado11, m4_, m11_, (by rw [ha.out]; exact putSel_upk 6 hb_ rfl rfl rfl), (by (with_reducible repeat (first | refine blk_drewN ?_ _ | refine blk_drew ?_ | refine blk_alloc ?_ _)); exact BK105.out), fun _ => (by (with_reducible repeat (first | refine blk_drewN ?_ _ | refine blk_drew ?_ | refine blk_alloc ?_ _)); exact BK106.out), (by repeat (first | (with_reducible first | exact HB.out | apply below_alloc | apply pw_below_drewN | apply below_drew1 | refine below_set ?_ GE105.out | refine below_set ?_ GE106.out) | exact HB.out)), z_HO109, Q_HA_HO109, fun _ => (by (with_reducible repeat (first | apply Kd.R_alloc | apply Kd.R_drewN | apply Kd.R_drew)); exact HO113.out), fun _ => ⟨_, rfl⟩, fun h0_ => absurd ((hoff 15 (by kernel_rfl)).symm.trans h0_) (by decide), Q_X4_, fun h0_ => absurd ((hoff 11 (by kernel_rfl)).symm.trans h0_) (by decide)⟩
          refine steps_cons ?_ ?_
          · rintro b a w' ⟨v108, adz_v108, v112, adz_v112, m4_, m11_, ha, Q_BK105, Q_BK106, Q_HB, Q_HO109, Q_HA_HO109, Q_HO113, Q_HA_HO113, Q_BK106_e15, Q_X4_, Q_X11_⟩ hb_ hon hoff
            refine ⟨_, rfl, fun K hK => ?_⟩
            have e14 : a.tmps[14]? = some (v112) := by rw [ha]; exact putSel_on (e := (9, 14, v112)) 6 rfl rfl (hon 9 (by kernel_rfl)) rfl
            have e15 : a.tmps[15]? = some (.int .i64 a1) := by rw [ha]; exact (putSel_off rfl).trans rfl
            replace ha := Aside0.mk ha
            have BK105 := Aside0.mk Q_BK105
            have BK106 := Aside0.mk (Q_BK106 (hoff 15 (by kernel_rfl)))
            have HB := Aside0.mk Q_HB
            have HO113 := Aside0.mk (Q_HO113 (hon 9 (by kernel_rfl)))
            have HA_HO113 := Aside0.mk (Q_HA_HO113 (hon 9 (by kernel_rfl)))
            obtain ⟨c_, hv_⟩ := HA_HO113.out
            rw [hv_] at e14
            refine value_ (w1 := w') (v := .pointer (some (adz_v112.add (a1).toNat))) (by rfl) rfl ?_ ?_
            · go_simp
              (try simp only [i64_w])
              try rfl
            refine hK.out _ _ ⟨v108, adz_v108, v112, adz_v112, m4_, (.pointer (some (adz_v112.add (a1).toNat))), (by rw [ha.out]; exact putSel_upk 7 hb_ rfl rfl rfl), Q_BK105, Q_BK106, Q_HB, Q_HO109, Q_HA_HO109, Q_HO113, Q_HA_HO113, fun h0_ => absurd ((hoff 15 (by kernel_rfl)).symm.trans h0_) (by decide), Q_X4_, fun _ => rfl⟩
          refine steps_cons ?_ ?_
          · rintro b a w' ⟨v108, adz_v108, v112, adz_v112, m4_, m11_, ha, Q_BK105, Q_BK106, Q_HB, Q_HO109, Q_HA_HO109, Q_HO113, Q_HA_HO113, Q_BK106_e15, Q_X4_, Q_X11_⟩ hb_ hon hoff
            refine ⟨_, rfl, fun K hK => ?_⟩
            have e16 : a.tmps[16]? = some (m11_) := by rw [ha]; exact putSel_on (e := (11, 16, m11_)) 7 rfl rfl (hon 11 (by kernel_rfl)) rfl
            rw [Q_X11_ (hon 11 (by kernel_rfl))] at e16
            replace ha := Aside0.mk ha
            have BK105 := Aside0.mk Q_BK105
            have BK106 := Aside0.mk (Q_BK106 (hoff 15 (by kernel_rfl)))
            have HB := Aside0.mk Q_HB
            have HO113 := Aside0.mk (Q_HO113 (hon 9 (by kernel_rfl)))
            have HA_HO113 := Aside0.mk (Q_HA_HO113 (hon 9 (by kernel_rfl)))
            obtain ⟨c_, hv_⟩ := HA_HO113.out
            have hF_ := HO113.out
            rw [hv_] at hF_
            obtain ⟨ad_, ea_, hx_⟩ := Kd.at_int (Kd.R_reads' hF_).2.2 a1 (of_eq_true pi114) (of_eq_true qi114)
            cases ea_
            refine value_ (w1 := w') (v := .int .i64 (rd y111 a1)) (by rfl) rfl ?_ ?_
            · go_simp
              (try simp only [i64_w])
              try rfl
            refine hK.out _ _ ⟨v108, adz_v108, v112, adz_v112, m4_, m11_, (by rw [ha.out]; exact putSel_upk 8 hb_ rfl rfl rfl), Q_BK105, Q_BK106, Q_HB, Q_HO109, Q_HA_HO109, Q_HO113, Q_HA_HO113, fun h0_ => absurd ((hoff 15 (by kernel_rfl)).symm.trans h0_) (by decide), Q_X4_, Q_X11_⟩
          refine steps_cons ?_ ?_
          · rintro b a w' ⟨v108, adz_v108, v112, adz_v112, m4_, m11_, ha, Q_BK105, Q_BK106, Q_HB, Q_HO109, Q_HA_HO109, Q_HO113, Q_HA_HO113, Q_BK106_e15, Q_X4_, Q_X11_⟩ hb_ hon hoff
            refine ⟨_, rfl, fun K hK => ?_⟩
            have e13 : a.tmps[13]? = some (.int .i64 a0_1) := by rw [ha]; exact putSel_on (e := (8, 13, .int .i64 a0_1)) 5 rfl rfl (hon 8 (by kernel_rfl)) rfl
            have e17 : a.tmps[17]? = some (.int .i64 (rd y111 a1)) := by rw [ha]; exact putSel_on (e := (12, 17, .int .i64 (rd y111 a1))) 8 rfl rfl (hon 12 (by kernel_rfl)) rfl
            replace ha := Aside0.mk ha
            have BK105 := Aside0.mk Q_BK105
            have BK106 := Aside0.mk (Q_BK106 (hoff 15 (by kernel_rfl)))
            have HB := Aside0.mk Q_HB
            have HO113 := Aside0.mk (Q_HO113 (hon 9 (by kernel_rfl)))
            have HA_HO113 := Aside0.mk (Q_HA_HO113 (hon 9 (by kernel_rfl)))
            refine value_ (w1 := w') (v := .int .i64 (wrap64 (a0_1 + (rd y111 a1)))) (by rfl) rfl ?_ ?_
            · go_simp
              (try simp only [i64_w])
              try rfl
            refine hK.out _ _ ⟨v108, adz_v108, v112, adz_v112, m4_, m11_, (by rw [ha.out]; exact putSel_upk 9 hb_ rfl rfl rfl), Q_BK105, Q_BK106, Q_HB, Q_HO109, Q_HA_HO109, Q_HO113, Q_HA_HO113, fun h0_ => absurd ((hoff 15 (by kernel_rfl)).symm.trans h0_) (by decide), Q_X4_, Q_X11_⟩
          refine steps_cons ?_ ?_
          · rintro b a w' ⟨v108, adz_v108, v112, adz_v112, m4_, m11_, ha, Q_BK105, Q_BK106, Q_HB, Q_HO109, Q_HA_HO109, Q_HO113, Q_HA_HO113, Q_BK106_e15, Q_X4_, Q_X11_⟩ hb_ hon hoff
            refine ⟨_, rfl, fun K hK => ?_⟩
            have e11 : a.tmps[11]? = some (.int .i64 (wrap64 (a0_0 + (rd y107 a1)))) := by rw [ha]; exact putSel_on (e := (6, 11, .int .i64 (wrap64 (a0_0 + (rd y107 a1))))) 4 rfl rfl (hon 6 (by kernel_rfl)) rfl
            have e18 : a.tmps[18]? = some (.int .i64 (wrap64 (a0_1 + (rd y111 a1)))) := by rw [ha]; exact putSel_on (e := (13, 18, .int .i64 (wrap64 (a0_1 + (rd y111 a1))))) 9 rfl rfl (hon 13 (by kernel_rfl)) rfl
            replace ha := Aside0.mk ha
            have BK105 := Aside0.mk Q_BK105
            have BK106 := Aside0.mk (Q_BK106 (hoff 15 (by kernel_rfl)))
            have HB := Aside0.mk Q_HB
            have HO109 := Aside0.mk (Q_HO109 (hon 2 (by kernel_rfl)))
            have HA_HO109 := Aside0.mk (Q_HA_HO109 (hon 2 (by kernel_rfl)))
            have HO113 := Aside0.mk (Q_HO113 (hon 9 (by kernel_rfl)))
            have HA_HO113 := Aside0.mk (Q_HA_HO113 (hon 9 (by kernel_rfl)))
            refine value_ (w1 := w') (v := .agg #[.int .i64 (wrap64 (a0_0 + (rd y107 a1))), .int .i64 (wrap64 (a0_1 + (rd y111 a1)))]) (by rfl) rfl ?_ ?_
            · go_simp
              (try simp only [i64_w])
              try rfl
            refine hK.out _ _ ⟨v108, adz_v108, v112, adz_v112, m4_, m11_, (by rw [ha.out]; exact putSel_upk 10 hb_ rfl rfl rfl), Q_BK105, Q_BK106, Q_HB, Q_HO109, Q_HA_HO109, Q_HO113, Q_HA_HO113, fun h0_ => absurd ((hoff 15 (by kernel_rfl)).symm.trans h0_) (by decide), Q_X4_, Q_X11_⟩
          refine steps_cons ?_ ?_
          · rintro b a w' ⟨v108, adz_v108, v112, adz_v112, m4_, m11_, ha, Q_BK105, Q_BK106, Q_HB, Q_HO109, Q_HA_HO109, Q_HO113, Q_HA_HO113, Q_BK106_e15, Q_X4_, Q_X11_⟩ hb_ hon hoff
            refine ⟨_, rfl, fun K hK => ?_⟩
            have e4 : a.tmps[4]? = some (.pointer (some ⟨gb106, 0, none⟩)) := by rw [ha]; exact (putSel_off rfl).trans rfl
            have e19 : a.tmps[19]? = some (.agg #[.int .i64 (wrap64 (a0_0 + (rd y107 a1))), .int .i64 (wrap64 (a0_1 + (rd y111 a1)))]) := by rw [ha]; exact putSel_on (e := (14, 19, .agg #[.int .i64 (wrap64 (a0_0 + (rd y107 a1))), .int .i64 (wrap64 (a0_1 + (rd y111 a1)))])) 10 rfl rfl (hon 14 (by kernel_rfl)) rfl
            replace ha := Aside0.mk ha
            have BK105 := Aside0.mk Q_BK105
            have BK106 := Aside0.mk (Q_BK106 hb_)
            have HB := Aside0.mk Q_HB
            have HO109 := Aside0.mk (Q_HO109 (hon 2 (by kernel_rfl)))
            have HA_HO109 := Aside0.mk (Q_HA_HO109 (hon 2 (by kernel_rfl)))
            have HO113 := Aside0.mk (Q_HO113 (hon 9 (by kernel_rfl)))
            have HA_HO113 := Aside0.mk (Q_HA_HO113 (hon 9 (by kernel_rfl)))
            obtain ⟨co16, eo16⟩ := HA_HO109.out
            clear HA_HO109
            subst eo16
            obtain ⟨co17, eo17⟩ := HA_HO113.out
            clear HA_HO113
            subst eo17
            have hs18 : w'.cell? ⟨gb106, 0, none⟩ = some (.int .i64 0) := (blk_cell BK106.out 0).trans rfl
            have hfs18 := blk_frozen BK106.out 0
            have hns18_0 := NB105_106.out
            have hms18_0 := NB106_105.out
            have hs19 : w'.cell? ⟨gb106, 1, none⟩ = some (.int .i64 0) := (blk_cell BK106.out 1).trans rfl
            have hfs19 := blk_frozen BK106.out 1
            have hns19_0 := NB105_106.out
            have hms19_0 := NB106_105.out
            refine skip_ (w1 := ?_) (by rfl) rfl ?_ ?_
            rotate_left
            · go_simp
              rfl
            refine hK.out _ _ ⟨.slice (some adz_v108) y107.length co16, adz_v108, .slice (some adz_v112) y111.length co17, adz_v112, m4_, m11_, (by rw [ha.out]; exact putSel_none (v := undef) rfl), (by (with_reducible repeat (first | refine blk_drewN ?_ _ | refine blk_drew ?_ | refine blk_alloc ?_ _)); refine blk_far ?_ NB105_106.out _; (with_reducible repeat (first | refine blk_drewN ?_ _ | refine blk_drew ?_ | refine blk_alloc ?_ _)); refine blk_far ?_ NB105_106.out _; (with_reducible repeat (first | refine blk_drewN ?_ _ | refine blk_drew ?_ | refine blk_alloc ?_ _)); exact BK105.out), fun h0_ => absurd ((up_self b 15).symm.trans h0_) (by decide), (by repeat (first | (with_reducible first | exact HB.out | apply below_alloc | apply pw_below_drewN | apply below_drew1 | refine below_set ?_ GE105.out | refine below_set ?_ GE106.out) | exact HB.out)), fun _ => (by (with_reducible repeat (first | apply Kd.R_alloc | apply Kd.R_drewN | apply Kd.R_drew)); exact Kd.R_mono (Kd.R_far (p := ⟨gb106, 1, none⟩) (Kd.R_far (p := ⟨gb106, 0, none⟩) (Kd.R_types HO109.out BK106.out (by decide)) (fun _ hk => hk.2) (.int .i64 (wrap64 (a0_0 + (rd y107 a1))))) (fun _ hk => hk.2) (.int .i64 (wrap64 (a0_1 + (rd y111 a1))))) (fun _ hk => hk.1)), fun _ => ⟨_, rfl⟩, fun _ => (by (with_reducible repeat (first | apply Kd.R_alloc | apply Kd.R_drewN | apply Kd.R_drew)); exact Kd.R_mono (Kd.R_far (p := ⟨gb106, 1, none⟩) (Kd.R_far (p := ⟨gb106, 0, none⟩) (Kd.R_types HO113.out BK106.out (by decide)) (fun _ hk => hk.2) (.int .i64 (wrap64 (a0_0 + (rd y107 a1))))) (fun _ hk => hk.2) (.int .i64 (wrap64 (a0_1 + (rd y111 a1))))) (fun _ hk => hk.1)), fun _ => ⟨_, rfl⟩, fun _ => (by (with_reducible repeat (first | refine blk_drewN ?_ _ | refine blk_drew ?_ | refine blk_alloc ?_ _)); refine blk_put (cs := #[.int .i64 (wrap64 (a0_0 + (rd y107 a1))), .int .i64 0]) ?_ 1 _ rfl; (with_reducible repeat (first | refine blk_drewN ?_ _ | refine blk_drew ?_ | refine blk_alloc ?_ _)); refine blk_put (cs := #[.int .i64 0, .int .i64 0]) ?_ 0 _ rfl; (with_reducible repeat (first | refine blk_drewN ?_ _ | refine blk_drew ?_ | refine blk_alloc ?_ _)); exact BK106.out), Q_X4_, Q_X11_⟩
          exact steps_nil
        rintro b a w17 hall ⟨v108, adz_v108, v112, adz_v112, m4_, m11_, ha, Q_BK105, Q_BK106, Q_HB, Q_HO109, Q_HA_HO109, Q_HO113, Q_HA_HO113, Q_BK106_e15, Q_X4_, Q_X11_⟩
        clear BK105 BK106 HB
        have hb1_ := hall 1 (by kernel_rfl)
        have hb2_ := hall 2 (by kernel_rfl)
        have hb4_ := hall 4 (by kernel_rfl)
        have hb5_ := hall 5 (by kernel_rfl)
        have hb6_ := hall 6 (by kernel_rfl)
        have hb8_ := hall 8 (by kernel_rfl)
        have hb9_ := hall 9 (by kernel_rfl)
        have hb11_ := hall 11 (by kernel_rfl)
        have hb12_ := hall 12 (by kernel_rfl)
        have hb13_ := hall 13 (by kernel_rfl)
        have hb14_ := hall 14 (by kernel_rfl)
        have hb15_ := hall 15 (by kernel_rfl)
        subst ha
        obtain rfl := Q_X4_ hb4_
        obtain rfl := Q_X11_ hb11_
        simp only [putSel, hb1_, hb2_, hb4_, hb5_, hb6_, hb8_, hb9_, hb11_, hb12_, hb13_, hb14_, hb15_, if_true, Act.put, List.setIfInBounds_toArray, List.set_cons_zero, List.set_cons_succ]
        have BK105 := Aside0.mk Q_BK105
        clear Q_BK105
        clear Q_BK106
        have HB := Aside0.mk Q_HB
        clear Q_HB
        have HO109 := Aside0.mk (Q_HO109 hb2_)
        clear Q_HO109
        have HA_HO109 := Aside0.mk (Q_HA_HO109 hb2_)
        clear Q_HA_HO109
        have HO113 := Aside0.mk (Q_HO113 hb9_)
        clear Q_HO113
        have HA_HO113 := Aside0.mk (Q_HA_HO113 hb9_)
        clear Q_HA_HO113
        have BK106 := Aside0.mk (Q_BK106_e15 hb15_)
        clear Q_BK106_e15
        clear hall hb1_ hb2_ hb4_ hb5_ hb6_ hb8_ hb9_ hb11_ hb12_ hb13_ hb14_ hb15_
        obtain ⟨co18, eo18⟩ := HA_HO109.out
        clear HA_HO109
        subst eo18
        obtain ⟨co19, eo19⟩ := HA_HO113.out
        clear HA_HO113
        subst eo19
        try go_wp2
        refine bodyPost_ret (results_cell_row rfl _ _ gb106 41 #[.int .i64 (wrap64 (a0_0 + (rd y107 a1))), .int .i64 (wrap64 (a0_1 + (rd y111 a1)))] (0, 0) _ rfl (by (with_reducible repeat (first | refine blk_drewN ?_ _ | refine blk_drew ?_ | refine blk_alloc ?_ _)); exact BK106.out) Tryd.underlying41 rfl (by kernel_rfl)) rfl ?_
        exact ⟨by first | rfl | (simp [errW_none, errW_some] <;> rfl) | (simp [*, errW_none, errW_some] <;> rfl), by repeat (first | (with_reducible first | exact HB.out | apply below_alloc | apply pw_below_drewN | apply below_drew1 | refine below_set ?_ GE105.out | refine below_set ?_ GE106.out) | exact HB.out)⟩
      · rw [if_neg c5] at H
        exact absurd H (by simp)
    · rw [if_neg c4] at H
      exact absurd H (by simp)
  · rw [if_neg c3] at H
    exact absurd H (by simp)

end Go.Proofs.YtbnkdfmomcmmaaaDoor.P


namespace Go.Proofs.YtbnkdfmomcmmaaaDoor.P
open Go.RowKit Go.Proofs.YtbnkdfmomcmmaaaDoorW.PrintWords Go.Proofs.YtbnkdfmomcmmaaaDoorW.PrintLast Go.Proofs.YtbnkdfmomcmmaaaDoorW.PrintMore
attribute [local go_sem] max2_int min2_int max_two min_two max_three min_three max_four min_four   -- for this text's walks alone
set_option linter.unusedVariables false
set_option linter.unusedSimpArgs false

attribute [local go_sem high] eqA41
def spec_loCorners.l0 : Nat → ByteArray → List (S41) → Int → Int → Int → Option ((List (S41)) × Bool)
  | 0, _, _, _, _, _ => none
  | k + 1, x0, x4, x6, x117000, x117001 => if x6 < (x0.size : Int) then (if 0 ≤ x6 then ((spec_loDir.f k (bt x0 x6)).bind fun t117 => (if t117 < 0 then (some (([] : List (S41)), false)) else ((spec_liHas.f k x4 x117000 x117001).bind fun t118 => (if t118 = true then (some (([] : List (S41)), false)) else (if x4.length < 8796093022208 then ((spec_loStep.f x117000 x117001 t117).bind fun bt122 => (spec_loCorners.l0 k x0 (x4 ++ [(⟨x117000, x117001⟩ : S41)]) (wrap64 (x6 + 1)) bt122.1 bt122.2)) else (none)))))) else (none)) else (some (x4, (x117000 == 0 && (x117001 == 0))))
def spec_loCorners.f (k : Nat) (a0 : ByteArray) : Option ((List (S41)) × Bool) := (spec_l1In.f (a0.size : Int) 4 40).bind fun t115 => (if t115 = true then (spec_loCorners.l0 k a0 ([] : List (S41)) 0 0 0) else (some (([] : List (S41)), false)))
theorem spec_loCorners.mono_l : ∀ k, (∀ y0 y1 y2 y3 y4, LeO (spec_loCorners.l0 k y0 y1 y2 y3 y4) (spec_loCorners.l0 (k + 1) y0 y1 y2 y3 y4))
  | 0 => fun _ _ _ _ _ r h => by simp [spec_loCorners.l0] at h
  | k + 1 => by
    have ih0 := spec_loCorners.mono_l k
    · intro y0 y1 y2 y3 y4
      unfold spec_loCorners.l0
      repeat' first
      | (with_reducible exact ih0 _ _ _ _ _)
      | (with_reducible exact spec_liHas.mono _ _ _ _)
      | (with_reducible exact spec_loDir.mono _ _)
      | (with_reducible exact LeO.refl _)
      | (with_reducible exact LeO.none _)
      | (with_reducible refine LeO.ite ?_ ?_)
      | (with_reducible refine LeO.bind ?_ (fun _ => ?_))
      | exact ih0 _ _ _ _ _
      | exact spec_liHas.mono _ _ _ _
      | exact spec_loDir.mono _ _
      | exact LeO.none _
      | refine LeO.ite ?_ ?_
      | refine LeO.bind ?_ (fun _ => ?_)
theorem spec_loCorners.mono : ∀ a0 k, LeO (spec_loCorners.f k a0) (spec_loCorners.f (k + 1) a0) := by
  intro a0 k
  have ih0 := spec_loCorners.mono_l k
  unfold spec_loCorners.f
  repeat' first
      | (with_reducible exact ih0 _ _ _ _ _)
      | (with_reducible exact spec_liHas.mono _ _ _ _)
      | (with_reducible exact spec_loDir.mono _ _)
      | (with_reducible exact LeO.refl _)
      | (with_reducible exact LeO.none _)
      | (with_reducible refine LeO.ite ?_ ?_)
      | (with_reducible refine LeO.bind ?_ (fun _ => ?_))
      | exact ih0 _ _ _ _ _
      | exact spec_liHas.mono _ _ _ _
      | exact spec_loDir.mono _ _
      | exact LeO.none _
      | refine LeO.ite ?_ ?_
      | refine LeO.bind ?_ (fun _ => ?_)
set_option maxHeartbeats 8000000 in
set_option maxRecDepth 100000 in
theorem spec_loCorners.calls (k : Nat) (a0 : ByteArray) (r1 : List (S41)) (r2 : Bool) (w : World) (h : spec_loCorners.f k a0 = some (r1, r2)) :
    Calls Tryd.prog 27 #[.string a0] w fun e w' => ∃ v0_ : Value, e = .returned (.tuple #[v0_, .bool r2]) ∧ Kd.R k41 41 w' w.heap.size (fun _ => True) v0_ r1 ∧ Below w.heap.size w w' := by
  have hu41 := Tryd.underlying41
  have HB := Aside0.mk (Below.refl w.heap.size w)
  have H : ((spec_l1In.f (a0.size : Int) 4 40).bind fun t115 => (if t115 = true then (spec_loCorners.l0 k a0 ([] : List (S41)) 0 0 0) else (some (([] : List (S41)), false)))) = some (r1, r2) := h
  clear h
  replace H := Option.bind_eq_some_iff.mp H
  obtain ⟨t115, A20, H⟩ := H
  replace H : (if t115 = true then (spec_loCorners.l0 k a0 ([] : List (S41)) 0 0 0) else (some (([] : List (S41)), false))) = some (r1, r2) := H
  have A2 := Aside0.mk A20
  clear A20
  by_cases c3 : t115 = true
  · subst c3
    have H1 : (spec_loCorners.l0 k a0 ([] : List (S41)) 0 0 0) = some (r1, r2) := by rw [if_pos rfl] at H; exact H
    clear H
    have H := H1
    clear H1
    have H' := Aside0.mk H
    clear H
    go_enter Tryd.func27, Tryd.ntmps27
    go_wp2_with (first | (go_at_call 41; (with_reducible refine (spec_l1In.calls (a0.size : Int) 4 40 true _ A2.out).mono ?_); rintro e w' ⟨rfl, ⟨nd, rfl⟩⟩; (try first | exact ⟨rfl, _, World.drewN_drewN _ _ _⟩ | exact ⟨rfl, _, Eq.trans (World.drewN_drewN _ _ _) (congrArg (World.drewN _) (Nat.add_assoc _ _ _))⟩)) | ((with_reducible refine gate_dst (N := 5) rfl ?_); refine box_event ?hg (N := 5) ?hd (cs := #[.int .i64 0, .int .i64 0]) (t := 41) ?hr ?_; (case hd => rfl); (case hg => rfl); (case hr => first | (go_simp; done) | (go_simp; rfl)); intro gb116 hg w4 hbox hb; have n0_ := Aside0.mk (below_step (by repeat (first | (with_reducible first | exact HB.out | apply below_alloc | apply pw_below_drewN | apply below_drew1) | exact HB.out)) hb); have n1_ := Aside0.mk (hbox); have n2_ := Aside0.mk ((by rw [hg]; exact (below_size (by repeat (first | (with_reducible first | exact HB.out | apply below_alloc | apply pw_below_drewN | apply below_drew1) | exact HB.out))) : w.heap.size ≤ gb116)); have n3_ := Aside0.mk ((by rw [hg]; exact (below_size (by repeat (first | (with_reducible first | exact HB.out | apply below_alloc | apply pw_below_drewN | apply below_drew1) | exact HB.out))) : w.heap.size ≤ gb116)); clear HB; have HB := n0_; have BK116 := n1_; have GW116 := n2_; have GE116 := n3_; clear n0_ n1_ n2_ n3_; clear hb hbox hg; have hcz5_0 : w4.cell? ⟨gb116, 0, none⟩ = some (.int .i64 0) := (blk_cell BK116.out 0).trans rfl; have hcz5_1 : w4.cell? ⟨gb116, 1, none⟩ = some (.int .i64 0) := (blk_cell BK116.out 1).trans rfl; have hfz5_0 := blk_frozen BK116.out 0; have hfz5_1 := blk_frozen BK116.out 1))
    repeat (go_quiet (first | (go_at_call 41; (with_reducible refine (spec_l1In.calls (a0.size : Int) 4 40 true _ A2.out).mono ?_); rintro e w' ⟨rfl, ⟨nd, rfl⟩⟩; (try first | exact ⟨rfl, _, World.drewN_drewN _ _ _⟩ | exact ⟨rfl, _, Eq.trans (World.drewN_drewN _ _ _) (congrArg (World.drewN _) (Nat.add_assoc _ _ _))⟩)) | ((with_reducible refine gate_dst (N := 5) rfl ?_); refine box_event ?hg (N := 5) ?hd (cs := #[.int .i64 0, .int .i64 0]) (t := 41) ?hr ?_; (case hd => rfl); (case hg => rfl); (case hr => first | (go_simp; done) | (go_simp; rfl)); intro gb116 hg w4 hbox hb; have n0_ := Aside0.mk (below_step (by repeat (first | (with_reducible first | exact HB.out | apply below_alloc | apply pw_below_drewN | apply below_drew1) | exact HB.out)) hb); have n1_ := Aside0.mk (hbox); have n2_ := Aside0.mk ((by rw [hg]; exact (below_size (by repeat (first | (with_reducible first | exact HB.out | apply below_alloc | apply pw_below_drewN | apply below_drew1) | exact HB.out))) : w.heap.size ≤ gb116)); have n3_ := Aside0.mk ((by rw [hg]; exact (below_size (by repeat (first | (with_reducible first | exact HB.out | apply below_alloc | apply pw_below_drewN | apply below_drew1) | exact HB.out))) : w.heap.size ≤ gb116)); clear HB; have HB := n0_; have BK116 := n1_; have GW116 := n2_; have GE116 := n3_; clear n0_ n1_ n2_ n3_; clear hb hbox hg; have hcz5_0 : w4.cell? ⟨gb116, 0, none⟩ = some (.int .i64 0) := (blk_cell BK116.out 0).trans rfl; have hcz5_1 : w4.cell? ⟨gb116, 1, none⟩ = some (.int .i64 0) := (blk_cell BK116.out 1).trans rfl; have hfz5_0 := blk_frozen BK116.out 0; have hfz5_1 := blk_frozen BK116.out 1)); try go_wp2_with (first | (go_at_call 41; (with_reducible refine (spec_l1In.calls (a0.size : Int) 4 40 true _ A2.out).mono ?_); rintro e w' ⟨rfl, ⟨nd, rfl⟩⟩; (try first | exact ⟨rfl, _, World.drewN_drewN _ _ _⟩ | exact ⟨rfl, _, Eq.trans (World.drewN_drewN _ _ _) (congrArg (World.drewN _) (Nat.add_assoc _ _ _))⟩)) | ((with_reducible refine gate_dst (N := 5) rfl ?_); refine box_event ?hg (N := 5) ?hd (cs := #[.int .i64 0, .int .i64 0]) (t := 41) ?hr ?_; (case hd => rfl); (case hg => rfl); (case hr => first | (go_simp; done) | (go_simp; rfl)); intro gb116 hg w4 hbox hb; have n0_ := Aside0.mk (below_step (by repeat (first | (with_reducible first | exact HB.out | apply below_alloc | apply pw_below_drewN | apply below_drew1) | exact HB.out)) hb); have n1_ := Aside0.mk (hbox); have n2_ := Aside0.mk ((by rw [hg]; exact (below_size (by repeat (first | (with_reducible first | exact HB.out | apply below_alloc | apply pw_below_drewN | apply below_drew1) | exact HB.out))) : w.heap.size ≤ gb116)); have n3_ := Aside0.mk ((by rw [hg]; exact (below_size (by repeat (first | (with_reducible first | exact HB.out | apply below_alloc | apply pw_below_drewN | apply below_drew1) | exact HB.out))) : w.heap.size ≤ gb116)); clear HB; have HB := n0_; have BK116 := n1_; have GW116 := n2_; have GE116 := n3_; clear n0_ n1_ n2_ n3_; clear hb hbox hg; have hcz5_0 : w4.cell? ⟨gb116, 0, none⟩ = some (.int .i64 0) := (blk_cell BK116.out 0).trans rfl; have hcz5_1 : w4.cell? ⟨gb116, 1, none⟩ = some (.int .i64 0) := (blk_cell BK116.out 1).trans rfl; have hfz5_0 := blk_frozen BK116.out 0; have hfz5_1 := blk_frozen BK116.out 1)))
    go_loopg [4, 6] k (fun kq v4 v6 w' => ∃ (x4_1 : List (S41)) (x6_1 : Int) (x117000_1 : Int) (x117001_1 : Int), v6 = .int .i64 x6_1 ∧ Aside0 (spec_loCorners.l0 kq a0 x4_1 x6_1 x117000_1 x117001_1 = some (r1, r2)) ∧ Aside0 (kq ≤ k) ∧ Aside0 (Kd.R k41 41 w' w.heap.size (fun k_ => k_ ≠ gb116) v4 x4_1) ∧ Aside0 (w'.heap[gb116]? = some (.cells #[.int .i64 x117000_1, .int .i64 x117001_1] 41 (0, 0))) ∧ Aside0 (Below w.heap.size w w'))
    case atStart => exact ⟨(([] : List (S41))), (0), (0), (0), (by first | rfl | (simp; done) | (simp [*]; done)), H', ⟨Nat.le_refl _⟩, ⟨by first | exact Kd.R_nil _ _ _ _ _ | exact Kd.N_nil _ _ _ _ _ | exact Kd.V_nil _ _ _ _ _ | exact Kd.Q_nil _ _ _ _ _ | exact Kd.S_nil _ _ _ _ _⟩, ⟨by (with_reducible repeat (first | refine blk_drewN ?_ _ | refine blk_drew ?_ | refine blk_alloc ?_ _)); refine blk_put (cs := #[.int .i64 0, .int .i64 0]) ?_ 1 _ rfl; (with_reducible repeat (first | refine blk_drewN ?_ _ | refine blk_drew ?_ | refine blk_alloc ?_ _)); refine blk_put (cs := #[.int .i64 0, .int .i64 0]) ?_ 0 _ rfl; (with_reducible repeat (first | refine blk_drewN ?_ _ | refine blk_drew ?_ | refine blk_alloc ?_ _)); exact BK116.out⟩, ⟨by repeat (first | (with_reducible first | exact HB.out | apply below_alloc | apply pw_below_drewN | apply below_drew1 | refine below_set ?_ GE116.out) | exact HB.out)⟩⟩
    case round =>
      clear H'
      try clear c2
      try clear p2
      try clear c3
      try clear hcz5_0
      try clear hcz5_1
      try clear hfz5_0
      try clear hfz5_1
      obtain ⟨x4_1, x6_1, x117000_1, x117001_1, rfl, HA, HK1, HO_4, BK116, HB⟩ := hrel
      cases gk with
      | zero => exact absurd HA.out (by simp [spec_loCorners.l0])
      | succ k1 =>
        have H := HA.out
        clear HA
        simp only [spec_loCorners.l0] at H
        by_cases c6 : x6_1 < (a0.size : Int)
        · rw [if_pos c6] at H
          have c6b0 : decide (x6_1 < (a0.size : Int)) = true := decide_eq_true c6
          clear c6
          by_cases c7 : 0 ≤ x6_1
          · rw [if_pos c7] at H
            have c7b0 : decide (0 ≤ x6_1) = true := decide_eq_true c7
            clear c7
            replace H := Option.bind_eq_some_iff.mp H
            obtain ⟨t117, A90, H⟩ := H
            replace H : (if t117 < 0 then (some (([] : List (S41)), false)) else ((spec_liHas.f k1 x4_1 x117000_1 x117001_1).bind fun t118 => (if t118 = true then (some (([] : List (S41)), false)) else (if x4_1.length < 8796093022208 then ((spec_loStep.f x117000_1 x117001_1 t117).bind fun bt122 => (spec_loCorners.l0 k1 a0 (x4_1 ++ [(⟨x117000_1, x117001_1⟩ : S41)]) (wrap64 (x6_1 + 1)) bt122.1 bt122.2)) else (none))))) = some (r1, r2) := H
            have A9 := Aside0.mk A90
            clear A90
            by_cases c10 : t117 < 0
            · rw [if_pos c10] at H
              have c10b0 : decide (t117 < 0) = true := decide_eq_true c10
              clear c10
              simp only [Option.some.injEq, Prod.mk.injEq] at H
              obtain ⟨rfl, rfl⟩ := H
              have p8 : 0 ≤ (x6_1 : Int) := of_decide_eq_true (by first | (with_reducible assumption) | assumption)
              have q8 : x6_1 < (a0.size : Int) := of_decide_eq_true (by first | (with_reducible assumption) | assumption)
              have hx8 := bt_at a0 x6_1
              replace p8 := eq_true p8
              replace q8 := eq_true q8
              go_wp2_with (first | (go_at_call 36; (with_reducible refine (spec_loDir.calls k1 (bt a0 x6_1) t117 _ A9.out).mono ?_); rintro e w' ⟨rfl, ⟨nd, rfl⟩⟩; (try first | exact ⟨rfl, _, World.drewN_drewN _ _ _⟩ | exact ⟨rfl, _, Eq.trans (World.drewN_drewN _ _ _) (congrArg (World.drewN _) (Nat.add_assoc _ _ _))⟩)))
              repeat (go_quiet (first | (go_at_call 36; (with_reducible refine (spec_loDir.calls k1 (bt a0 x6_1) t117 _ A9.out).mono ?_); rintro e w' ⟨rfl, ⟨nd, rfl⟩⟩; (try first | exact ⟨rfl, _, World.drewN_drewN _ _ _⟩ | exact ⟨rfl, _, Eq.trans (World.drewN_drewN _ _ _) (congrArg (World.drewN _) (Nat.add_assoc _ _ _))⟩))); try go_wp2_with (first | (go_at_call 36; (with_reducible refine (spec_loDir.calls k1 (bt a0 x6_1) t117 _ A9.out).mono ?_); rintro e w' ⟨rfl, ⟨nd, rfl⟩⟩; (try first | exact ⟨rfl, _, World.drewN_drewN _ _ _⟩ | exact ⟨rfl, _, Eq.trans (World.drewN_drewN _ _ _) (congrArg (World.drewN _) (Nat.add_assoc _ _ _))⟩))))
              go_ret2
              exact ⟨_, by first | rfl | (simp [errW_none, errW_some] <;> rfl) | (simp [*, errW_none, errW_some] <;> rfl), by first | exact Kd.R_nil _ _ _ _ _ | exact Kd.N_nil _ _ _ _ _ | exact Kd.V_nil _ _ _ _ _ | exact Kd.Q_nil _ _ _ _ _ | exact Kd.S_nil _ _ _ _ _, by repeat (first | (with_reducible first | exact HB.out | apply below_alloc | apply pw_below_drewN | apply below_drew1 | refine below_set ?_ GE116.out) | exact HB.out)⟩
            · rw [if_neg c10] at H
              have c10b0 : decide (t117 < 0) = false := decide_eq_false c10
              clear c10
              replace H := Option.bind_eq_some_iff.mp H
              obtain ⟨t118, A110, H⟩ := H
              replace H : (if t118 = true then (some (([] : List (S41)), false)) else (if x4_1.length < 8796093022208 then ((spec_loStep.f x117000_1 x117001_1 t117).bind fun bt122 => (spec_loCorners.l0 k1 a0 (x4_1 ++ [(⟨x117000_1, x117001_1⟩ : S41)]) (wrap64 (x6_1 + 1)) bt122.1 bt122.2)) else (none))) = some (r1, r2) := H
              have A11 := Aside0.mk A110
              clear A110
              by_cases c12 : t118 = true
              · subst c12
                have H1 : (some (([] : List (S41)), false)) = some (r1, r2) := by rw [if_pos rfl] at H; exact H
                clear H
                have H := H1
                clear H1
                simp only [Option.some.injEq, Prod.mk.injEq] at H
                obtain ⟨rfl, rfl⟩ := H
                have p8 : 0 ≤ (x6_1 : Int) := of_decide_eq_true (by first | (with_reducible assumption) | assumption)
                have q8 : x6_1 < (a0.size : Int) := of_decide_eq_true (by first | (with_reducible assumption) | assumption)
                have hx8 := bt_at a0 x6_1
                replace p8 := eq_true p8
                replace q8 := eq_true q8
                go_wp2_with (first | (go_at_call 36; (with_reducible refine (spec_loDir.calls k1 (bt a0 x6_1) t117 _ A9.out).mono ?_); rintro e w' ⟨rfl, ⟨nd, rfl⟩⟩; (try first | exact ⟨rfl, _, World.drewN_drewN _ _ _⟩ | exact ⟨rfl, _, Eq.trans (World.drewN_drewN _ _ _) (congrArg (World.drewN _) (Nat.add_assoc _ _ _))⟩); have hcz13_0 : wr.cell? ⟨gb116, 0, none⟩ = some (.int .i64 x117000_1) := (blk_cell BK116.out 0).trans rfl; have hcz13_1 : wr.cell? ⟨gb116, 1, none⟩ = some (.int .i64 x117001_1) := (blk_cell BK116.out 1).trans rfl; have hfz13_0 := blk_frozen BK116.out 0; have hfz13_1 := blk_frozen BK116.out 1; obtain ⟨Ao14, co14, eo14⟩ := Kd.R_slice HO_4.out; subst eo14) | (go_at_call 48; (with_reducible refine (spec_liHas.calls k1 _ _ x4_1 x117000_1 x117001_1 true _ ?side1 ?side2 A11.out).mono ?_); (case side1 => repeat (first | exact (Kd.R_reads' HO_4.out).2.2 | (with_reducible refine Kd.C_alloc ?_ _) | (with_reducible refine Kd.C_drewN ?_ _) | (with_reducible refine Kd.C_drew ?_))); (case side2 => exact (Kd.R_reads' HO_4.out).2.1); rintro e w15 ⟨rfl, hb⟩; have n0_ := Aside0.mk (Kd.R_below (by (with_reducible repeat (first | apply Kd.R_alloc | apply Kd.R_drewN | apply Kd.R_drew)); exact HO_4.out) hb); have n1_ := Aside0.mk (blk_below (g := gb116) (o := .cells #[.int .i64 x117000_1, .int .i64 x117001_1] 41 (0, 0)) (by (with_reducible repeat (first | refine blk_drewN ?_ _ | refine blk_drew ?_ | refine blk_alloc ?_ _)); exact BK116.out) hb); have n2_ := Aside0.mk (below_step (by repeat (first | (with_reducible first | exact HB.out | apply below_alloc | apply pw_below_drewN | apply below_drew1 | refine below_set ?_ GE116.out) | exact HB.out)) hb); clear HO_4; clear BK116; clear HB; have HO_4 := n0_; have BK116 := n1_; have HB := n2_; clear n0_ n1_ n2_; (try clear hb); (try clear hb2); (try clear hk); (try clear hi)))
                repeat (go_quiet (first | (go_at_call 36; (with_reducible refine (spec_loDir.calls k1 (bt a0 x6_1) t117 _ A9.out).mono ?_); rintro e w' ⟨rfl, ⟨nd, rfl⟩⟩; (try first | exact ⟨rfl, _, World.drewN_drewN _ _ _⟩ | exact ⟨rfl, _, Eq.trans (World.drewN_drewN _ _ _) (congrArg (World.drewN _) (Nat.add_assoc _ _ _))⟩); have hcz13_0 : wr.cell? ⟨gb116, 0, none⟩ = some (.int .i64 x117000_1) := (blk_cell BK116.out 0).trans rfl; have hcz13_1 : wr.cell? ⟨gb116, 1, none⟩ = some (.int .i64 x117001_1) := (blk_cell BK116.out 1).trans rfl; have hfz13_0 := blk_frozen BK116.out 0; have hfz13_1 := blk_frozen BK116.out 1; obtain ⟨Ao14, co14, eo14⟩ := Kd.R_slice HO_4.out; subst eo14) | (go_at_call 48; (with_reducible refine (spec_liHas.calls k1 _ _ x4_1 x117000_1 x117001_1 true _ ?side1 ?side2 A11.out).mono ?_); (case side1 => repeat (first | exact (Kd.R_reads' HO_4.out).2.2 | (with_reducible refine Kd.C_alloc ?_ _) | (with_reducible refine Kd.C_drewN ?_ _) | (with_reducible refine Kd.C_drew ?_))); (case side2 => exact (Kd.R_reads' HO_4.out).2.1); rintro e w15 ⟨rfl, hb⟩; have n0_ := Aside0.mk (Kd.R_below (by (with_reducible repeat (first | apply Kd.R_alloc | apply Kd.R_drewN | apply Kd.R_drew)); exact HO_4.out) hb); have n1_ := Aside0.mk (blk_below (g := gb116) (o := .cells #[.int .i64 x117000_1, .int .i64 x117001_1] 41 (0, 0)) (by (with_reducible repeat (first | refine blk_drewN ?_ _ | refine blk_drew ?_ | refine blk_alloc ?_ _)); exact BK116.out) hb); have n2_ := Aside0.mk (below_step (by repeat (first | (with_reducible first | exact HB.out | apply below_alloc | apply pw_below_drewN | apply below_drew1 | refine below_set ?_ GE116.out) | exact HB.out)) hb); clear HO_4; clear BK116; clear HB; have HO_4 := n0_; have BK116 := n1_; have HB := n2_; clear n0_ n1_ n2_; (try clear hb); (try clear hb2); (try clear hk); (try clear hi))); try go_wp2_with (first | (go_at_call 36; (with_reducible refine (spec_loDir.calls k1 (bt a0 x6_1) t117 _ A9.out).mono ?_); rintro e w' ⟨rfl, ⟨nd, rfl⟩⟩; (try first | exact ⟨rfl, _, World.drewN_drewN _ _ _⟩ | exact ⟨rfl, _, Eq.trans (World.drewN_drewN _ _ _) (congrArg (World.drewN _) (Nat.add_assoc _ _ _))⟩); have hcz13_0 : wr.cell? ⟨gb116, 0, none⟩ = some (.int .i64 x117000_1) := (blk_cell BK116.out 0).trans rfl; have hcz13_1 : wr.cell? ⟨gb116, 1, none⟩ = some (.int .i64 x117001_1) := (blk_cell BK116.out 1).trans rfl; have hfz13_0 := blk_frozen BK116.out 0; have hfz13_1 := blk_frozen BK116.out 1; obtain ⟨Ao14, co14, eo14⟩ := Kd.R_slice HO_4.out; subst eo14) | (go_at_call 48; (with_reducible refine (spec_liHas.calls k1 _ _ x4_1 x117000_1 x117001_1 true _ ?side1 ?side2 A11.out).mono ?_); (case side1 => repeat (first | exact (Kd.R_reads' HO_4.out).2.2 | (with_reducible refine Kd.C_alloc ?_ _) | (with_reducible refine Kd.C_drewN ?_ _) | (with_reducible refine Kd.C_drew ?_))); (case side2 => exact (Kd.R_reads' HO_4.out).2.1); rintro e w15 ⟨rfl, hb⟩; have n0_ := Aside0.mk (Kd.R_below (by (with_reducible repeat (first | apply Kd.R_alloc | apply Kd.R_drewN | apply Kd.R_drew)); exact HO_4.out) hb); have n1_ := Aside0.mk (blk_below (g := gb116) (o := .cells #[.int .i64 x117000_1, .int .i64 x117001_1] 41 (0, 0)) (by (with_reducible repeat (first | refine blk_drewN ?_ _ | refine blk_drew ?_ | refine blk_alloc ?_ _)); exact BK116.out) hb); have n2_ := Aside0.mk (below_step (by repeat (first | (with_reducible first | exact HB.out | apply below_alloc | apply pw_below_drewN | apply below_drew1 | refine below_set ?_ GE116.out) | exact HB.out)) hb); clear HO_4; clear BK116; clear HB; have HO_4 := n0_; have BK116 := n1_; have HB := n2_; clear n0_ n1_ n2_; (try clear hb); (try clear hb2); (try clear hk); (try clear hi))))
                go_ret2
                exact ⟨_, by first | rfl | (simp [errW_none, errW_some] <;> rfl) | (simp [*, errW_none, errW_some] <;> rfl), by first | exact Kd.R_nil _ _ _ _ _ | exact Kd.N_nil _ _ _ _ _ | exact Kd.V_nil _ _ _ _ _ | exact Kd.Q_nil _ _ _ _ _ | exact Kd.S_nil _ _ _ _ _, by repeat (first | (with_reducible first | exact HB.out | apply below_alloc | apply pw_below_drewN | apply below_drew1 | refine below_set ?_ GE116.out) | exact HB.out)⟩
              · replace c12 := Bool.eq_false_iff.mpr c12
                subst c12
                have H1 : (if x4_1.length < 8796093022208 then ((spec_loStep.f x117000_1 x117001_1 t117).bind fun bt122 => (spec_loCorners.l0 k1 a0 (x4_1 ++ [(⟨x117000_1, x117001_1⟩ : S41)]) (wrap64 (x6_1 + 1)) bt122.1 bt122.2)) else (none)) = some (r1, r2) := by rw [if_neg (show ¬ (false = true) by decide)] at H; exact H
                clear H
                have H := H1
                clear H1
                by_cases c16 : x4_1.length < 8796093022208
                · rw [if_pos c16] at H
                  have LMc16 := Aside0.mk c16
                  clear c16
                  obtain ⟨y119, hy119⟩ : ∃ y_ : List (S41), y_ = (x4_1 ++ [(⟨x117000_1, x117001_1⟩ : S41)]) := ⟨_, rfl⟩
                  replace H : ((spec_loStep.f x117000_1 x117001_1 t117).bind fun bt122 => (spec_loCorners.l0 k1 a0 y119 (wrap64 (x6_1 + 1)) bt122.1 bt122.2)) = some (r1, r2) := by first | (rw [hy119]; with_reducible exact H) | (have H2_ := (Option.bind_some _ _).symm.trans H; rw [hy119]; with_reducible exact H2_) | (have H2_ := (Option.bind_some _ _).symm.trans H; with_reducible exact H2_) | with_reducible exact H | (rw [hy119]; exact H) | exact H
                  have Ny119 := Aside0.mk hy119
                  clear hy119
                  replace H := Option.bind_eq_some_iff.mp H
                  obtain ⟨⟨t122, t123⟩, A170, H⟩ := H
                  replace H : (spec_loCorners.l0 k1 a0 y119 (wrap64 (x6_1 + 1)) t122 t123) = some (r1, r2) := H
                  have A17 := Aside0.mk A170
                  clear A170
                  have H' := Aside0.mk H
                  clear H
                  have p8 : 0 ≤ (x6_1 : Int) := of_decide_eq_true (by first | (with_reducible assumption) | assumption)
                  have q8 : x6_1 < (a0.size : Int) := of_decide_eq_true (by first | (with_reducible assumption) | assumption)
                  have hx8 := bt_at a0 x6_1
                  replace p8 := eq_true p8
                  replace q8 := eq_true q8
                  go_wp2_with (first | (go_at_call 36; (with_reducible refine (spec_loDir.calls k1 (bt a0 x6_1) t117 _ A9.out).mono ?_); rintro e w' ⟨rfl, ⟨nd, rfl⟩⟩; (try first | exact ⟨rfl, _, World.drewN_drewN _ _ _⟩ | exact ⟨rfl, _, Eq.trans (World.drewN_drewN _ _ _) (congrArg (World.drewN _) (Nat.add_assoc _ _ _))⟩); have hcz18_0 : wr.cell? ⟨gb116, 0, none⟩ = some (.int .i64 x117000_1) := (blk_cell BK116.out 0).trans rfl; have hcz18_1 : wr.cell? ⟨gb116, 1, none⟩ = some (.int .i64 x117001_1) := (blk_cell BK116.out 1).trans rfl; have hfz18_0 := blk_frozen BK116.out 0; have hfz18_1 := blk_frozen BK116.out 1; obtain ⟨Ao19, co19, eo19⟩ := Kd.R_slice HO_4.out; subst eo19) | (go_at_call 48; (with_reducible refine (spec_liHas.calls k1 _ _ x4_1 x117000_1 x117001_1 false _ ?side1 ?side2 A11.out).mono ?_); (case side1 => repeat (first | exact (Kd.R_reads' HO_4.out).2.2 | (with_reducible refine Kd.C_alloc ?_ _) | (with_reducible refine Kd.C_drewN ?_ _) | (with_reducible refine Kd.C_drew ?_))); (case side2 => exact (Kd.R_reads' HO_4.out).2.1); rintro e w20 ⟨rfl, hb⟩; have n0_ := Aside0.mk (Kd.R_below (by (with_reducible repeat (first | apply Kd.R_alloc | apply Kd.R_drewN | apply Kd.R_drew)); exact HO_4.out) hb); have n1_ := Aside0.mk (blk_below (g := gb116) (o := .cells #[.int .i64 x117000_1, .int .i64 x117001_1] 41 (0, 0)) (by (with_reducible repeat (first | refine blk_drewN ?_ _ | refine blk_drew ?_ | refine blk_alloc ?_ _)); exact BK116.out) hb); have n2_ := Aside0.mk (below_step (by repeat (first | (with_reducible first | exact HB.out | apply below_alloc | apply pw_below_drewN | apply below_drew1 | refine below_set ?_ GE116.out) | exact HB.out)) hb); clear HO_4; clear BK116; clear HB; have HO_4 := n0_; have BK116 := n1_; have HB := n2_; clear n0_ n1_ n2_; (try clear hb); (try clear hb2); (try clear hk); (try clear hi); have hcz21_0 : w20.cell? ⟨gb116, 0, none⟩ = some (.int .i64 x117000_1) := (blk_cell BK116.out 0).trans rfl; have hcz21_1 : w20.cell? ⟨gb116, 1, none⟩ = some (.int .i64 x117001_1) := (blk_cell BK116.out 1).trans rfl; have hfz21_0 := blk_frozen BK116.out 0; have hfz21_1 := blk_frozen BK116.out 1) | ((with_reducible refine gate_builtin (b := .append) (xs := #[.tmp 30, .tmp 32]) rfl ?_); at_builtin; refine Kd.R_append k41 (w0 := w) w.heap.size rfl (.tmp 30) (.tmp 32) 29 41 (.agg #[(.int .i64 0), (.int .i64 0)]) 16 rfl Tryd.underlying29 info41 rfl (by decide) (by omega) (.slice Ao19 x4_1.length co19) x4_1 (⟨x117000_1, x117001_1⟩ : S41) [.int .i64 x117000_1, .int .i64 x117001_1] (fun k_ => k_ ≠ gb116) (fun _ => False) rfl rfl ?aP (fun _ hk => hk.elim) ?aF ?aO ?aB ?aS ?aL ?_; (case aP => exact k41_mkM _ _ _ (⟨x117000_1, x117001_1⟩ : S41)); (case aB => exact (by repeat (first | (with_reducible first | exact HB.out | apply below_alloc | apply pw_below_drewN | apply below_drew1 | refine below_set ?_ GE116.out) | exact HB.out))); (case aF => exact (fun k_ hk => Kd.freshB (g := gb116) (o := .cells #[.int .i64 x117000_1, .int .i64 x117001_1] 41 (0, 0)) (by (with_reducible repeat (first | refine blk_drewN ?_ _ | refine blk_drew ?_ | refine blk_alloc ?_ _)); exact BK116.out) k_ hk)); (case aO => exact (by (with_reducible repeat (first | apply Kd.R_alloc | apply Kd.R_drewN | apply Kd.R_drew)); exact HO_4.out)); (case aS => exact (below_size (by repeat (first | (with_reducible first | exact HB.out | apply below_alloc | apply pw_below_drewN | apply below_drew1 | refine below_set ?_ GE116.out) | exact HB.out)))); (case aL => have := LMc16.out; omega); intro v120 w22 ho hb hg hat; rw [← Ny119.out] at ho; have n0_ := Aside0.mk (blk_grown (g := gb116) (o := .cells #[.int .i64 x117000_1, .int .i64 x117001_1] 41 (0, 0)) (by (with_reducible repeat (first | refine blk_drewN ?_ _ | refine blk_drew ?_ | refine blk_alloc ?_ _)); exact BK116.out) hg (Kd.R_away HO_4.out (fun _ hk => hk))); have n1_ := Aside0.mk (hb); have n2_ := Aside0.mk (ho); clear BK116; clear HB; clear HO_4; have BK116 := n0_; have HB := n1_; have HO121 := n2_; clear n0_ n1_ n2_; clear ho hb hg hat; have hcz23_0 : w22.cell? ⟨gb116, 0, none⟩ = some (.int .i64 x117000_1) := (blk_cell BK116.out 0).trans rfl; have hcz23_1 : w22.cell? ⟨gb116, 1, none⟩ = some (.int .i64 x117001_1) := (blk_cell BK116.out 1).trans rfl; have hfz23_0 := blk_frozen BK116.out 0; have hfz23_1 := blk_frozen BK116.out 1) | (go_at_call 49; (with_reducible refine (spec_loStep.calls x117000_1 x117001_1 t117 t122 t123 _ A17.out).mono ?_); rintro e w24 ⟨rfl, hb⟩; have n0_ := Aside0.mk (Kd.R_below (by (with_reducible repeat (first | apply Kd.R_alloc | apply Kd.R_drewN | apply Kd.R_drew)); exact HO121.out) hb); have n1_ := Aside0.mk (blk_below (g := gb116) (o := .cells #[.int .i64 x117000_1, .int .i64 x117001_1] 41 (0, 0)) (by (with_reducible repeat (first | refine blk_drewN ?_ _ | refine blk_drew ?_ | refine blk_alloc ?_ _)); exact BK116.out) hb); have n2_ := Aside0.mk (below_step (by repeat (first | (with_reducible first | exact HB.out | apply below_alloc | apply pw_below_drewN | apply below_drew1 | refine below_set ?_ GE116.out) | exact HB.out)) hb); clear HO121; clear BK116; clear HB; have HO121 := n0_; have BK116 := n1_; have HB := n2_; clear n0_ n1_ n2_; (try clear hb); (try clear hb2); (try clear hk); (try clear hi); have hcz25_0 : w24.cell? ⟨gb116, 0, none⟩ = some (.int .i64 x117000_1) := (blk_cell BK116.out 0).trans rfl; have hcz25_1 : w24.cell? ⟨gb116, 1, none⟩ = some (.int .i64 x117001_1) := (blk_cell BK116.out 1).trans rfl; have hfz25_0 := blk_frozen BK116.out 0; have hfz25_1 := blk_frozen BK116.out 1))
                  repeat (go_quiet (first | (go_at_call 36; (with_reducible refine (spec_loDir.calls k1 (bt a0 x6_1) t117 _ A9.out).mono ?_); rintro e w' ⟨rfl, ⟨nd, rfl⟩⟩; (try first | exact ⟨rfl, _, World.drewN_drewN _ _ _⟩ | exact ⟨rfl, _, Eq.trans (World.drewN_drewN _ _ _) (congrArg (World.drewN _) (Nat.add_assoc _ _ _))⟩); have hcz18_0 : wr.cell? ⟨gb116, 0, none⟩ = some (.int .i64 x117000_1) := (blk_cell BK116.out 0).trans rfl; have hcz18_1 : wr.cell? ⟨gb116, 1, none⟩ = some (.int .i64 x117001_1) := (blk_cell BK116.out 1).trans rfl; have hfz18_0 := blk_frozen BK116.out 0; have hfz18_1 := blk_frozen BK116.out 1; obtain ⟨Ao19, co19, eo19⟩ := Kd.R_slice HO_4.out; subst eo19) | (go_at_call 48; (with_reducible refine (spec_liHas.calls k1 _ _ x4_1 x117000_1 x117001_1 false _ ?side1 ?side2 A11.out).mono ?_); (case side1 => repeat (first | exact (Kd.R_reads' HO_4.out).2.2 | (with_reducible refine Kd.C_alloc ?_ _) | (with_reducible refine Kd.C_drewN ?_ _) | (with_reducible refine Kd.C_drew ?_))); (case side2 => exact (Kd.R_reads' HO_4.out).2.1); rintro e w20 ⟨rfl, hb⟩; have n0_ := Aside0.mk (Kd.R_below (by (with_reducible repeat (first | apply Kd.R_alloc | apply Kd.R_drewN | apply Kd.R_drew)); exact HO_4.out) hb); have n1_ := Aside0.mk (blk_below (g := gb116) (o := .cells #[.int .i64 x117000_1, .int .i64 x117001_1] 41 (0, 0)) (by (with_reducible repeat (first | refine blk_drewN ?_ _ | refine blk_drew ?_ | refine blk_alloc ?_ _)); exact BK116.out) hb); have n2_ := Aside0.mk (below_step (by repeat (first | (with_reducible first | exact HB.out | apply below_alloc | apply pw_below_drewN | apply below_drew1 | refine below_set ?_ GE116.out) | exact HB.out)) hb); clear HO_4; clear BK116; clear HB; have HO_4 := n0_; have BK116 := n1_; have HB := n2_; clear n0_ n1_ n2_; (try clear hb); (try clear hb2); (try clear hk); (try clear hi); have hcz21_0 : w20.cell? ⟨gb116, 0, none⟩ = some (.int .i64 x117000_1) := (blk_cell BK116.out 0).trans rfl; have hcz21_1 : w20.cell? ⟨gb116, 1, none⟩ = some (.int .i64 x117001_1) := (blk_cell BK116.out 1).trans rfl; have hfz21_0 := blk_frozen BK116.out 0; have hfz21_1 := blk_frozen BK116.out 1) | ((with_reducible refine gate_builtin (b := .append) (xs := #[.tmp 30, .tmp 32]) rfl ?_); at_builtin; refine Kd.R_append k41 (w0 := w) w.heap.size rfl (.tmp 30) (.tmp 32) 29 41 (.agg #[(.int .i64 0), (.int .i64 0)]) 16 rfl Tryd.underlying29 info41 rfl (by decide) (by omega) (.slice Ao19 x4_1.length co19) x4_1 (⟨x117000_1, x117001_1⟩ : S41) [.int .i64 x117000_1, .int .i64 x117001_1] (fun k_ => k_ ≠ gb116) (fun _ => False) rfl rfl ?aP (fun _ hk => hk.elim) ?aF ?aO ?aB ?aS ?aL ?_; (case aP => exact k41_mkM _ _ _ (⟨x117000_1, x117001_1⟩ : S41)); (case aB => exact (by repeat (first | (with_reducible first | exact HB.out | apply below_alloc | apply pw_below_drewN | apply below_drew1 | refine below_set ?_ GE116.out) | exact HB.out))); (case aF => exact (fun k_ hk => Kd.freshB (g := gb116) (o := .cells #[.int .i64 x117000_1, .int .i64 x117001_1] 41 (0, 0)) (by (with_reducible repeat (first | refine blk_drewN ?_ _ | refine blk_drew ?_ | refine blk_alloc ?_ _)); exact BK116.out) k_ hk)); (case aO => exact (by (with_reducible repeat (first | apply Kd.R_alloc | apply Kd.R_drewN | apply Kd.R_drew)); exact HO_4.out)); (case aS => exact (below_size (by repeat (first | (with_reducible first | exact HB.out | apply below_alloc | apply pw_below_drewN | apply below_drew1 | refine below_set ?_ GE116.out) | exact HB.out)))); (case aL => have := LMc16.out; omega); intro v120 w22 ho hb hg hat; rw [← Ny119.out] at ho; have n0_ := Aside0.mk (blk_grown (g := gb116) (o := .cells #[.int .i64 x117000_1, .int .i64 x117001_1] 41 (0, 0)) (by (with_reducible repeat (first | refine blk_drewN ?_ _ | refine blk_drew ?_ | refine blk_alloc ?_ _)); exact BK116.out) hg (Kd.R_away HO_4.out (fun _ hk => hk))); have n1_ := Aside0.mk (hb); have n2_ := Aside0.mk (ho); clear BK116; clear HB; clear HO_4; have BK116 := n0_; have HB := n1_; have HO121 := n2_; clear n0_ n1_ n2_; clear ho hb hg hat; have hcz23_0 : w22.cell? ⟨gb116, 0, none⟩ = some (.int .i64 x117000_1) := (blk_cell BK116.out 0).trans rfl; have hcz23_1 : w22.cell? ⟨gb116, 1, none⟩ = some (.int .i64 x117001_1) := (blk_cell BK116.out 1).trans rfl; have hfz23_0 := blk_frozen BK116.out 0; have hfz23_1 := blk_frozen BK116.out 1) | (go_at_call 49; (with_reducible refine (spec_loStep.calls x117000_1 x117001_1 t117 t122 t123 _ A17.out).mono ?_); rintro e w24 ⟨rfl, hb⟩; have n0_ := Aside0.mk (Kd.R_below (by (with_reducible repeat (first | apply Kd.R_alloc | apply Kd.R_drewN | apply Kd.R_drew)); exact HO121.out) hb); have n1_ := Aside0.mk (blk_below (g := gb116) (o := .cells #[.int .i64 x117000_1, .int .i64 x117001_1] 41 (0, 0)) (by (with_reducible repeat (first | refine blk_drewN ?_ _ | refine blk_drew ?_ | refine blk_alloc ?_ _)); exact BK116.out) hb); have n2_ := Aside0.mk (below_step (by repeat (first | (with_reducible first | exact HB.out | apply below_alloc | apply pw_below_drewN | apply below_drew1 | refine below_set ?_ GE116.out) | exact HB.out)) hb); clear HO121; clear BK116; clear HB; have HO121 := n0_; have BK116 := n1_; have HB := n2_; clear n0_ n1_ n2_; (try clear hb); (try clear hb2); (try clear hk); (try clear hi); have hcz25_0 : w24.cell? ⟨gb116, 0, none⟩ = some (.int .i64 x117000_1) := (blk_cell BK116.out 0).trans rfl; have hcz25_1 : w24.cell? ⟨gb116, 1, none⟩ = some (.int .i64 x117001_1) := (blk_cell BK116.out 1).trans rfl; have hfz25_0 := blk_frozen BK116.out 0; have hfz25_1 := blk_frozen BK116.out 1)); try go_wp2_with (first | (go_at_call 36; (with_reducible refine (spec_loDir.calls k1 (bt a0 x6_1) t117 _ A9.out).mono ?_); rintro e w' ⟨rfl, ⟨nd, rfl⟩⟩; (try first | exact ⟨rfl, _, World.drewN_drewN _ _ _⟩ | exact ⟨rfl, _, Eq.trans (World.drewN_drewN _ _ _) (congrArg (World.drewN _) (Nat.add_assoc _ _ _))⟩); have hcz18_0 : wr.cell? ⟨gb116, 0, none⟩ = some (.int .i64 x117000_1) := (blk_cell BK116.out 0).trans rfl; have hcz18_1 : wr.cell? ⟨gb116, 1, none⟩ = some (.int .i64 x117001_1) := (blk_cell BK116.out 1).trans rfl; have hfz18_0 := blk_frozen BK116.out 0; have hfz18_1 := blk_frozen BK116.out 1; obtain ⟨Ao19, co19, eo19⟩ := Kd.R_slice HO_4.out; subst eo19) | (go_at_call 48; (with_reducible refine (spec_liHas.calls k1 _ _ x4_1 x117000_1 x117001_1 false _ ?side1 ?side2 A11.out).mono ?_); (case side1 => repeat (first | exact (Kd.R_reads' HO_4.out).2.2 | (with_reducible refine Kd.C_alloc ?_ _) | (with_reducible refine Kd.C_drewN ?_ _) | (with_reducible refine Kd.C_drew ?_))); (case side2 => exact (Kd.R_reads' HO_4.out).2.1); rintro e w20 ⟨rfl, hb⟩; have n0_ := Aside0.mk (Kd.R_below (by (with_reducible repeat (first | apply Kd.R_alloc | apply Kd.R_drewN | apply Kd.R_drew)); exact HO_4.out) hb); have n1_ := Aside0.mk (blk_below (g := gb116) (o := .cells #[.int .i64 x117000_1, .int .i64 x117001_1] 41 (0, 0)) (by (with_reducible repeat (first | refine blk_drewN ?_ _ | refine blk_drew ?_ | refine blk_alloc ?_ _)); exact BK116.out) hb); have n2_ := Aside0.mk (below_step (by repeat (first | (with_reducible first | exact HB.out | apply below_alloc | apply pw_below_drewN | apply below_drew1 | refine below_set ?_ GE116.out) | exact HB.out)) hb); clear HO_4; clear BK116; clear HB; have HO_4 := n0_; have BK116 := n1_; have HB := n2_; clear n0_ n1_ n2_; (try clear hb); (try clear hb2); (try clear hk); (try clear hi); have hcz21_0 : w20.cell? ⟨gb116, 0, none⟩ = some (.int .i64 x117000_1) := (blk_cell BK116.out 0).trans rfl; have hcz21_1 : w20.cell? ⟨gb116, 1, none⟩ = some (.int .i64 x117001_1) := (blk_cell BK116.out 1).trans rfl; have hfz21_0 := blk_frozen BK116.out 0; have hfz21_1 := blk_frozen BK116.out 1) | ((with_reducible refine gate_builtin (b := .append) (xs := #[.tmp 30, .tmp 32]) rfl ?_); at_builtin; refine Kd.R_append k41 (w0 := w) w.heap.size rfl (.tmp 30) (.tmp 32) 29 41 (.agg #[(.int .i64 0), (.int .i64 0)]) 16 rfl Tryd.underlying29 info41 rfl (by decide) (by omega) (.slice Ao19 x4_1.length co19) x4_1 (⟨x117000_1, x117001_1⟩ : S41) [.int .i64 x117000_1, .int .i64 x117001_1] (fun k_ => k_ ≠ gb116) (fun _ => False) rfl rfl ?aP (fun _ hk => hk.elim) ?aF ?aO ?aB ?aS ?aL ?_; (case aP => exact k41_mkM _ _ _ (⟨x117000_1, x117001_1⟩ : S41)); (case aB => exact (by repeat (first | (with_reducible first | exact HB.out | apply below_alloc | apply pw_below_drewN | apply below_drew1 | refine below_set ?_ GE116.out) | exact HB.out))); (case aF => exact (fun k_ hk => Kd.freshB (g := gb116) (o := .cells #[.int .i64 x117000_1, .int .i64 x117001_1] 41 (0, 0)) (by (with_reducible repeat (first | refine blk_drewN ?_ _ | refine blk_drew ?_ | refine blk_alloc ?_ _)); exact BK116.out) k_ hk)); (case aO => exact (by (with_reducible repeat (first | apply Kd.R_alloc | apply Kd.R_drewN | apply Kd.R_drew)); exact HO_4.out)); (case aS => exact (below_size (by repeat (first | (with_reducible first | exact HB.out | apply below_alloc | apply pw_below_drewN | apply below_drew1 | refine below_set ?_ GE116.out) | exact HB.out)))); (case aL => have := LMc16.out; omega); intro v120 w22 ho hb hg hat; rw [← Ny119.out] at ho; have n0_ := Aside0.mk (blk_grown (g := gb116) (o := .cells #[.int .i64 x117000_1, .int .i64 x117001_1] 41 (0, 0)) (by (with_reducible repeat (first | refine blk_drewN ?_ _ | refine blk_drew ?_ | refine blk_alloc ?_ _)); exact BK116.out) hg (Kd.R_away HO_4.out (fun _ hk => hk))); have n1_ := Aside0.mk (hb); have n2_ := Aside0.mk (ho); clear BK116; clear HB; clear HO_4; have BK116 := n0_; have HB := n1_; have HO121 := n2_; clear n0_ n1_ n2_; clear ho hb hg hat; have hcz23_0 : w22.cell? ⟨gb116, 0, none⟩ = some (.int .i64 x117000_1) := (blk_cell BK116.out 0).trans rfl; have hcz23_1 : w22.cell? ⟨gb116, 1, none⟩ = some (.int .i64 x117001_1) := (blk_cell BK116.out 1).trans rfl; have hfz23_0 := blk_frozen BK116.out 0; have hfz23_1 := blk_frozen BK116.out 1) | (go_at_call 49; (with_reducible refine (spec_loStep.calls x117000_1 x117001_1 t117 t122 t123 _ A17.out).mono ?_); rintro e w24 ⟨rfl, hb⟩; have n0_ := Aside0.mk (Kd.R_below (by (with_reducible repeat (first | apply Kd.R_alloc | apply Kd.R_drewN | apply Kd.R_drew)); exact HO121.out) hb); have n1_ := Aside0.mk (blk_below (g := gb116) (o := .cells #[.int .i64 x117000_1, .int .i64 x117001_1] 41 (0, 0)) (by (with_reducible repeat (first | refine blk_drewN ?_ _ | refine blk_drew ?_ | refine blk_alloc ?_ _)); exact BK116.out) hb); have n2_ := Aside0.mk (below_step (by repeat (first | (with_reducible first | exact HB.out | apply below_alloc | apply pw_below_drewN | apply below_drew1 | refine below_set ?_ GE116.out) | exact HB.out)) hb); clear HO121; clear BK116; clear HB; have HO121 := n0_; have BK116 := n1_; have HB := n2_; clear n0_ n1_ n2_; (try clear hb); (try clear hb2); (try clear hk); (try clear hi); have hcz25_0 : w24.cell? ⟨gb116, 0, none⟩ = some (.int .i64 x117000_1) := (blk_cell BK116.out 0).trans rfl; have hcz25_1 : w24.cell? ⟨gb116, 1, none⟩ = some (.int .i64 x117001_1) := (blk_cell BK116.out 1).trans rfl; have hfz25_0 := blk_frozen BK116.out 0; have hfz25_1 := blk_frozen BK116.out 1)))
                  go_roundg k1
                  case measure => have := HK1.out; omega
                  case rel => exact ⟨(y119), (wrap64 (x6_1 + 1)), (t122), (t123), (by first | rfl | (simp; done) | (simp [*]; done)), H', ⟨by have := HK1.out; omega⟩, ⟨by (with_reducible repeat (first | apply Kd.R_alloc | apply Kd.R_drewN | apply Kd.R_drew)); exact Kd.R_mono (Kd.R_far (p := ⟨gb116, 1, none⟩) (Kd.R_far (p := ⟨gb116, 0, none⟩) (Kd.R_mono HO121.out (fun k_ hk => (⟨hk, hk⟩ : _ ∧ k_ ≠ gb116))) (fun _ hk => hk.2) (.int .i64 t122)) (fun _ hk => hk.2) (.int .i64 t123)) (fun _ hk => hk.1)⟩, ⟨by (with_reducible repeat (first | refine blk_drewN ?_ _ | refine blk_drew ?_ | refine blk_alloc ?_ _)); refine blk_put (cs := #[.int .i64 t122, .int .i64 x117001_1]) ?_ 1 _ rfl; (with_reducible repeat (first | refine blk_drewN ?_ _ | refine blk_drew ?_ | refine blk_alloc ?_ _)); refine blk_put (cs := #[.int .i64 x117000_1, .int .i64 x117001_1]) ?_ 0 _ rfl; (with_reducible repeat (first | refine blk_drewN ?_ _ | refine blk_drew ?_ | refine blk_alloc ?_ _)); exact BK116.out⟩, ⟨by repeat (first | (with_reducible first | exact HB.out | apply below_alloc | apply pw_below_drewN | apply below_drew1 | refine below_set ?_ GE116.out) | exact HB.out)⟩⟩
                · rw [if_neg c16] at H
                  exact absurd H (by simp)
          · rw [if_neg c7] at H
            exact absurd H (by simp)
        · rw [if_neg c6] at H
          have c6b0 : decide (x6_1 < (a0.size : Int)) = false := decide_eq_false c6
          clear c6
          simp only [Option.some.injEq, Prod.mk.injEq] at H
          obtain ⟨rfl, rfl⟩ := H
          have hcz26_0 : wr.cell? ⟨gb116, 0, none⟩ = some (.int .i64 x117000_1) := (blk_cell BK116.out 0).trans rfl
          have hcz26_1 : wr.cell? ⟨gb116, 1, none⟩ = some (.int .i64 x117001_1) := (blk_cell BK116.out 1).trans rfl
          have hfz26_0 := blk_frozen BK116.out 0
          have hfz26_1 := blk_frozen BK116.out 1
          go_wp2
          repeat (go_quiet (fail); try go_wp2)
          go_ret2
          exact ⟨_, by first | rfl | (simp [errW_none, errW_some] <;> rfl) | (simp [*, errW_none, errW_some] <;> rfl), by (with_reducible repeat (first | apply Kd.R_alloc | apply Kd.R_drewN | apply Kd.R_drew)); exact Kd.R_mono HO_4.out (fun _ hk => trivial), by repeat (first | (with_reducible first | exact HB.out | apply below_alloc | apply pw_below_drewN | apply below_drew1 | refine below_set ?_ GE116.out) | exact HB.out)⟩
  · replace c3 := Bool.eq_false_iff.mpr c3
    subst c3
    have H1 : (some (([] : List (S41)), false)) = some (r1, r2) := by rw [if_neg (show ¬ (false = true) by decide)] at H; exact H
    clear H
    have H := H1
    clear H1
    simp only [Option.some.injEq, Prod.mk.injEq] at H
    obtain ⟨rfl, rfl⟩ := H
    go_enter Tryd.func27, Tryd.ntmps27
    go_wp2_with (first | (go_at_call 41; (with_reducible refine (spec_l1In.calls (a0.size : Int) 4 40 false _ A2.out).mono ?_); rintro e w' ⟨rfl, ⟨nd, rfl⟩⟩; (try first | exact ⟨rfl, _, World.drewN_drewN _ _ _⟩ | exact ⟨rfl, _, Eq.trans (World.drewN_drewN _ _ _) (congrArg (World.drewN _) (Nat.add_assoc _ _ _))⟩)))
    repeat (go_quiet (first | (go_at_call 41; (with_reducible refine (spec_l1In.calls (a0.size : Int) 4 40 false _ A2.out).mono ?_); rintro e w' ⟨rfl, ⟨nd, rfl⟩⟩; (try first | exact ⟨rfl, _, World.drewN_drewN _ _ _⟩ | exact ⟨rfl, _, Eq.trans (World.drewN_drewN _ _ _) (congrArg (World.drewN _) (Nat.add_assoc _ _ _))⟩))); try go_wp2_with (first | (go_at_call 41; (with_reducible refine (spec_l1In.calls (a0.size : Int) 4 40 false _ A2.out).mono ?_); rintro e w' ⟨rfl, ⟨nd, rfl⟩⟩; (try first | exact ⟨rfl, _, World.drewN_drewN _ _ _⟩ | exact ⟨rfl, _, Eq.trans (World.drewN_drewN _ _ _) (congrArg (World.drewN _) (Nat.add_assoc _ _ _))⟩))))
    go_ret2
    exact ⟨_, by first | rfl | (simp [errW_none, errW_some] <;> rfl) | (simp [*, errW_none, errW_some] <;> rfl), by first | exact Kd.R_nil _ _ _ _ _ | exact Kd.N_nil _ _ _ _ _ | exact Kd.V_nil _ _ _ _ _ | exact Kd.Q_nil _ _ _ _ _ | exact Kd.S_nil _ _ _ _ _, by repeat (first | (with_reducible first | exact HB.out | apply below_alloc | apply pw_below_drewN | apply below_drew1) | exact HB.out)⟩

end Go.Proofs.YtbnkdfmomcmmaaaDoor.P


namespace Go.Proofs.YtbnkdfmomcmmaaaDoor.P
open Go.RowKit Go.Proofs.YtbnkdfmomcmmaaaDoorW.PrintWords Go.Proofs.YtbnkdfmomcmmaaaDoorW.PrintLast Go.Proofs.YtbnkdfmomcmmaaaDoorW.PrintMore
attribute [local go_sem] max2_int min2_int max_two min_two max_three min_three max_four min_four   -- for this text's walks alone
set_option linter.unusedVariables false
set_option linter.unusedSimpArgs false

def spec_IsLoop.f (k : Nat) (a0 : ByteArray) : Option (Bool) := (spec_loCorners.f k a0).bind fun bt124 => (some bt124.2)
theorem spec_IsLoop.mono : ∀ a0 k, LeO (spec_IsLoop.f k a0) (spec_IsLoop.f (k + 1) a0) := by
  intro a0 k
  unfold spec_IsLoop.f
  repeat' first
      | (with_reducible exact spec_loCorners.mono _ _)
      | (with_reducible exact LeO.refl _)
      | (with_reducible exact LeO.none _)
      | (with_reducible refine LeO.ite ?_ ?_)
      | (with_reducible refine LeO.bind ?_ (fun _ => ?_))
      | exact spec_loCorners.mono _ _
      | exact LeO.none _
      | refine LeO.ite ?_ ?_
      | refine LeO.bind ?_ (fun _ => ?_)
set_option maxHeartbeats 8000000 in
set_option maxRecDepth 100000 in
theorem spec_IsLoop.calls (k : Nat) (a0 : ByteArray) (r : Bool) (w : World) (h : spec_IsLoop.f k a0 = some r) :
    Calls Tryd.prog 10 #[.string a0] w fun e w' => e = .returned (.bool r) ∧ Below w.heap.size w w' := by
  have HB := Aside0.mk (Below.refl w.heap.size w)
  have H : ((spec_loCorners.f k a0).bind fun bt124 => (some bt124.2)) = some r := h
  clear h
  replace H := Option.bind_eq_some_iff.mp H
  obtain ⟨⟨t124, t125⟩, A20, H⟩ := H
  replace H : (some t125) = some r := H
  have A2 := Aside0.mk A20
  clear A20
  obtain rfl := Option.some.inj H
  go_enter Tryd.func10, Tryd.ntmps10
  go_wp2_with (first | ((with_reducible refine gate_callee (f := 27) rfl ?_); refine goesL_ (some 7) rfl rfl Tryd.func27 (by kernel_rfl) rfl #[.string a0] rfl (by (try simp only [List.map_toArray, List.map_cons, List.map_nil]); first | done | rfl | (simp only [List.length_drop, List.length_take]; rfl)) ?_; (with_reducible refine (spec_loCorners.calls k a0 t124 t125 _ A2.out).mono ?_); rintro e w3 ⟨v126, rfl, ho0, hb⟩; refine ⟨_, rfl, ?_⟩; have n0_ := Aside0.mk (Kd.R_lower ho0 (below_size (by repeat (first | (with_reducible first | exact HB.out | apply below_alloc | apply pw_below_drewN | apply below_drew1) | exact HB.out)))); have n1_ := Aside0.mk (below_step (by repeat (first | (with_reducible first | exact HB.out | apply below_alloc | apply pw_below_drewN | apply below_drew1) | exact HB.out)) hb); clear HB; have HO127 := n0_; have HB := n1_; clear n0_ n1_; (try clear hb); (try clear hb2); (try clear hk); (try clear hi); (try clear ho0)))
  go_ret
  exact ⟨by first | rfl | (simp [errW_none, errW_some] <;> rfl) | (simp [*, errW_none, errW_some] <;> rfl), by repeat (first | (with_reducible first | exact HB.out | apply below_alloc | apply pw_below_drewN | apply below_drew1) | exact HB.out)⟩

end Go.Proofs.YtbnkdfmomcmmaaaDoor.P


namespace Go.Proofs.YtbnkdfmomcmmaaaDoor.P
open Go.RowKit Go.Proofs.YtbnkdfmomcmmaaaDoorW.PrintWords Go.Proofs.YtbnkdfmomcmmaaaDoorW.PrintLast Go.Proofs.YtbnkdfmomcmmaaaDoorW.PrintMore
attribute [local go_sem] max2_int min2_int max_two min_two max_three min_three max_four min_four   -- for this text's walks alone
set_option linter.unusedVariables false
set_option linter.unusedSimpArgs false

structure FrameBut (O : Nat → Prop) (w w' : World) : Prop where
  os : w'.os = w.os
  tape : w'.tape = w.tape
  output : w'.output = w.output
  size : w.heap.size ≤ w'.heap.size
  block : ∀ k, k < w.heap.size → ¬ O k → w'.heap[k]? = w.heap[k]?
theorem FrameBut.refl (O : Nat → Prop) (w : World) : FrameBut O w w := ⟨rfl, rfl, rfl, Nat.le_refl _, fun _ _ _ => rfl⟩
theorem FrameBut.trans {O O1 : Nat → Prop} {w w1 w2 : World} (h : FrameBut O w w1) (k : FrameBut O1 w1 w2) (hO : ∀ k, O1 k → O k ∨ w.heap.size ≤ k) : FrameBut O w w2 :=
  ⟨k.os.trans h.os, k.tape.trans h.tape, k.output.trans h.output, Nat.le_trans h.size k.size, fun i hi hn => (k.block i (Nat.lt_of_lt_of_le hi h.size) (fun h1 => (hO i h1).elim hn (fun h2 => absurd hi (Nat.not_lt.2 h2)))).trans (h.block i hi hn)⟩
theorem FrameBut.mono {O O1 : Nat → Prop} {w w1 : World} (h : FrameBut O w w1) (hO : ∀ k, k < w.heap.size → O k → O1 k) : FrameBut O1 w w1 :=
  ⟨h.os, h.tape, h.output, h.size, fun i hi hn => h.block i hi (fun h1 => hn (hO i hi h1))⟩
theorem FrameBut.of_below {O : Nat → Prop} {w w1 : World} (h : Below w.heap.size w w1) : FrameBut O w w1 := ⟨h.os, h.tape, h.output, h.size, fun i hi _ => h.block i hi⟩
theorem FrameBut.below {O : Nat → Prop} {w w1 w2 : World} (h : FrameBut O w w1) (k : Below w1.heap.size w1 w2) : FrameBut O w w2 := h.trans (FrameBut.of_below (O := O) k) (fun _ h => .inl h)
theorem FrameBut.alloc {O : Nat → Prop} {w w1 : World} (h : FrameBut O w w1) (o : Obj) : FrameBut O w (w1.alloc o) := h.below (below_alloc (Below.refl _ _) o)
theorem FrameBut.drew {O : Nat → Prop} {w w1 : World} (h : FrameBut O w w1) : FrameBut O w w1.drew := h.below (below_drew (Below.refl _ _))
theorem FrameBut.drewN {O : Nat → Prop} {w w1 : World} (h : FrameBut O w w1) (n : Nat) : FrameBut O w (w1.drewN n) := h.below (pw_below_drewN (Below.refl _ _) n)
theorem FrameBut.grown {O : Nat → Prop} {w w1 w2 : World} {row : Option Nat} (h : FrameBut O w w1) (hg : w1.grownBy w2 row) (hr : ∀ k, row = some k → O k ∨ w.heap.size ≤ k) : FrameBut O w w2 :=
  h.trans (O1 := fun k => row = some k) ⟨hg.os, hg.tape, hg.output, hg.size, fun k hk hn => hg.block k hk (fun e => hn e.symm)⟩ hr
theorem FrameBut.setCell {O : Nat → Prop} {w w1 : World} (h : FrameBut O w w1) {p : Addr} (hp : O p.block ∨ w.heap.size ≤ p.block) (u : Value) : FrameBut O w (w1.setCell p u) :=
  h.trans (O1 := fun k => k = p.block) ⟨rfl, rfl, rfl, by simp [World.setCell], fun k _ hn => Below.heap_setCell _ _ _ _ hn⟩ (fun k e => by rw [e]; exact hp)
theorem FrameBut.turned {O : Nat → Prop} {w w1 w2 : World} {b : Nat} (h : FrameBut O w w1) (ht : w1.mapTurned w2 b) (hb : O b ∨ w.heap.size ≤ b) : FrameBut O w w2 :=
  h.grown ht.grown (fun k e => by cases e; exact hb)
theorem FrameBut.toBelow {O : Nat → Prop} {w w1 : World} {B : Nat} (h : FrameBut O w w1) (hB : B ≤ w.heap.size) (hO : ∀ k, k < B → ¬ O k) : Below B w w1 :=
  ⟨h.os, h.tape, h.output, h.size, fun k hk => h.block k (Nat.lt_of_lt_of_le hk hB) (hO k hk)⟩
theorem FrameBut.cell {O : Nat → Prop} {w w1 : World} (h : FrameBut O w w1) {b i : Nat} {v : Value} (hc : w.cell? ⟨b, i, none⟩ = some v) (hn : ¬ O b) : w1.cell? ⟨b, i, none⟩ = some v :=
  (World.cell?_of_block (w := w) (a := ⟨b, i, none⟩) (h.block b (World.block_lt_of_cell? w _ hc) hn)).trans hc
structure CB (P : Program) (g : Nat) (lb : Array Value) {α : Type} (en : α → Value) (good : α → Prop) (max : Nat) (Inv : List α → (Nat → Prop) → World → Prop) : Prop where
  call : ∀ acc O W x, acc.length < max → good x → Inv acc O W → Calls P g (#[en x] ++ lb) W fun e w' => e = .returned (.tuple #[]) ∧ ∃ O', Inv (acc ++ [x]) O' w' ∧ FrameBut O W w' ∧ ∀ k, O' k → O k ∨ W.heap.size ≤ k
  move : ∀ acc O W W', Inv acc O W → W.heap.size ≤ W'.heap.size → W'.os = W.os → W'.tape = W.tape → W'.output = W.output → (∀ k, O k → W'.heap[k]? = W.heap[k]?) → Inv acc O W'
  lt : ∀ acc O W, Inv acc O W → ∀ k, O k → k < W.heap.size
theorem CB.frame {P : Program} {g : Nat} {lb : Array Value} {α : Type} {en : α → Value} {good : α → Prop} {max : Nat} {Inv : List α → (Nat → Prop) → World → Prop} (C : CB P g lb en good max Inv) {acc : List α} {O O1 : Nat → Prop} {W W' : World}
    (h : Inv acc O W) (hf : FrameBut O1 W W') (hd : ∀ k, O k → ¬ O1 k) : Inv acc O W' := C.move acc O W W' h hf.size hf.os hf.tape hf.output (fun k hk => hf.block k (C.lt acc O W h k hk) (hd k hk))
theorem CB.below {P : Program} {g : Nat} {lb : Array Value} {α : Type} {en : α → Value} {good : α → Prop} {max : Nat} {Inv : List α → (Nat → Prop) → World → Prop} (C : CB P g lb en good max Inv) {acc : List α} {O : Nat → Prop} {W W' : World}
    (h : Inv acc O W) (hb : Below W.heap.size W W') : Inv acc O W' := C.move acc O W W' h hb.size hb.os hb.tape hb.output (fun k hk => hb.block k (C.lt acc O W h k hk))

end Go.Proofs.YtbnkdfmomcmmaaaDoor.P


namespace Go.Proofs.YtbnkdfmomcmmaaaDoor.P
open Go.RowKit Go.Proofs.YtbnkdfmomcmmaaaDoorW.PrintWords Go.Proofs.YtbnkdfmomcmmaaaDoorW.PrintLast Go.Proofs.YtbnkdfmomcmmaaaDoorW.PrintMore
attribute [local go_sem] max2_int min2_int max_two min_two max_three min_three max_four min_four   -- for this text's walks alone
set_option linter.unusedVariables false
set_option linter.unusedSimpArgs false

section
open Go.Maps
def heldR (v : Value) : Option (DataW Value × List MemPlace) := some (.held v, [])
def MapIs {κ : Type} (w : World) (P : Program) (k b m : Nat) (en : κ → Value) (f : κ → Option Value) : Prop :=
  ∃ D : DataW Value, w.ownsMap P k heldR b m D ∧ Maps.size D = m ∧ ∀ c kl, keyOf P k (en c) = some kl → Maps.has D kl = (f c).isSome ∧ ∀ z, D.atKey kl (.held z) = .held ((f c).getD z)
section
variable {κ : Type} {w w1 : World} {P : Program} {k b m : Nat} {en : κ → Value} {f : κ → Option Value}
theorem MapIs.made (w : World) (P : Program) (k : Nat) (en : κ → Value) : MapIs (w.alloc (.map #[] 0)) P k w.heap.size 0 en (fun _ => none) :=
  ⟨.map [], World.ownsMap_made w P k heldR, rfl, fun c kl _ => ⟨rfl, fun z => rfl⟩⟩
theorem MapIs.lt (h : MapIs w P k b m en f) : b < w.heap.size := by
  obtain ⟨D, h, _⟩ := h
  exact h.lt
theorem MapIs.move (h : MapIs w P k b m en f) (hm : w1.heap[b]? = w.heap[b]?) : MapIs w1 P k b m en f := by
  obtain ⟨D, ⟨es, clock, hb, F, hs, hD⟩, h2⟩ := h
  exact ⟨D, ⟨es, clock, hm.trans hb, F, hs, hD⟩, h2⟩
theorem MapIs.below (h : MapIs w P k b m en f) (hb : Below w.heap.size w w1) : MapIs w1 P k b m en f := h.move (hb.block b h.lt)
theorem MapIs.alloc (h : MapIs w P k b m en f) (o : Obj) : MapIs (w.alloc o) P k b m en f := h.below ((Below.refl _ _).alloc (Nat.le_refl _) o)
theorem MapIs.congr (h : MapIs w P k b m en f) {g : κ → Option Value} (hg : ∀ c kl, keyOf P k (en c) = some kl → g c = f c) : MapIs w P k b m en g := by
  obtain ⟨D, h1, h2, h3⟩ := h
  exact ⟨D, h1, h2, fun c kl hk => by rw [hg c kl hk]; exact h3 c kl hk⟩
theorem MapIs.len (h : MapIs w P k b m en f) {t e : TypeId} (ht : P.underlying t = some (.map k e)) (ty : TypeId) : (Builtin.len_ #[t] ty #[.map (some b)]).run P w = .ok (.int .i64 m) w := by
  obtain ⟨D, h1, h2, _⟩ := h
  rw [h1.len ht ty, h2]
theorem MapIs.store [DecidableEq κ] (h : MapIs w P k b m en f) (K : Keyed P k) {t e : TypeId} (ht : P.underlying t = some (.map k e)) (hn : m < maxLen) (hinj : ∀ a c, en a = en c → a = c) {c : κ} {kl : Lit} (hkey : keyOf P k (en c) = some kl) (v : Value) :
    ∃ w', (Instr.mapUpdate t (.map (some b)) (en c) v).run P w = .ok () w' ∧ MapIs w' P k b (if (f c).isSome then m else m + 1) en (fun a => if a = c then some v else f a) ∧ w.mapTurned w' b := by
  obtain ⟨D, h1, h2, h3⟩ := h
  obtain ⟨w', hrun, ho, ht'⟩ := h1.store K ht hn hkey (d := .held v) (ps := []) rfl
  have hsz : Maps.size (D.put kl (.held v)) = if (f c).isSome then m else m + 1 := by
    rw [size_put (h1.tidy K), (h3 c kl hkey).1, h2]
  refine ⟨w', hrun, ⟨D.put kl (.held v), ?_, hsz, fun a la hla => ?_⟩, ht'⟩
  · obtain ⟨es, clock, hb, F, hs, hD⟩ := ho
    refine ⟨es, clock, hb, F, ?_, hD⟩
    have e1 : Maps.size (D.put kl (.held v)) = es.size := by rw [hD]; simp [Maps.size, length_sorted]
    rw [← hsz, e1]
    exact Nat.le_refl _
  · by_cases hac : a = c
    · subst hac
      have : la = kl := Option.some.inj (hla.symm.trans hkey)
      subst this
      simp only [if_true]
      exact ⟨has_put_same h1.isMap (K.key hkey) _, fun z => atKey_put_same h1.isMap (K.key hkey) _ _⟩
    · simp only [if_neg hac]
      have hne : la ≠ kl := fun e => hac (hinj _ _ (K.inj (e ▸ hla) hkey))
      exact ⟨(has_put_other hne _).trans (h3 a la hla).1, fun z => (atKey_put_other hne _ _).trans ((h3 a la hla).2 z)⟩
theorem MapIs.drop [DecidableEq κ] (h : MapIs w P k b m en f) (K : Keyed P k) {t e : TypeId} (ht : P.underlying t = some (.map k e)) (hinj : ∀ a c, en a = en c → a = c) {c : κ} {kl : Lit} (hkey : keyOf P k (en c) = some kl) (ty : TypeId) :
    ∃ w', (Builtin.delete_ #[t, k] ty #[.map (some b), en c]).run P w = .ok (.tuple #[]) w' ∧ MapIs w' P k b (if (f c).isSome then m - 1 else m) en (fun a => if a = c then none else f a) ∧ w.mapTurned w' b := by
  obtain ⟨D, h1, h2, h3⟩ := h
  obtain ⟨w', hrun, ho, ht'⟩ := h1.drop K ht hkey ty
  have hsz : Maps.size (D.del kl) = if (f c).isSome then m - 1 else m := by
    have := size_del (k := kl) (h1.tidy K)
    rw [(h3 c kl hkey).1, h2] at this
    split at this <;> rename_i hx <;> simp [hx] <;> omega
  refine ⟨w', hrun, ⟨D.del kl, ?_, hsz, fun a la hla => ?_⟩, ht'⟩
  · obtain ⟨es, clock, hb, F, hs, hD⟩ := ho
    refine ⟨es, clock, hb, F, ?_, hD⟩
    have e1 : Maps.size (D.del kl) = es.size := by rw [hD]; simp [Maps.size, length_sorted]
    rw [← hsz, e1]
    exact Nat.le_refl _
  · by_cases hac : a = c
    · subst hac
      have : la = kl := Option.some.inj (hla.symm.trans hkey)
      subst this
      simp only [if_true]
      exact ⟨has_del_same, fun z => atKey_del_same _⟩
    · simp only [if_neg hac]
      have hne : la ≠ kl := fun e => hac (hinj _ _ (K.inj (e ▸ hla) hkey))
      exact ⟨(has_del_other hne).trans (h3 a la hla).1, fun z => (atKey_del_other hne _).trans ((h3 a la hla).2 z)⟩
end
end

end Go.Proofs.YtbnkdfmomcmmaaaDoor.P


namespace Go.Proofs.YtbnkdfmomcmmaaaDoor.P
open Go.RowKit Go.Proofs.YtbnkdfmomcmmaaaDoorW.PrintWords Go.Proofs.YtbnkdfmomcmmaaaDoorW.PrintLast Go.Proofs.YtbnkdfmomcmmaaaDoorW.PrintMore
attribute [local go_sem] max2_int min2_int max_two min_two max_three min_three max_four min_four   -- for this text's walks alone
set_option linter.unusedVariables false
set_option linter.unusedSimpArgs false

section
open Go.Maps
theorem mapc_laid : laidOutB Tryd.prog = true := by kernel_rfl
theorem cornKeyed : Keyed Tryd.prog 41 := Keyed.of_law (deep_law_laid mapc_laid (m := 2) (by omega) (of_decide_eq_true (by kernel_rfl)) (by kernel_rfl) (by rw [Tryd.underlying41]))
def cornV (c : Int × Int) : Value := .agg #[.int .i64 c.1, .int .i64 c.2]
theorem cornV_inj (a c : Int × Int) (h : cornV a = cornV c) : a = c := by
  unfold cornV at h
  simp at h
  exact Prod.ext h.1 h.2
theorem cornKey (x y : Int) (hx : (Lit.int .i64 x).wf = true) (hy : (Lit.int .i64 y).wf = true) : keyOf Tryd.prog 41 (cornV (x, y)) = some (.string (keyBytes [.int .i64 x, .int .i64 y])) := by
  have h1 : Tryd.prog.keyType 41 = true := by kernel_rfl
  obtain ⟨m, hm⟩ : ∃ m, Tryd.prog.types.size = m + 1 := ⟨Tryd.prog.types.size.pred, by kernel_rfl⟩
  have h4 : Tryd.prog.cellsOf 41 = 2 := by kernel_rfl
  have h5 : Tryd.prog.cellsOf 3 = 1 := by kernel_rfl
  unfold cornV
  have hf : (Value.agg #[.int .i64 x, .int .i64 y]).formed Tryd.prog 41 = true := by
    simp [Value.formed, Tryd.underlying41, h4]
  have hl : Tryd.prog.keyLits (Tryd.prog.types.size + 1) 41 (Value.agg #[.int .i64 x, .int .i64 y]).cells.toList = some [.int .i64 x, .int .i64 y] := by
    rw [hm]
    simp [Program.keyLits, Tryd.underlying41, Tryd.underlying3, h4, h5, Value.cells, hx, hy]
  simp only [keyOf, Tryd.underlying41, h1, hf, hl]
  rfl
theorem i64_wf (x : Int) (h0 : -1000000 ≤ x) (h1 : x ≤ 1000000) : (Lit.int .i64 x).wf = true := WalkArith.wf_i64 (by omega)
end

end Go.Proofs.YtbnkdfmomcmmaaaDoor.P


namespace Go.Proofs.YtbnkdfmomcmmaaaDoor.P
open Go.RowKit Go.Proofs.YtbnkdfmomcmmaaaDoorW.PrintWords Go.Proofs.YtbnkdfmomcmmaaaDoorW.PrintLast Go.Proofs.YtbnkdfmomcmmaaaDoorW.PrintMore
attribute [local go_sem] max2_int min2_int max_two min_two max_three min_three max_four min_four   -- for this text's walks alone
set_option linter.unusedVariables false
set_option linter.unusedSimpArgs false

def impl_within.f (a0 : Int) (a1 : Int) (a2 : Int) : Option (Bool) := if a1 ≤ a0 then (some (decide (a0 ≤ a2))) else (some false)
set_option maxHeartbeats 8000000 in
set_option maxRecDepth 100000 in
theorem impl_within.calls (a0 : Int) (a1 : Int) (a2 : Int) (r : Bool) (w : World) (h : impl_within.f a0 a1 a2 = some r) :
    Calls Tryd.prog 28 #[.int .i64 a0, .int .i64 a1, .int .i64 a2] w fun e w' => e = .returned (.bool r) ∧ Drawn0 w w' := by
  have H : (if a1 ≤ a0 then (some (decide (a0 ≤ a2))) else (some false)) = some r := h
  clear h
  by_cases c4 : a1 ≤ a0
  · rw [if_pos c4] at H
    have c4b0 : decide (a1 ≤ a0) = true := decide_eq_true c4
    clear c4
    obtain rfl := Option.some.inj H
    go_enter Tryd.func28, Tryd.ntmps28
    go_wp2
    go_ret
    exact ⟨by first | rfl | (simp; done) | (simp [*]; done), by repeat (first | exact Drawn0.refl _ | apply Drawn0.step)⟩
  · rw [if_neg c4] at H
    have c4b0 : decide (a1 ≤ a0) = false := decide_eq_false c4
    clear c4
    obtain rfl := Option.some.inj H
    go_enter Tryd.func28, Tryd.ntmps28
    go_wp2
    go_ret
    exact ⟨by first | rfl | (simp; done) | (simp [*]; done), by repeat (first | exact Drawn0.refl _ | apply Drawn0.step)⟩

end Go.Proofs.YtbnkdfmomcmmaaaDoor.P


namespace Go.Proofs.YtbnkdfmomcmmaaaDoor.P
open Go.RowKit Go.Proofs.YtbnkdfmomcmmaaaDoorW.PrintWords Go.Proofs.YtbnkdfmomcmmaaaDoorW.PrintLast Go.Proofs.YtbnkdfmomcmmaaaDoorW.PrintMore
attribute [local go_sem] max2_int min2_int max_two min_two max_three min_three max_four min_four   -- for this text's walks alone
set_option linter.unusedVariables false
set_option linter.unusedSimpArgs false

def stepsB : ByteArray := ⟨#[110, 101, 115, 119]⟩
def strings_Trim.f (a0 a1 : ByteArray) : Option ByteArray := if a0.size ≤ 9223372036854775807 ∧ a1 = stepsB then some ⟨(Lib.trimS a0.data.toList stepsB.data.toList).toArray⟩ else none
theorem strings_Trim.calls (a0 a1 : ByteArray) (r : ByteArray) (w : World) (h : strings_Trim.f a0 a1 = some r) :
    Calls Tryd.prog 29 #[.string a0, .string a1] w fun e w' => e = .returned (.string r) ∧ Below w.heap.size w w' := by
  unfold strings_Trim.f at h
  split at h
  · rename_i h0
    obtain rfl := Option.some.inj h
    obtain ⟨h1, rfl⟩ := h0
    exact Any.strings_Trim_laid Tryd.lays160 (by kernel_rfl) a0 stepsB w h1 (by decide) (ascii_of_all (by decide))
  · cases h

end Go.Proofs.YtbnkdfmomcmmaaaDoor.P


namespace Go.Proofs.YtbnkdfmomcmmaaaDoor.P
open Go.RowKit Go.Proofs.YtbnkdfmomcmmaaaDoorW.PrintWords Go.Proofs.YtbnkdfmomcmmaaaDoorW.PrintLast Go.Proofs.YtbnkdfmomcmmaaaDoorW.PrintMore
attribute [local go_sem] max2_int min2_int max_two min_two max_three min_three max_four min_four   -- for this text's walks alone
set_option linter.unusedVariables false
set_option linter.unusedSimpArgs false

def impl_Corner_next.f (a0_0 : Int) (a0_1 : Int) (a1 : Int) : Option (Int × Int) := if a1 = 110 then (some (a0_0, wrap64 (a0_1 - 1))) else (if a1 = 101 then (some (wrap64 (a0_0 + 1), a0_1)) else (if a1 = 115 then (some (a0_0, wrap64 (a0_1 + 1))) else (some (wrap64 (a0_0 - 1), a0_1))))
set_option maxHeartbeats 8000000 in
set_option maxRecDepth 100000 in
theorem impl_Corner_next.calls (a0_0 : Int) (a0_1 : Int) (a1 : Int) (r1 : Int) (r2 : Int) (w : World) (h : impl_Corner_next.f a0_0 a0_1 a1 = some (r1, r2)) :
    Calls Tryd.prog 46 #[.agg #[.int .i64 a0_0, .int .i64 a0_1], .int .u8 a1] w fun e w' => e = .returned (.agg #[.int .i64 r1, .int .i64 r2]) ∧ Below w.heap.size w w' := by
  have hu41 := Tryd.underlying41
  have HB := Aside0.mk (Below.refl w.heap.size w)
  have H : (if a1 = 110 then (some (a0_0, wrap64 (a0_1 - 1))) else (if a1 = 101 then (some (wrap64 (a0_0 + 1), a0_1)) else (if a1 = 115 then (some (a0_0, wrap64 (a0_1 + 1))) else (some (wrap64 (a0_0 - 1), a0_1))))) = some (r1, r2) := h
  clear h
  by_cases c3 : a1 = 110
  · rw [if_pos c3] at H
    have c3b0 : (a1 == 110) = true := beq_iff_eq.mpr c3
    have c3b1 : (a1 != 110) = false := bne_eq_false_iff_eq.mpr c3
    clear c3
    simp only [Option.some.injEq, Prod.mk.injEq] at H
    obtain ⟨rfl, rfl⟩ := H
    go_enter Tryd.func46, Tryd.ntmps46
    go_wp2_with (first | ((with_reducible refine gate_dst (N := 2) rfl ?_); refine box_event ?hg (N := 2) ?hd (cs := #[.int .i64 a0_0, .int .i64 a0_1]) (t := 41) ?hr ?_; (case hd => rfl); (case hg => rfl); (case hr => first | (go_simp; done) | (go_simp; rfl)); intro gb130 hg w4 hbox hb; have n0_ := Aside0.mk (below_step (by repeat (first | (with_reducible first | exact HB.out | apply below_alloc | apply pw_below_drewN | apply below_drew1) | exact HB.out)) hb); have n1_ := Aside0.mk (hbox); have n2_ := Aside0.mk ((by rw [hg]; exact (below_size (by repeat (first | (with_reducible first | exact HB.out | apply below_alloc | apply pw_below_drewN | apply below_drew1) | exact HB.out))) : w.heap.size ≤ gb130)); have n3_ := Aside0.mk ((by rw [hg]; exact (below_size (by repeat (first | (with_reducible first | exact HB.out | apply below_alloc | apply pw_below_drewN | apply below_drew1) | exact HB.out))) : w.heap.size ≤ gb130)); clear HB; have HB := n0_; have BK130 := n1_; have GW130 := n2_; have GE130 := n3_; clear n0_ n1_ n2_ n3_; clear hb hbox hg) | ((with_reducible refine gate_dst (N := 4) rfl ?_); refine box_event ?hg (N := 4) ?hd (cs := #[.int .i64 0, .int .i64 0]) (t := 41) ?hr ?_; (case hd => rfl); (case hg => rfl); (case hr => first | (go_simp; done) | (go_simp; rfl)); intro gb131 hg w5 hbox hb; have n0_ := Aside0.mk (blk_below (g := gb130) (o := .cells #[.int .i64 a0_0, .int .i64 a0_1] 41 (0, 0)) (by (with_reducible repeat (first | refine blk_drewN ?_ _ | refine blk_drew ?_ | refine blk_alloc ?_ _)); exact BK130.out) hb); have n1_ := Aside0.mk (below_step (by repeat (first | (with_reducible first | exact HB.out | apply below_alloc | apply pw_below_drewN | apply below_drew1 | refine below_set ?_ GE130.out) | exact HB.out)) hb); have n2_ := Aside0.mk (hbox); have n3_ := Aside0.mk ((by rw [hg]; exact (below_size (by repeat (first | (with_reducible first | exact HB.out | apply below_alloc | apply pw_below_drewN | apply below_drew1 | refine below_set ?_ GE130.out) | exact HB.out))) : w.heap.size ≤ gb131)); have n4_ := Aside0.mk ((by rw [hg]; exact (below_size (by repeat (first | (with_reducible first | exact HB.out | apply below_alloc | apply pw_below_drewN | apply below_drew1 | refine below_set ?_ GE130.out) | exact HB.out))) : w.heap.size ≤ gb131)); have n5_ := Aside0.mk ((by rw [hg]; exact Nat.ne_of_lt (blk_lt (g := gb130) (o := .cells #[.int .i64 a0_0, .int .i64 a0_1] 41 (0, 0)) (by (with_reducible repeat (first | refine blk_drewN ?_ _ | refine blk_drew ?_ | refine blk_alloc ?_ _)); exact BK130.out)) : gb130 ≠ gb131)); have n6_ := Aside0.mk ((by rw [hg]; exact Nat.ne_of_gt (blk_lt (g := gb130) (o := .cells #[.int .i64 a0_0, .int .i64 a0_1] 41 (0, 0)) (by (with_reducible repeat (first | refine blk_drewN ?_ _ | refine blk_drew ?_ | refine blk_alloc ?_ _)); exact BK130.out)) : gb131 ≠ gb130)); clear BK130; clear HB; have BK130 := n0_; have HB := n1_; have BK131 := n2_; have GW131 := n3_; have GE131 := n4_; have NB130_131 := n5_; have NB131_130 := n6_; clear n0_ n1_ n2_ n3_ n4_ n5_ n6_; clear hb hbox hg; have hnb6 := NB130_131.out; have hnc6 := NB131_130.out; have hcz7_0 : w5.cell? ⟨gb130, 0, none⟩ = some (.int .i64 a0_0) := (blk_cell BK130.out 0).trans rfl; have hcz7_1 : w5.cell? ⟨gb130, 1, none⟩ = some (.int .i64 a0_1) := (blk_cell BK130.out 1).trans rfl; have hfz7_0 := blk_frozen BK130.out 0; have hfz7_1 := blk_frozen BK130.out 1; have hcz8_0 : w5.cell? ⟨gb131, 0, none⟩ = some (.int .i64 0) := (blk_cell BK131.out 0).trans rfl; have hcz8_1 : w5.cell? ⟨gb131, 1, none⟩ = some (.int .i64 0) := (blk_cell BK131.out 1).trans rfl; have hfz8_0 := blk_frozen BK131.out 0; have hfz8_1 := blk_frozen BK131.out 1))
    refine bodyPost_ret (results_cell_row rfl _ _ gb131 41 #[.int .i64 a0_0, .int .i64 (wrap64 (a0_1 - 1))] (0, 0) _ rfl (by (with_reducible repeat (first | refine blk_drewN ?_ _ | refine blk_drew ?_ | refine blk_alloc ?_ _)); refine blk_put (cs := #[.int .i64 a0_0, .int .i64 0]) ?_ 1 _ rfl; (with_reducible repeat (first | refine blk_drewN ?_ _ | refine blk_drew ?_ | refine blk_alloc ?_ _)); refine blk_put (cs := #[.int .i64 0, .int .i64 0]) ?_ 0 _ rfl; (with_reducible repeat (first | refine blk_drewN ?_ _ | refine blk_drew ?_ | refine blk_alloc ?_ _)); exact BK131.out) Tryd.underlying41 rfl (by kernel_rfl)) rfl ?_
    exact ⟨by first | rfl | (simp [errW_none, errW_some] <;> rfl) | (simp [*, errW_none, errW_some] <;> rfl), by repeat (first | (with_reducible first | exact HB.out | apply below_alloc | apply pw_below_drewN | apply below_drew1 | refine below_set ?_ GE130.out | refine below_set ?_ GE131.out) | exact HB.out)⟩
  · rw [if_neg c3] at H
    have c3b0 : (a1 == 110) = false := beq_eq_false_iff_ne.mpr c3
    have c3b1 : (a1 != 110) = true := bne_iff_ne.mpr c3
    by_cases c9 : a1 = 101
    · rw [if_pos c9] at H
      have c9b0 : (a1 == 101) = true := beq_iff_eq.mpr c9
      have c9b1 : (a1 != 101) = false := bne_eq_false_iff_eq.mpr c9
      clear c9
      simp only [Option.some.injEq, Prod.mk.injEq] at H
      obtain ⟨rfl, rfl⟩ := H
      go_enter Tryd.func46, Tryd.ntmps46
      go_wp2_with (first | ((with_reducible refine gate_dst (N := 2) rfl ?_); refine box_event ?hg (N := 2) ?hd (cs := #[.int .i64 a0_0, .int .i64 a0_1]) (t := 41) ?hr ?_; (case hd => rfl); (case hg => rfl); (case hr => first | (go_simp; done) | (go_simp; rfl)); intro gb130 hg w10 hbox hb; have n0_ := Aside0.mk (below_step (by repeat (first | (with_reducible first | exact HB.out | apply below_alloc | apply pw_below_drewN | apply below_drew1) | exact HB.out)) hb); have n1_ := Aside0.mk (hbox); have n2_ := Aside0.mk ((by rw [hg]; exact (below_size (by repeat (first | (with_reducible first | exact HB.out | apply below_alloc | apply pw_below_drewN | apply below_drew1) | exact HB.out))) : w.heap.size ≤ gb130)); have n3_ := Aside0.mk ((by rw [hg]; exact (below_size (by repeat (first | (with_reducible first | exact HB.out | apply below_alloc | apply pw_below_drewN | apply below_drew1) | exact HB.out))) : w.heap.size ≤ gb130)); clear HB; have HB := n0_; have BK130 := n1_; have GW130 := n2_; have GE130 := n3_; clear n0_ n1_ n2_ n3_; clear hb hbox hg) | ((with_reducible refine gate_dst (N := 4) rfl ?_); refine box_event ?hg (N := 4) ?hd (cs := #[.int .i64 0, .int .i64 0]) (t := 41) ?hr ?_; (case hd => rfl); (case hg => rfl); (case hr => first | (go_simp; done) | (go_simp; rfl)); intro gb131 hg w11 hbox hb; have n0_ := Aside0.mk (blk_below (g := gb130) (o := .cells #[.int .i64 a0_0, .int .i64 a0_1] 41 (0, 0)) (by (with_reducible repeat (first | refine blk_drewN ?_ _ | refine blk_drew ?_ | refine blk_alloc ?_ _)); exact BK130.out) hb); have n1_ := Aside0.mk (below_step (by repeat (first | (with_reducible first | exact HB.out | apply below_alloc | apply pw_below_drewN | apply below_drew1 | refine below_set ?_ GE130.out) | exact HB.out)) hb); have n2_ := Aside0.mk (hbox); have n3_ := Aside0.mk ((by rw [hg]; exact (below_size (by repeat (first | (with_reducible first | exact HB.out | apply below_alloc | apply pw_below_drewN | apply below_drew1 | refine below_set ?_ GE130.out) | exact HB.out))) : w.heap.size ≤ gb131)); have n4_ := Aside0.mk ((by rw [hg]; exact (below_size (by repeat (first | (with_reducible first | exact HB.out | apply below_alloc | apply pw_below_drewN | apply below_drew1 | refine below_set ?_ GE130.out) | exact HB.out))) : w.heap.size ≤ gb131)); have n5_ := Aside0.mk ((by rw [hg]; exact Nat.ne_of_lt (blk_lt (g := gb130) (o := .cells #[.int .i64 a0_0, .int .i64 a0_1] 41 (0, 0)) (by (with_reducible repeat (first | refine blk_drewN ?_ _ | refine blk_drew ?_ | refine blk_alloc ?_ _)); exact BK130.out)) : gb130 ≠ gb131)); have n6_ := Aside0.mk ((by rw [hg]; exact Nat.ne_of_gt (blk_lt (g := gb130) (o := .cells #[.int .i64 a0_0, .int .i64 a0_1] 41 (0, 0)) (by (with_reducible repeat (first | refine blk_drewN ?_ _ | refine blk_drew ?_ | refine blk_alloc ?_ _)); exact BK130.out)) : gb131 ≠ gb130)); clear BK130; clear HB; have BK130 := n0_; have HB := n1_; have BK131 := n2_; have GW131 := n3_; have GE131 := n4_; have NB130_131 := n5_; have NB131_130 := n6_; clear n0_ n1_ n2_ n3_ n4_ n5_ n6_; clear hb hbox hg; have hnb12 := NB130_131.out; have hnc12 := NB131_130.out; have hcz13_0 : w11.cell? ⟨gb130, 0, none⟩ = some (.int .i64 a0_0) := (blk_cell BK130.out 0).trans rfl; have hcz13_1 : w11.cell? ⟨gb130, 1, none⟩ = some (.int .i64 a0_1) := (blk_cell BK130.out 1).trans rfl; have hfz13_0 := blk_frozen BK130.out 0; have hfz13_1 := blk_frozen BK130.out 1; have hcz14_0 : w11.cell? ⟨gb131, 0, none⟩ = some (.int .i64 0) := (blk_cell BK131.out 0).trans rfl; have hcz14_1 : w11.cell? ⟨gb131, 1, none⟩ = some (.int .i64 0) := (blk_cell BK131.out 1).trans rfl; have hfz14_0 := blk_frozen BK131.out 0; have hfz14_1 := blk_frozen BK131.out 1))
      refine bodyPost_ret (results_cell_row rfl _ _ gb131 41 #[.int .i64 (wrap64 (a0_0 + 1)), .int .i64 a0_1] (0, 0) _ rfl (by (with_reducible repeat (first | refine blk_drewN ?_ _ | refine blk_drew ?_ | refine blk_alloc ?_ _)); refine blk_put (cs := #[.int .i64 (wrap64 (a0_0 + 1)), .int .i64 0]) ?_ 1 _ rfl; (with_reducible repeat (first | refine blk_drewN ?_ _ | refine blk_drew ?_ | refine blk_alloc ?_ _)); refine blk_put (cs := #[.int .i64 0, .int .i64 0]) ?_ 0 _ rfl; (with_reducible repeat (first | refine blk_drewN ?_ _ | refine blk_drew ?_ | refine blk_alloc ?_ _)); exact BK131.out) Tryd.underlying41 rfl (by kernel_rfl)) rfl ?_
      exact ⟨by first | rfl | (simp [errW_none, errW_some] <;> rfl) | (simp [*, errW_none, errW_some] <;> rfl), by repeat (first | (with_reducible first | exact HB.out | apply below_alloc | apply pw_below_drewN | apply below_drew1 | refine below_set ?_ GE130.out | refine below_set ?_ GE131.out) | exact HB.out)⟩
    · rw [if_neg c9] at H
      have c9b0 : (a1 == 101) = false := beq_eq_false_iff_ne.mpr c9
      have c9b1 : (a1 != 101) = true := bne_iff_ne.mpr c9
      by_cases c15 : a1 = 115
      · rw [if_pos c15] at H
        have c15b0 : (a1 == 115) = true := beq_iff_eq.mpr c15
        have c15b1 : (a1 != 115) = false := bne_eq_false_iff_eq.mpr c15
        clear c15
        simp only [Option.some.injEq, Prod.mk.injEq] at H
        obtain ⟨rfl, rfl⟩ := H
        go_enter Tryd.func46, Tryd.ntmps46
        go_wp2_with (first | ((with_reducible refine gate_dst (N := 2) rfl ?_); refine box_event ?hg (N := 2) ?hd (cs := #[.int .i64 a0_0, .int .i64 a0_1]) (t := 41) ?hr ?_; (case hd => rfl); (case hg => rfl); (case hr => first | (go_simp; done) | (go_simp; rfl)); intro gb130 hg w16 hbox hb; have n0_ := Aside0.mk (below_step (by repeat (first | (with_reducible first | exact HB.out | apply below_alloc | apply pw_below_drewN | apply below_drew1) | exact HB.out)) hb); have n1_ := Aside0.mk (hbox); have n2_ := Aside0.mk ((by rw [hg]; exact (below_size (by repeat (first | (with_reducible first | exact HB.out | apply below_alloc | apply pw_below_drewN | apply below_drew1) | exact HB.out))) : w.heap.size ≤ gb130)); have n3_ := Aside0.mk ((by rw [hg]; exact (below_size (by repeat (first | (with_reducible first | exact HB.out | apply below_alloc | apply pw_below_drewN | apply below_drew1) | exact HB.out))) : w.heap.size ≤ gb130)); clear HB; have HB := n0_; have BK130 := n1_; have GW130 := n2_; have GE130 := n3_; clear n0_ n1_ n2_ n3_; clear hb hbox hg) | ((with_reducible refine gate_dst (N := 4) rfl ?_); refine box_event ?hg (N := 4) ?hd (cs := #[.int .i64 0, .int .i64 0]) (t := 41) ?hr ?_; (case hd => rfl); (case hg => rfl); (case hr => first | (go_simp; done) | (go_simp; rfl)); intro gb131 hg w17 hbox hb; have n0_ := Aside0.mk (blk_below (g := gb130) (o := .cells #[.int .i64 a0_0, .int .i64 a0_1] 41 (0, 0)) (by (with_reducible repeat (first | refine blk_drewN ?_ _ | refine blk_drew ?_ | refine blk_alloc ?_ _)); exact BK130.out) hb); have n1_ := Aside0.mk (below_step (by repeat (first | (with_reducible first | exact HB.out | apply below_alloc | apply pw_below_drewN | apply below_drew1 | refine below_set ?_ GE130.out) | exact HB.out)) hb); have n2_ := Aside0.mk (hbox); have n3_ := Aside0.mk ((by rw [hg]; exact (below_size (by repeat (first | (with_reducible first | exact HB.out | apply below_alloc | apply pw_below_drewN | apply below_drew1 | refine below_set ?_ GE130.out) | exact HB.out))) : w.heap.size ≤ gb131)); have n4_ := Aside0.mk ((by rw [hg]; exact (below_size (by repeat (first | (with_reducible first | exact HB.out | apply below_alloc | apply pw_below_drewN | apply below_drew1 | refine below_set ?_ GE130.out) | exact HB.out))) : w.heap.size ≤ gb131)); have n5_ := Aside0.mk ((by rw [hg]; exact Nat.ne_of_lt (blk_lt (g := gb130) (o := .cells #[.int .i64 a0_0, .int .i64 a0_1] 41 (0, 0)) (by (with_reducible repeat (first | refine blk_drewN ?_ _ | refine blk_drew ?_ | refine blk_alloc ?_ _)); exact BK130.out)) : gb130 ≠ gb131)); have n6_ := Aside0.mk ((by rw [hg]; exact Nat.ne_of_gt (blk_lt (g := gb130) (o := .cells #[.int .i64 a0_0, .int .i64 a0_1] 41 (0, 0)) (by (with_reducible repeat (first | refine blk_drewN ?_ _ | refine blk_drew ?_ | refine blk_alloc ?_ _)); exact BK130.out)) : gb131 ≠ gb130)); clear BK130; clear HB; have BK130 := n0_; have HB := n1_; have BK131 := n2_; have GW131 := n3_; have GE131 := n4_; have NB130_131 := n5_; have NB131_130 := n6_; clear n0_ n1_ n2_ n3_ n4_ n5_ n6_; clear hb hbox hg; have hnb18 := NB130_131.out; have hnc18 := NB131_130.out; have hcz19_0 : w17.cell? ⟨gb130, 0, none⟩ = some (.int .i64 a0_0) := (blk_cell BK130.out 0).trans rfl; have hcz19_1 : w17.cell? ⟨gb130, 1, none⟩ = some (.int .i64 a0_1) := (blk_cell BK130.out 1).trans rfl; have hfz19_0 := blk_frozen BK130.out 0; have hfz19_1 := blk_frozen BK130.out 1; have hcz20_0 : w17.cell? ⟨gb131, 0, none⟩ = some (.int .i64 0) := (blk_cell BK131.out 0).trans rfl; have hcz20_1 : w17.cell? ⟨gb131, 1, none⟩ = some (.int .i64 0) := (blk_cell BK131.out 1).trans rfl; have hfz20_0 := blk_frozen BK131.out 0; have hfz20_1 := blk_frozen BK131.out 1))
        refine bodyPost_ret (results_cell_row rfl _ _ gb131 41 #[.int .i64 a0_0, .int .i64 (wrap64 (a0_1 + 1))] (0, 0) _ rfl (by (with_reducible repeat (first | refine blk_drewN ?_ _ | refine blk_drew ?_ | refine blk_alloc ?_ _)); refine blk_put (cs := #[.int .i64 a0_0, .int .i64 0]) ?_ 1 _ rfl; (with_reducible repeat (first | refine blk_drewN ?_ _ | refine blk_drew ?_ | refine blk_alloc ?_ _)); refine blk_put (cs := #[.int .i64 0, .int .i64 0]) ?_ 0 _ rfl; (with_reducible repeat (first | refine blk_drewN ?_ _ | refine blk_drew ?_ | refine blk_alloc ?_ _)); exact BK131.out) Tryd.underlying41 rfl (by kernel_rfl)) rfl ?_
        exact ⟨by first | rfl | (simp [errW_none, errW_some] <;> rfl) | (simp [*, errW_none, errW_some] <;> rfl), by repeat (first | (with_reducible first | exact HB.out | apply below_alloc | apply pw_below_drewN | apply below_drew1 | refine below_set ?_ GE130.out | refine below_set ?_ GE131.out) | exact HB.out)⟩
      · rw [if_neg c15] at H
        have c15b0 : (a1 == 115) = false := beq_eq_false_iff_ne.mpr c15
        have c15b1 : (a1 != 115) = true := bne_iff_ne.mpr c15
        simp only [Option.some.injEq, Prod.mk.injEq] at H
        obtain ⟨rfl, rfl⟩ := H
        go_enter Tryd.func46, Tryd.ntmps46
        go_wp2_with (first | ((with_reducible refine gate_dst (N := 2) rfl ?_); refine box_event ?hg (N := 2) ?hd (cs := #[.int .i64 a0_0, .int .i64 a0_1]) (t := 41) ?hr ?_; (case hd => rfl); (case hg => rfl); (case hr => first | (go_simp; done) | (go_simp; rfl)); intro gb130 hg w21 hbox hb; have n0_ := Aside0.mk (below_step (by repeat (first | (with_reducible first | exact HB.out | apply below_alloc | apply pw_below_drewN | apply below_drew1) | exact HB.out)) hb); have n1_ := Aside0.mk (hbox); have n2_ := Aside0.mk ((by rw [hg]; exact (below_size (by repeat (first | (with_reducible first | exact HB.out | apply below_alloc | apply pw_below_drewN | apply below_drew1) | exact HB.out))) : w.heap.size ≤ gb130)); have n3_ := Aside0.mk ((by rw [hg]; exact (below_size (by repeat (first | (with_reducible first | exact HB.out | apply below_alloc | apply pw_below_drewN | apply below_drew1) | exact HB.out))) : w.heap.size ≤ gb130)); clear HB; have HB := n0_; have BK130 := n1_; have GW130 := n2_; have GE130 := n3_; clear n0_ n1_ n2_ n3_; clear hb hbox hg) | ((with_reducible refine gate_dst (N := 4) rfl ?_); refine box_event ?hg (N := 4) ?hd (cs := #[.int .i64 0, .int .i64 0]) (t := 41) ?hr ?_; (case hd => rfl); (case hg => rfl); (case hr => first | (go_simp; done) | (go_simp; rfl)); intro gb131 hg w22 hbox hb; have n0_ := Aside0.mk (blk_below (g := gb130) (o := .cells #[.int .i64 a0_0, .int .i64 a0_1] 41 (0, 0)) (by (with_reducible repeat (first | refine blk_drewN ?_ _ | refine blk_drew ?_ | refine blk_alloc ?_ _)); exact BK130.out) hb); have n1_ := Aside0.mk (below_step (by repeat (first | (with_reducible first | exact HB.out | apply below_alloc | apply pw_below_drewN | apply below_drew1 | refine below_set ?_ GE130.out) | exact HB.out)) hb); have n2_ := Aside0.mk (hbox); have n3_ := Aside0.mk ((by rw [hg]; exact (below_size (by repeat (first | (with_reducible first | exact HB.out | apply below_alloc | apply pw_below_drewN | apply below_drew1 | refine below_set ?_ GE130.out) | exact HB.out))) : w.heap.size ≤ gb131)); have n4_ := Aside0.mk ((by rw [hg]; exact (below_size (by repeat (first | (with_reducible first | exact HB.out | apply below_alloc | apply pw_below_drewN | apply below_drew1 | refine below_set ?_ GE130.out) | exact HB.out))) : w.heap.size ≤ gb131)); have n5_ := Aside0.mk ((by rw [hg]; exact Nat.ne_of_lt (blk_lt (g := gb130) (o := .cells #[.int .i64 a0_0, .int .i64 a0_1] 41 (0, 0)) (by (with_reducible repeat (first | refine blk_drewN ?_ _ | refine blk_drew ?_ | refine blk_alloc ?_ _)); exact BK130.out)) : gb130 ≠ gb131)); have n6_ := Aside0.mk ((by rw [hg]; exact Nat.ne_of_gt (blk_lt (g := gb130) (o := .cells #[.int .i64 a0_0, .int .i64 a0_1] 41 (0, 0)) (by (with_reducible repeat (first | refine blk_drewN ?_ _ | refine blk_drew ?_ | refine blk_alloc ?_ _)); exact BK130.out)) : gb131 ≠ gb130)); clear BK130; clear HB; have BK130 := n0_; have HB := n1_; have BK131 := n2_; have GW131 := n3_; have GE131 := n4_; have NB130_131 := n5_; have NB131_130 := n6_; clear n0_ n1_ n2_ n3_ n4_ n5_ n6_; clear hb hbox hg; have hnb23 := NB130_131.out; have hnc23 := NB131_130.out; have hcz24_0 : w22.cell? ⟨gb130, 0, none⟩ = some (.int .i64 a0_0) := (blk_cell BK130.out 0).trans rfl; have hcz24_1 : w22.cell? ⟨gb130, 1, none⟩ = some (.int .i64 a0_1) := (blk_cell BK130.out 1).trans rfl; have hfz24_0 := blk_frozen BK130.out 0; have hfz24_1 := blk_frozen BK130.out 1; have hcz25_0 : w22.cell? ⟨gb131, 0, none⟩ = some (.int .i64 0) := (blk_cell BK131.out 0).trans rfl; have hcz25_1 : w22.cell? ⟨gb131, 1, none⟩ = some (.int .i64 0) := (blk_cell BK131.out 1).trans rfl; have hfz25_0 := blk_frozen BK131.out 0; have hfz25_1 := blk_frozen BK131.out 1))
        refine bodyPost_ret (results_cell_row rfl _ _ gb131 41 #[.int .i64 (wrap64 (a0_0 - 1)), .int .i64 a0_1] (0, 0) _ rfl (by (with_reducible repeat (first | refine blk_drewN ?_ _ | refine blk_drew ?_ | refine blk_alloc ?_ _)); refine blk_put (cs := #[.int .i64 (wrap64 (a0_0 - 1)), .int .i64 0]) ?_ 1 _ rfl; (with_reducible repeat (first | refine blk_drewN ?_ _ | refine blk_drew ?_ | refine blk_alloc ?_ _)); refine blk_put (cs := #[.int .i64 0, .int .i64 0]) ?_ 0 _ rfl; (with_reducible repeat (first | refine blk_drewN ?_ _ | refine blk_drew ?_ | refine blk_alloc ?_ _)); exact BK131.out) Tryd.underlying41 rfl (by kernel_rfl)) rfl ?_
        exact ⟨by first | rfl | (simp [errW_none, errW_some] <;> rfl) | (simp [*, errW_none, errW_some] <;> rfl), by repeat (first | (with_reducible first | exact HB.out | apply below_alloc | apply pw_below_drewN | apply below_drew1 | refine below_set ?_ GE130.out | refine below_set ?_ GE131.out) | exact HB.out)⟩

end Go.Proofs.YtbnkdfmomcmmaaaDoor.P


namespace Go.Proofs.YtbnkdfmomcmmaaaDoor.P
open Go.RowKit Go.Proofs.YtbnkdfmomcmmaaaDoorW.PrintWords Go.Proofs.YtbnkdfmomcmmaaaDoorW.PrintLast Go.Proofs.YtbnkdfmomcmmaaaDoorW.PrintMore
attribute [local go_sem] max2_int min2_int max_two min_two max_three min_three max_four min_four   -- for this text's walks alone
set_option linter.unusedVariables false
set_option linter.unusedSimpArgs false

theorem blk_keep {W w1 : World} {g : Nat} {o : Obj} (h : W.heap[g]? = some o) (hb : Below W.heap.size W w1) : w1.heap[g]? = some o :=
  (hb.block g (Array.getElem?_eq_some_iff.1 h).1).trans h
end Go.Proofs.YtbnkdfmomcmmaaaDoor.P


namespace Go.Proofs.YtbnkdfmomcmmaaaDoor.P
open Go.RowKit Go.Proofs.YtbnkdfmomcmmaaaDoorW.PrintWords Go.Proofs.YtbnkdfmomcmmaaaDoorW.PrintLast Go.Proofs.YtbnkdfmomcmmaaaDoorW.PrintMore
attribute [local go_sem] max2_int min2_int max_two min_two max_three min_three max_four min_four   -- for this text's walks alone
set_option linter.unusedVariables false
set_option linter.unusedSimpArgs false

def nextC (c : S41) (b : Int) : S41 := match impl_Corner_next.f c.f0 c.f1 b with
  | some (x, y) => ⟨x, y⟩
  | none => ⟨0, 0⟩
def walkFrom (c : S41) : List UInt8 → List S41
  | [] => []
  | b :: t => nextC c (b.toNat : Int) :: walkFrom (nextC c (b.toNat : Int)) t
def cornersL (l : List UInt8) : List S41 := ⟨0, 0⟩ :: walkFrom ⟨0, 0⟩ l
theorem walkFrom_len : ∀ (l : List UInt8) (c : S41), (walkFrom c l).length = l.length
  | [], _ => rfl
  | b :: t, c => by unfold walkFrom; rw [List.length_cons, walkFrom_len t, List.length_cons]
theorem cornersL_len (l : List UInt8) : (cornersL l).length = l.length + 1 := by unfold cornersL; rw [List.length_cons, walkFrom_len]
theorem walkFrom_snoc : ∀ (l : List UInt8) (c : S41) (b : UInt8), walkFrom c (l ++ [b]) = walkFrom c l ++ [nextC ((c :: walkFrom c l).getD l.length ⟨0, 0⟩) (b.toNat : Int)]
  | [], c, b => by simp [walkFrom]
  | a :: t, c, b => by
    have ih := walkFrom_snoc t (nextC c (a.toNat : Int)) b
    rw [List.cons_append]
    simp only [walkFrom, List.cons_append, List.length_cons, List.getD_cons_succ]
    rw [ih]
theorem cornersL_snoc (l : List UInt8) (b : UInt8) : cornersL (l ++ [b]) = cornersL l ++ [nextC ((cornersL l).getD l.length ⟨0, 0⟩) (b.toNat : Int)] := by
  unfold cornersL
  rw [walkFrom_snoc, List.cons_append]
theorem next_some (c : S41) (b : Int) : impl_Corner_next.f c.f0 c.f1 b = some ((nextC c b).f0, (nextC c b).f1) := by
  have h : ∃ r, impl_Corner_next.f c.f0 c.f1 b = some r := by
    unfold impl_Corner_next.f
    repeat' split
    all_goals exact ⟨_, rfl⟩
  obtain ⟨⟨x, y⟩, h⟩ := h
  unfold nextC
  rw [h]
theorem rd_ofNat (l : List Int) (k : Nat) (h : k < l.length) : rd l (k : Int) = l[k] := by
  unfold rd; rw [Int.toNat_natCast, List.getD_eq_getElem?_getD, List.getElem?_eq_getElem h]; rfl
theorem R_oneC (w : World) (c : S41) : Kd.R k41 41 (w.alloc (.cells #[.int .i64 c.f0, .int .i64 c.f1] 41)) w.heap.size (fun k => k ≠ w.heap.size + 1) (.slice (some ⟨w.heap.size, 0, none⟩) 1 1) [c] := by
  refine ⟨fun k hk => ?_, [.int .i64 c.f0, .int .i64 c.f1], ?_, ?_⟩
  · simp [Value.ownBlock] at hk
    omega
  · have h := World.ownsRow_lit (base := w.heap.size) (e := 41) (size := 2) w #[.int .i64 c.f0, .int .i64 c.f1] 1 (Nat.le_refl _) (by simp [maxLen]) (by simp)
    have h2 : (w.alloc (.cells #[.int .i64 c.f0, .int .i64 c.f1] 41)).ownsRow w.heap.size 41 2 (.slice (some ⟨w.heap.size, 0, none⟩) 1 1) 1 [.int .i64 c.f0, .int .i64 c.f1] := by simpa using h
    exact h2
  · refine ⟨rfl, fun j p hj => ?_⟩
    obtain ⟨hjl, hp⟩ := List.getElem?_eq_some_iff.1 hj
    have hj0 : j = 0 := by simp at hjl; omega
    subst hj0
    have hpc : p = c := by simpa using hp.symm
    subst hpc
    exact k41_mkM _ _ _ p
theorem mkBytes {W : World} {g : Nat} {s : ByteArray} {cc : Nat} {fr : Nat × Nat} (h4 : W.heap[g]? = some (.cells (bytesRow s cc) 5 fr)) (hs2 : s.size ≤ 1000) : Kd.C (Kd.int .u8) W (some ⟨g, 0, none⟩) s.size (s.data.toList.map fun b => (b.toNat : Int)) := by
  refine Kd.C_of_reads (d := (0 : Int)) (h1 := fun _ => rfl) ⟨by rw [List.length_map]; rfl, by omega, fun _ => ⟨_, rfl, fun j hj => ?_⟩⟩
  have hj2 : j < s.data.size := by simpa using hj
  have hat := bytesRow_at s cc j hj2
  rw [add_plain]
  simp only [World.cell?, h4]
  simp [hat, hj2, List.getD_eq_getElem?_getD, Array.getElem?_eq_getElem hj2]
set_option maxRecDepth 100000 in
set_option maxHeartbeats 8000000 in
theorem walk_any (s : ByteArray) (hs : s.size ≤ 1000) (w : World) :
    Calls Tryd.prog 30 #[.string s] w fun e w' => ∃ v, e = .returned v ∧ Kd.R k41 41 w' w.heap.size (fun _ => True) v (cornersL s.data.toList) ∧ Below w.heap.size w w' := by
  have hconv := fun W : World => run_bytes_of_string (P := Tryd.prog) W 9 57 5 s Tryd.underlying9 Tryd.underlying57 Tryd.underlying5
  have hn : s.size ≤ 1000 := hs
  clear hs
  go_enter Tryd.func30, Tryd.ntmps30
  go_wp2_with fail
  have R0 := Aside0.mk (R_oneC w (⟨0, 0⟩ : S41))
  generalize grownCap (w.alloc (.cells #[.int .i64 0, .int .i64 0] 41)) s.size 0 5 = cc
  have BY0 : Aside0 ((((w.alloc (.cells #[.int .i64 0, .int .i64 0] 41)).alloc (.cells (bytesRow s cc) 5 ((bytesRow s cc).size, (bytesRow s cc).size + 1))).drew).heap[w.heap.size + 1]? = some (.cells (bytesRow s cc) 5 ((bytesRow s cc).size, (bytesRow s cc).size + 1))) := ⟨by
    have h := heap_alloc_new (w.alloc (.cells #[.int .i64 0, .int .i64 0] 41)) (.cells (bytesRow s cc) 5 ((bytesRow s cc).size, (bytesRow s cc).size + 1))
    have e : (w.alloc (.cells #[.int .i64 0, .int .i64 0] 41)).heap.size = w.heap.size + 1 := by simp
    rw [e] at h
    exact h⟩
  generalize hW : ((w.alloc (.cells #[.int .i64 0, .int .i64 0] 41)).alloc (.cells (bytesRow s cc) 5 ((bytesRow s cc).size, (bytesRow s cc).size + 1))).drew = W1 at BY0 ⊢
  have BW0 : Aside0 (Below w.heap.size w W1) := ⟨by rw [← hW]; exact below_drew (below_alloc (below_alloc (Below.refl _ _) _) _)⟩
  have RW0 : Aside0 (Kd.R k41 41 W1 w.heap.size (fun k => k ≠ w.heap.size + 1) (.slice (some ⟨w.heap.size, 0, none⟩) 1 1) (cornersL (s.data.toList.take 0))) := ⟨by rw [← hW]; exact Kd.R_drew (Kd.R_alloc R0.out _)⟩
  clear hW R0 hconv
  go_loopg [3, 5, 11] s.size (fun gg u3 _ u11 wr => ∃ i : Nat, i ≤ s.size ∧ s.size - i ≤ gg ∧ u11 = .int .i64 i ∧ Aside0 (Kd.R k41 41 wr w.heap.size (fun k => k ≠ w.heap.size + 1) u3 (cornersL (s.data.toList.take i))) ∧ Aside0 (Below w.heap.size w wr) ∧ Aside0 (wr.heap[w.heap.size + 1]? = some (.cells (bytesRow s cc) 5 ((bytesRow s cc).size, (bytesRow s cc).size + 1))))
  case atStart => exact ⟨0, Nat.zero_le _, by omega, rfl, RW0, BW0, BY0⟩
  case round =>
    clear RW0 BW0 BY0
    obtain ⟨i, hi, hgg, rfl, HO, HB, HY⟩ := hrel
    have hsz : s.data.toList.length = s.size := by simp
    obtain ⟨A, c, rfl⟩ := Kd.R_slice HO.out
    have hlen : (cornersL (s.data.toList.take i)).length = i + 1 := by rw [cornersL_len, List.length_take, hsz]; omega
    by_cases hlt : i < s.size
    · have hltz : (i : Int) < (s.size : Int) := by omega
      have hil : i < s.data.toList.length := by omega
      obtain ⟨ad, eA, hx⟩ := Kd.at_int (mkBytes HY.out hn) (i : Int) (by omega) (by omega)
      cases eA
      have HO2 : Aside0 (Kd.R k41 41 wr w.heap.size (fun k => k ≠ w.heap.size + 1) (.slice A (i + 1) c) (cornersL (s.data.toList.take i))) := ⟨by have h := HO.out; rw [hlen] at h; exact h⟩
      obtain ⟨ad2, eA2, hy1, hy2⟩ := at_T41 (Kd.R_reads' HO2.out).2.2 (i : Int) (by omega) (by rw [hlen]; omega)
      subst eA2
      rw [hlen]
      have hrd : rd (s.data.toList.map fun b => (b.toNat : Int)) (i : Int) = (((s.data.toList[i]'hil).toNat : Nat) : Int) := by
        rw [rd_ofNat _ _ (by rw [List.length_map]; exact hil), List.getElem_map]
      have htake : s.data.toList.take (i + 1) = s.data.toList.take i ++ [s.data.toList[i]'hil] := List.take_succ_eq_append_getElem hil
      have hcs := cornersL_snoc (s.data.toList.take i) (s.data.toList[i]'hil)
      rw [← htake, List.length_take, hsz, Nat.min_eq_left hi] at hcs
      have hrc : rd_T41 (cornersL (s.data.toList.take i)) (i : Int) = (cornersL (s.data.toList.take i)).getD i ⟨0, 0⟩ := by unfold rd_T41; rw [Int.toNat_natCast]; rfl
      rw [hrd] at hx
      rw [hrc, Int.toNat_natCast] at hy1 hy2
      rw [Int.toNat_natCast, add_plain] at hx
      have HCS := Aside0.mk hcs
      clear hcs hrd hrc htake HO hlen
      generalize (s.data.toList[i]'hil).toNat = b at hx HCS
      generalize hce : (cornersL (s.data.toList.take i)).getD i ⟨0, 0⟩ = ce at hy1 hy2 HCS
      clear hce
      have HN := Aside0.mk (next_some ce (b : Int))
      generalize nextC ce (b : Int) = nx at HN HCS
      generalize cornersL (s.data.toList.take i) = xs at HO2 HCS
      have e1 : IntKind.i64.wrap (((i + 1 : Nat) : Int) - 1) = (i : Int) := by rw [IntKind.wrap_i64]; omega
      have HL : Aside0 (xs.length = i + 1) := ⟨(Kd.R_reads' HO2.out).1.symm⟩
      go_wp2_with (first
        | (go_at_call 46; refine (impl_Corner_next.calls ce.f0 ce.f1 (b : Int) nx.f0 nx.f1 _ HN.out).mono ?_; rintro e wn ⟨rfl, hb⟩; have HO3 := Aside0.mk (Kd.R_below HO2.out hb); have HB3 := Aside0.mk (below_step HB.out hb); have HY3 := Aside0.mk (blk_keep HY.out hb); clear hb)
        | (at_builtin; refine Kd.R_append k41 (w0 := w) w.heap.size rfl (.tmp 15) (.tmp 24) 29 41 (.agg #[(.int .i64 0), (.int .i64 0)]) 16 rfl Tryd.underlying29 info41 rfl (by decide) (by omega) (.slice (some ad2) (i + 1) c) xs nx [.int .i64 nx.f0, .int .i64 nx.f1] (fun k => k ≠ w.heap.size + 1) (fun _ => False) rfl rfl ?aP (fun _ hk => hk.elim) ?aF ?aO ?aB ?aS ?aL ?_; (case aP => exact k41_mkM _ _ _ nx); (case aF => exact fun k hk => by have h_ := (Array.getElem?_eq_some_iff.1 HY3.out).1; omega); (case aO => exact HO3.out); (case aB => exact HB3.out); (case aS => exact HB3.out.size); (case aL => have h_ := HL.out; rw [h_]; omega); intro v1 w1 ho hb hg hat; have HO4 := Aside0.mk ho; have HB4 := Aside0.mk hb; have HY4 := Aside0.mk (blk_grown HY3.out hg (Kd.R_away HO3.out (fun _ hk => hk))); clear ho hb hg hat))
      rw [← HCS.out] at HO4
      go_roundg (s.size - (i + 1))
      case measure => omega
      case rel => exact ⟨i + 1, by omega, by omega, by go_num, HO4, HB4, HY4⟩
    · have hltz : ¬ (i : Int) < (s.size : Int) := by omega
      have hie : i = s.size := by omega
      subst hie
      have hall : s.data.toList.take s.size = s.data.toList := by rw [← hsz, List.take_length]
      rw [hall] at HO ⊢
      go_wp2_with fail
      go_ret
      exact ⟨_, rfl, Kd.R_mono HO.out (fun _ _ => trivial), HB.out⟩
def impl_walk.f (a0 : ByteArray) : Option (List S41) := if a0.size ≤ 1000 then some (cornersL a0.data.toList) else none
theorem impl_walk.calls (a0 : ByteArray) (r : List S41) (w : World) (h : impl_walk.f a0 = some r) :
    Calls Tryd.prog 30 #[.string a0] w fun e w' => ∃ v0_ : Value, e = .returned v0_ ∧ Kd.R k41 41 w' w.heap.size (fun _ => True) v0_ r ∧ Below w.heap.size w w' := by
  unfold impl_walk.f at h
  split at h
  · rename_i h0
    obtain rfl := Option.some.inj h
    exact walk_any a0 h0 w
  · cases h

end Go.Proofs.YtbnkdfmomcmmaaaDoor.P


namespace Go.Proofs.YtbnkdfmomcmmaaaDoor.P
open Go.RowKit Go.Proofs.YtbnkdfmomcmmaaaDoorW.PrintWords Go.Proofs.YtbnkdfmomcmmaaaDoorW.PrintLast Go.Proofs.YtbnkdfmomcmmaaaDoorW.PrintMore
attribute [local go_sem] max2_int min2_int max_two min_two max_three min_three max_four min_four   -- for this text's walks alone
set_option linter.unusedVariables false
set_option linter.unusedSimpArgs false

def pairC (c : S41) : Int × Int := (c.f0, c.f1)
def seenC (l : List S41) : List (Int × Int) := l.foldl (fun S c => if pairC c ∈ S then S else pairC c :: S) []
theorem seenC_snoc (l : List S41) (c : S41) : seenC (l ++ [c]) = if pairC c ∈ seenC l then seenC l else pairC c :: seenC l := by
  unfold seenC; rw [List.foldl_append]; rfl
theorem seenC_len (l : List S41) : (seenC l).length ≤ l.length := by
  have h : ∀ (l : List S41) (S : List (Int × Int)), (l.foldl (fun S c => if pairC c ∈ S then S else pairC c :: S) S).length ≤ S.length + l.length := by
    intro l
    induction l with
    | nil => intro S; exact Nat.le_refl _
    | cons a t ih =>
      intro S
      rw [List.foldl_cons]
      have := ih (if pairC a ∈ S then S else pairC a :: S)
      have h2 : (if pairC a ∈ S then S else pairC a :: S).length ≤ S.length + 1 := by split <;> simp
      rw [List.length_cons]
      omega
  have := h l []
  simpa [seenC] using this
def inP (S : List (Int × Int)) (c : Int × Int) : Option Value := if c ∈ S then some (.bool true) else none
theorem next_bound (c : S41) (b : Int) (B : Int) (h0 : -B ≤ c.f0 ∧ c.f0 ≤ B) (h1 : -B ≤ c.f1 ∧ c.f1 ≤ B) (hB : B ≤ 100000) : (-(B + 1) ≤ (nextC c b).f0 ∧ (nextC c b).f0 ≤ B + 1) ∧ (-(B + 1) ≤ (nextC c b).f1 ∧ (nextC c b).f1 ≤ B + 1) := by
  have h := next_some c b
  generalize nextC c b = d at h
  unfold impl_Corner_next.f at h
  have e1 : wrap64 (c.f1 - 1) = c.f1 - 1 := by unfold wrap64; omega
  have e2 : wrap64 (c.f0 + 1) = c.f0 + 1 := by unfold wrap64; omega
  have e3 : wrap64 (c.f1 + 1) = c.f1 + 1 := by unfold wrap64; omega
  have e4 : wrap64 (c.f0 - 1) = c.f0 - 1 := by unfold wrap64; omega
  rw [e1, e2, e3, e4] at h
  clear e1 e2 e3 e4
  repeat' split at h
  all_goals (simp only [Option.some.injEq, Prod.mk.injEq] at h; omega)
theorem walkFrom_bound : ∀ (l : List UInt8) (c : S41) (B : Int), (-B ≤ c.f0 ∧ c.f0 ≤ B) → (-B ≤ c.f1 ∧ c.f1 ≤ B) → B + l.length ≤ 100000 → ∀ d ∈ walkFrom c l, (-(B + l.length) ≤ d.f0 ∧ d.f0 ≤ B + l.length) ∧ (-(B + l.length) ≤ d.f1 ∧ d.f1 ≤ B + l.length)
  | [], c, B, _, _, _, d, hd => by cases hd
  | b :: t, c, B, h0, h1, hB, d, hd => by
    simp only [walkFrom, List.mem_cons, List.length_cons] at hd hB ⊢
    obtain ⟨q0, q1⟩ := next_bound c (b.toNat : Int) B h0 h1 (by omega)
    rcases hd with rfl | hd
    · omega
    · have := walkFrom_bound t (nextC c (b.toNat : Int)) (B + 1) q0 q1 (by omega) d hd
      omega
theorem cornersL_bound (l : List UInt8) (hl : l.length ≤ 1000) : ∀ d ∈ cornersL l, (-1000 ≤ d.f0 ∧ d.f0 ≤ 1000) ∧ (-1000 ≤ d.f1 ∧ d.f1 ≤ 1000) := fun d hd => by
  unfold cornersL at hd
  rcases List.mem_cons.1 hd with rfl | hd
  · simp
  · have := walkFrom_bound l ⟨0, 0⟩ 0 (by simp) (by simp) (by omega) d hd
    omega
def closedW (l : List UInt8) : Bool := (((cornersL l).getD l.length ⟨0, 0⟩).f0 == 0 && ((cornersL l).getD l.length ⟨0, 0⟩).f1 == 0) && decide ((seenC ((cornersL l).take l.length)).length = l.length)
def stepsOnly (s : ByteArray) : Bool := (Lib.trimS s.data.toList stepsB.data.toList).isEmpty
def isLoopB (s : ByteArray) : Bool := (decide (4 ≤ s.size) && decide (s.size ≤ 40)) && (stepsOnly s && closedW s.data.toList)
attribute [local go_sem high] eqA41
attribute [local go_sem] undef in
set_option maxRecDepth 100000 in
set_option maxHeartbeats 8000000 in
theorem isLoop_in (s : ByteArray) (hs4 : 4 ≤ s.size) (hs40 : s.size ≤ 40) (hst : stepsOnly s = true) (w : World) :
    Calls Tryd.prog 11 #[.string s] w fun e w' => e = .returned (.bool (closedW s.data.toList)) ∧ Below w.heap.size w w' := by
  have hmm := @run_makeMap Tryd.prog
  have HW := Aside0.mk (show impl_within.f (s.size : Int) 4 40 = some true from by unfold impl_within.f; rw [if_pos (by omega), decide_eq_true (by omega)])
  have HT := Aside0.mk (show strings_Trim.f s stepsB = some ⟨#[]⟩ from by
    unfold strings_Trim.f
    rw [if_pos ⟨by omega, rfl⟩]
    unfold stepsOnly at hst
    rw [List.isEmpty_iff] at hst
    rw [hst])
  have HK := Aside0.mk (show impl_walk.f s = some (cornersL s.data.toList) from by unfold impl_walk.f; rw [if_pos (by omega)])
  have hlen : (cornersL s.data.toList).length = s.size + 1 := by rw [cornersL_len]; simp
  have hn : s.data.toList.length = s.size := by simp
  have HN := Aside0.mk hn
  unfold closedW
  rw [hn]
  have HBd := Aside0.mk (cornersL_bound s.data.toList (by rw [hn]; omega))
  have H00 : Aside0 ((cornersL s.data.toList).getD 0 ⟨0, 0⟩ = ⟨0, 0⟩) := ⟨rfl⟩
  generalize cornersL s.data.toList = cs at hlen HK HBd H00 ⊢
  have e1 : wrap64 (((s.size + 1 : Nat) : Int) - 1) = (s.size : Int) := by unfold wrap64; omega
  clear hn hst
  go_enter Tryd.func11, Tryd.ntmps11
  go_wp2_with (first
    | (go_at_call 28; refine (impl_within.calls _ _ _ _ _ HW.out).mono ?_; rintro e w1 ⟨rfl, ⟨nd, rfl⟩⟩)
    | (go_at_call 29; refine (strings_Trim.calls s stepsB _ _ HT.out).mono ?_; rintro e w2 ⟨rfl, hb2⟩)
    | (go_at_call 30; refine (impl_walk.calls s _ _ HK.out).mono ?_; rintro e w3 ⟨v, rfl, ho, hb3⟩; obtain ⟨A, c, rfl⟩ := Kd.R_slice ho; have hcap := (Kd.R_reads' ho).2.1; have HO := Aside0.mk ho; clear ho; rw [hlen] at HO hcap ⊢; have hcap2 : (s.size : Int) ≤ (c : Int) := by omega))
  have HB0 : Aside0 (Below w.heap.size w (w3.alloc (.map #[] 0))) := ⟨below_alloc (below_step (below_step (pw_below_drewN (Below.refl _ _) _) hb2) hb3) _⟩
  have HL0 : Aside0 (Kd.R k41 41 (w3.alloc (.map #[] 0)) w.heap.size (fun k => k ≠ w3.heap.size) (.slice A (s.size + 1) c) cs) := ⟨Kd.R_alloc (Kd.R_lower (Kd.R_mono (Kd.R_bound HO.out) (fun k hk => by have := hk.2.2.1; omega)) (by have := (below_step (pw_below_drewN (Below.refl w.heap.size w) nd) hb2).size; omega)) _⟩
  have HM0 : Aside0 (MapIs (w3.alloc (.map #[] 0)) Tryd.prog 41 w3.heap.size 0 cornV (inP [])) := ⟨(MapIs.made w3 Tryd.prog 41 cornV).congr (fun c kl _ => by unfold inP; simp)⟩
  have HW3 : Aside0 (w.heap.size ≤ w3.heap.size) := ⟨by have := (below_step (below_step (pw_below_drewN (Below.refl w.heap.size w) nd) hb2) hb3).size; exact this⟩
  clear HO hb2 hb3 HW HT HK hmm hcap hcap2
  generalize w3.heap.size = bm at HL0 HM0 HW3 ⊢
  generalize w3.alloc (.map #[] 0) = W0 at HB0 HL0 HM0 ⊢
  go_loopg [7, 27] s.size (fun gg _ u27 wr => ∃ i : Nat, i ≤ s.size ∧ s.size - i ≤ gg ∧ u27 = .int .i64 i ∧ Aside0 (MapIs wr Tryd.prog 41 bm (seenC (cs.take i)).length cornV (inP (seenC (cs.take i)))) ∧ Aside0 (Kd.R k41 41 wr w.heap.size (fun k => k ≠ bm) (.slice A (s.size + 1) c) cs) ∧ Aside0 (Below w.heap.size w wr))
  case atStart => exact ⟨0, Nat.zero_le _, by omega, rfl, HM0, HL0, HB0⟩
  case round =>
    clear HM0 HL0 HB0
    obtain ⟨i, hi, hgg, rfl, HM, HL, HB⟩ := hrel
    have hat : ∀ j : Nat, j ≤ s.size → ∃ ad, A = some ad ∧ wr.cell? (ad.add (j * 2)) = some (.int .i64 (cs.getD j ⟨0, 0⟩).f0) ∧ wr.cell? ⟨(ad.add (j * 2)).block, (ad.add (j * 2)).off + 1, none⟩ = some (.int .i64 (cs.getD j ⟨0, 0⟩).f1) := fun j hj => by
      obtain ⟨ad, h1, h2, h3⟩ := at_T41 (Kd.R_reads' HL.out).2.2 (j : Int) (by omega) (by rw [hlen]; omega)
      have hrc : rd_T41 cs (j : Int) = cs.getD j ⟨0, 0⟩ := by unfold rd_T41; rw [Int.toNat_natCast]; rfl
      rw [hrc, Int.toNat_natCast] at h2 h3
      exact ⟨ad, h1, h2, h3⟩
    by_cases hlt : i < s.size
    · have hltz : (i : Int) < (s.size : Int) := by omega
      have hil : i < cs.length := by omega
      obtain ⟨ad, rfl, hy1, hy2⟩ := hat i hi
      have hce : cs.getD i ⟨0, 0⟩ = cs[i] := by rw [List.getD_eq_getElem?_getD, List.getElem?_eq_getElem hil]; rfl
      have hbd := HBd.out cs[i] (List.getElem_mem hil)
      have htk : cs.take (i + 1) = cs.take i ++ [cs[i]] := List.take_succ_eq_append_getElem hil
      have hsn := seenC_snoc (cs.take i) cs[i]
      rw [← htk] at hsn
      rw [hce] at hy1 hy2
      have hlen2 := seenC_len (cs.take i)
      rw [List.length_take] at hlen2
      clear hat hce htk
      generalize cs[i] = ce at hy1 hy2 hbd hsn
      obtain ⟨x, y⟩ := ce
      obtain ⟨wt, hst, hM2, ht⟩ := (HM.out.alloc (.cells #[.int .i64 x, .int .i64 y] 41)).store cornKeyed Tryd.underlying39 (by unfold maxLen; omega) cornV_inj (cornKey x y (i64_wf x (by simp at hbd; omega) (by simp at hbd; omega)) (i64_wf y (by simp at hbd; omega) (by simp at hbd; omega))) (.bool true)
      have hst2 : (Instr.mapUpdate 39 (.map (some bm)) (.agg #[.int .i64 x, .int .i64 y]) (.bool true)).run Tryd.prog (wr.alloc (.cells #[.int .i64 x, .int .i64 y] 41)) = .ok () wt := hst
      have HM2 : Aside0 (MapIs wt Tryd.prog 41 bm (seenC (cs.take (i + 1))).length cornV (inP (seenC (cs.take (i + 1))))) := ⟨by
        rw [hsn]
        by_cases hin : (x, y) ∈ seenC (cs.take i)
        · rw [if_pos (show pairC ⟨x, y⟩ ∈ _ from hin)]
          have e : (inP (seenC (cs.take i)) (x, y)).isSome = true := by unfold inP; rw [if_pos hin]; rfl
          rw [e, if_pos rfl] at hM2
          exact hM2.congr (fun a kl _ => by unfold inP; by_cases ha : a = (x, y) <;> simp [ha, hin])
        · rw [if_neg (show ¬ pairC ⟨x, y⟩ ∈ _ from hin)]
          have e : (inP (seenC (cs.take i)) (x, y)).isSome = false := by unfold inP; rw [if_neg hin]; rfl
          rw [e, if_neg (by simp)] at hM2
          exact hM2.congr (fun a kl _ => by unfold inP pairC; by_cases ha : a = (x, y) <;> by_cases hb : a ∈ seenC (cs.take i) <;> simp [ha, hb])⟩
      have HL2 : Aside0 (Kd.R k41 41 wt w.heap.size (fun k => k ≠ bm) (.slice (some ad) (s.size + 1) c) cs) := ⟨Kd.R_grown (Kd.R_alloc HL.out _) ht.grown (fun k hk e => hk (by cases e; rfl))⟩
      have HB2 : Aside0 (Below w.heap.size w wt) := ⟨((FrameBut.of_below (O := fun k => k = bm) (below_alloc HB.out (.cells #[.int .i64 x, .int .i64 y] 41))).turned ht (.inl rfl)).toBelow (Nat.le_refl _) (fun k hk e => by have := HW3.out; omega)⟩
      clear hst hM2 ht HM HL HB hbd hsn hlen2
      go_wp2_with fail
      go_roundg (s.size - (i + 1))
      case measure => omega
      case rel => exact ⟨i + 1, by omega, by omega, by go_num, HM2, HL2, HB2⟩
    · have hltz : ¬ (i : Int) < (s.size : Int) := by omega
      have hie : i = s.size := by omega
      obtain ⟨ad, rfl, hy1, hy2⟩ := hat s.size (Nat.le_refl _)
      obtain ⟨ad', he', hz1, hz2⟩ := hat 0 (Nat.zero_le _)
      cases he'
      have hadd0 : ad.add (0 * 2) = ad := by cases ad; rfl
      rw [H00.out, hadd0] at hz1 hz2
      have HMd := HM.out.below (below_drew (Below.refl wr.heap.size wr))
      have hlm := fun ty => HMd.len Tryd.underlying39 ty
      have hlm0 := fun ty => HM.out.len Tryd.underlying39 ty
      rw [hie]
      generalize hcz : cs.getD s.size ⟨0, 0⟩ = cz at hy1 hy2
      have HCZ := Aside0.mk hcz
      clear hcz
      obtain ⟨x, y⟩ := cz
      have hix : (s.size : Int) < (s.size : Int) + 1 := by omega
      have hy1d : wr.drew.cell? (ad.add (s.size * 2)) = some (.int .i64 x) := hy1
      have hy2d : wr.drew.cell? ⟨(ad.add (s.size * 2)).block, (ad.add (s.size * 2)).off + 1, none⟩ = some (.int .i64 y) := hy2
      have hz1d : wr.drew.cell? ad = some (.int .i64 0) := hz1
      have hz2d : wr.drew.cell? ⟨ad.block, ad.off + 1, none⟩ = some (.int .i64 0) := hz2
      clear hat HM HMd
      cases hx : (x == 0 && y == 0) with
      | true =>
        go_wp2_with fail
        first | go_region_law (fail) | fail
        all_goals
          go_wp2_with fail
          go_ret
          refine ⟨congrArg (fun b => Ending.returned (.bool b)) ?_, below_drew HB.out⟩
          have hx2 : ((⟨x, y⟩ : S41).f0 == 0 && (⟨x, y⟩ : S41).f1 == 0) = true := hx
          rw [HCZ.out, hx2, Bool.true_and, Bool.eq_iff_iff, beq_iff_eq, decide_eq_true_iff]
          exact ⟨fun h => by omega, fun h => by omega⟩
      | false =>
        go_wp2_with fail
        first | go_region_law (fail) | fail
        all_goals
          go_wp2_with fail
          go_ret
          refine ⟨congrArg (fun b => Ending.returned (.bool b)) ?_, below_drew HB.out⟩
          have hx2 : ((⟨x, y⟩ : S41).f0 == 0 && (⟨x, y⟩ : S41).f1 == 0) = false := hx
          rw [HCZ.out, hx2, Bool.false_and]
set_option maxRecDepth 100000 in
theorem isLoop_out (s : ByteArray) (hs : ¬ (4 ≤ s.size ∧ s.size ≤ 40)) (w : World) : Calls Tryd.prog 11 #[.string s] w fun e w' => e = .returned (.bool false) ∧ Below w.heap.size w w' := by
  have HW := Aside0.mk (show impl_within.f (s.size : Int) 4 40 = some false from by
    unfold impl_within.f
    by_cases h : (4 : Int) ≤ (s.size : Int)
    · rw [if_pos h, decide_eq_false (by omega)]
    · rw [if_neg h])
  clear hs
  go_enter Tryd.func11, Tryd.ntmps11
  go_wp2_with (first
    | (go_at_call 28; refine (impl_within.calls _ _ _ _ _ HW.out).mono ?_; rintro e w1 ⟨rfl, ⟨nd, rfl⟩⟩))
  go_ret
  exact ⟨rfl, pw_below_drewN (Below.refl _ _) _⟩
set_option maxRecDepth 100000 in
theorem isLoop_not (s : ByteArray) (hs4 : 4 ≤ s.size) (hs40 : s.size ≤ 40) (hst : stepsOnly s = false) (w : World) : Calls Tryd.prog 11 #[.string s] w fun e w' => e = .returned (.bool false) ∧ Below w.heap.size w w' := by
  have HW := Aside0.mk (show impl_within.f (s.size : Int) 4 40 = some true from by unfold impl_within.f; rw [if_pos (by omega), decide_eq_true (by omega)])
  have HT := Aside0.mk (show strings_Trim.f s stepsB = some ⟨(Lib.trimS s.data.toList stepsB.data.toList).toArray⟩ from by unfold strings_Trim.f; rw [if_pos ⟨by omega, rfl⟩])
  unfold stepsOnly at hst
  generalize Lib.trimS s.data.toList stepsB.data.toList = t at HT hst
  cases t with
  | nil => cases hst
  | cons a t =>
    clear hst
    have hemp : (⟨(a :: t).toArray⟩ : ByteArray).toList.isEmpty = false := by rw [Lib.toList_data]; simp
    generalize (⟨(a :: t).toArray⟩ : ByteArray) = r at HT hemp
    go_enter Tryd.func11, Tryd.ntmps11
    go_wp2_with (first
      | (go_at_call 28; refine (impl_within.calls _ _ _ _ _ HW.out).mono ?_; rintro e w1 ⟨rfl, ⟨nd, rfl⟩⟩)
      | (go_at_call 29; refine (strings_Trim.calls s stepsB _ _ HT.out).mono ?_; rintro e w2 ⟨rfl, hb2⟩))
    go_ret
    exact ⟨by first | rfl | simp, below_step (pw_below_drewN (Below.refl _ _) _) hb2⟩
def impl_IsLoop.f (a0 : ByteArray) : Option Bool := some (isLoopB a0)
theorem impl_IsLoop.calls (a0 : ByteArray) (r : Bool) (w : World) (h : impl_IsLoop.f a0 = some r) :
    Calls Tryd.prog 11 #[.string a0] w fun e w' => e = .returned (.bool r) ∧ Below w.heap.size w w' := by
  obtain rfl := Option.some.inj h
  unfold isLoopB
  by_cases h1 : 4 ≤ a0.size ∧ a0.size ≤ 40
  · rw [decide_eq_true h1.1, decide_eq_true h1.2]
    cases h2 : stepsOnly a0 with
    | true => exact isLoop_in a0 h1.1 h1.2 h2 w
    | false => exact isLoop_not a0 h1.1 h1.2 h2 w
  · have e : (decide (4 ≤ a0.size) && decide (a0.size ≤ 40)) = false := by
      rw [Bool.eq_false_iff]; intro h; rw [Bool.and_eq_true, decide_eq_true_iff, decide_eq_true_iff] at h; exact h1 h
    rw [e]
    exact isLoop_out a0 h1 w

end Go.Proofs.YtbnkdfmomcmmaaaDoor.P


namespace Go.Proofs.YtbnkdfmomcmmaaaDoor.P
open Go.RowKit Go.Proofs.YtbnkdfmomcmmaaaDoorW.PrintWords Go.Proofs.YtbnkdfmomcmmaaaDoorW.PrintLast Go.Proofs.YtbnkdfmomcmmaaaDoorW.PrintMore
attribute [local go_sem] max2_int min2_int max_two min_two max_three min_three max_four min_four   -- for this text's walks alone
set_option linter.unusedVariables false
set_option linter.unusedSimpArgs false

def laws_FnExactIsLoop.f (k : Nat) (a0 : ByteArray) : Option (Bool) := if (a0.size : Int) > 1000000 then (some true) else ((spec_IsLoop.f k a0).bind fun t132 => ((impl_IsLoop.f a0).bind fun t133 => (if (t133 != t132) = true then (some false) else (some true))))
theorem laws_FnExactIsLoop.mono : ∀ a0 k, LeO (laws_FnExactIsLoop.f k a0) (laws_FnExactIsLoop.f (k + 1) a0) := by
  intro a0 k
  unfold laws_FnExactIsLoop.f
  repeat' first
      | (with_reducible exact spec_IsLoop.mono _ _)
      | (with_reducible exact LeO.refl _)
      | (with_reducible exact LeO.none _)
      | (with_reducible refine LeO.ite ?_ ?_)
      | (with_reducible refine LeO.bind ?_ (fun _ => ?_))
      | exact spec_IsLoop.mono _ _
      | exact LeO.none _
      | refine LeO.ite ?_ ?_
      | refine LeO.bind ?_ (fun _ => ?_)
set_option maxHeartbeats 8000000 in
set_option maxRecDepth 100000 in
theorem laws_FnExactIsLoop.calls (k : Nat) (a0 : ByteArray) (r : Bool) (w : World) (h : laws_FnExactIsLoop.f k a0 = some r) :
    Calls Tryd.prog 3 #[.string a0] w fun e w' => e = .returned (.bool r) ∧ Below w.heap.size w w' := by
  have HB := Aside0.mk (Below.refl w.heap.size w)
  have H : (if (a0.size : Int) > 1000000 then (some true) else ((spec_IsLoop.f k a0).bind fun t132 => ((impl_IsLoop.f a0).bind fun t133 => (if (t133 != t132) = true then (some false) else (some true))))) = some r := h
  clear h
  by_cases c2 : (a0.size : Int) > 1000000
  · rw [if_pos c2] at H
    have c2b0 : decide (1000000 < (a0.size : Int)) = true := decide_eq_true c2
    have c2b1 : decide (1000000 < a0.size) = true := decide_eq_true (by omega)
    clear c2
    obtain rfl := Option.some.inj H
    go_enter Tryd.func3, Tryd.ntmps3
    go_wp2
    go_ret
    exact ⟨by first | rfl | (simp [errW_none, errW_some] <;> rfl) | (simp [*, errW_none, errW_some] <;> rfl), by repeat (first | (with_reducible first | exact HB.out | apply below_alloc | apply pw_below_drewN | apply below_drew1) | exact HB.out)⟩
  · rw [if_neg c2] at H
    have c2b0 : decide (1000000 < (a0.size : Int)) = false := decide_eq_false c2
    have c2b1 : decide (1000000 < a0.size) = false := decide_eq_false (by omega)
    clear c2
    replace H := Option.bind_eq_some_iff.mp H
    obtain ⟨t132, A30, H⟩ := H
    replace H : ((impl_IsLoop.f a0).bind fun t133 => (if (t133 != t132) = true then (some false) else (some true))) = some r := H
    have A3 := Aside0.mk A30
    clear A30
    replace H := Option.bind_eq_some_iff.mp H
    obtain ⟨t133, A40, H⟩ := H
    replace H : (if (t133 != t132) = true then (some false) else (some true)) = some r := H
    have A4 := Aside0.mk A40
    clear A40
    by_cases c5 : (t133 != t132) = true
    · rw [if_pos c5] at H
      have c5b0 : (t133 != t132) = true := c5
      (try (have c5b1 : decide (t133 = t132) = false := by simpa using c5))
      (try (have c5b2 : (t133 == t132) = false := by simpa using c5))
      (try (have c5b3 : ¬ (t133 = t132) := by simpa using c5))
      clear c5
      obtain rfl := Option.some.inj H
      go_enter Tryd.func3, Tryd.ntmps3
      go_wp2_with (first | ((with_reducible refine gate_callee (f := 10) rfl ?_); refine goesL_ (some 9) rfl rfl Tryd.func10 (by kernel_rfl) rfl #[.string a0] rfl (by (try simp only [List.map_toArray, List.map_cons, List.map_nil]); first | done | rfl | (simp only [List.length_drop, List.length_take]; rfl)) ?_; (with_reducible refine (spec_IsLoop.calls k a0 t132 _ A3.out).mono ?_); rintro e w6 ⟨rfl, hb⟩; refine ⟨_, rfl, ?_⟩; have n0_ := Aside0.mk (below_step (by repeat (first | (with_reducible first | exact HB.out | apply below_alloc | apply pw_below_drewN | apply below_drew1) | exact HB.out)) hb); clear HB; have HB := n0_; clear n0_; (try clear hb); (try clear hb2); (try clear hk); (try clear hi)) | ((with_reducible refine gate_callee (f := 11) rfl ?_); refine goesL_ (some 11) rfl rfl Tryd.func11 (by kernel_rfl) rfl #[.string a0] rfl (by (try simp only [List.map_toArray, List.map_cons, List.map_nil]); first | done | rfl | (simp only [List.length_drop, List.length_take]; rfl)) ?_; (with_reducible refine (impl_IsLoop.calls a0 t133 _ A4.out).mono ?_); rintro e w7 ⟨rfl, hb⟩; refine ⟨_, rfl, ?_⟩; have n0_ := Aside0.mk (below_step (by repeat (first | (with_reducible first | exact HB.out | apply below_alloc | apply pw_below_drewN | apply below_drew1) | exact HB.out)) hb); clear HB; have HB := n0_; clear n0_; (try clear hb); (try clear hb2); (try clear hk); (try clear hi)))
      go_ret
      exact ⟨by first | rfl | (simp [errW_none, errW_some] <;> rfl) | (simp [*, errW_none, errW_some] <;> rfl), by repeat (first | (with_reducible first | exact HB.out | apply below_alloc | apply pw_below_drewN | apply below_drew1) | exact HB.out)⟩
    · rw [if_neg c5] at H
      have c5b0 : (t133 != t132) = false := by simpa using c5
      (try (have c5b1 : decide (t133 = t132) = true := by simpa using c5))
      (try (have c5b2 : (t133 == t132) = true := by simpa using c5))
      clear c5
      obtain rfl := Option.some.inj H
      go_enter Tryd.func3, Tryd.ntmps3
      go_wp2_with (first | ((with_reducible refine gate_callee (f := 10) rfl ?_); refine goesL_ (some 9) rfl rfl Tryd.func10 (by kernel_rfl) rfl #[.string a0] rfl (by (try simp only [List.map_toArray, List.map_cons, List.map_nil]); first | done | rfl | (simp only [List.length_drop, List.length_take]; rfl)) ?_; (with_reducible refine (spec_IsLoop.calls k a0 t132 _ A3.out).mono ?_); rintro e w8 ⟨rfl, hb⟩; refine ⟨_, rfl, ?_⟩; have n0_ := Aside0.mk (below_step (by repeat (first | (with_reducible first | exact HB.out | apply below_alloc | apply pw_below_drewN | apply below_drew1) | exact HB.out)) hb); clear HB; have HB := n0_; clear n0_; (try clear hb); (try clear hb2); (try clear hk); (try clear hi)) | ((with_reducible refine gate_callee (f := 11) rfl ?_); refine goesL_ (some 11) rfl rfl Tryd.func11 (by kernel_rfl) rfl #[.string a0] rfl (by (try simp only [List.map_toArray, List.map_cons, List.map_nil]); first | done | rfl | (simp only [List.length_drop, List.length_take]; rfl)) ?_; (with_reducible refine (impl_IsLoop.calls a0 t133 _ A4.out).mono ?_); rintro e w9 ⟨rfl, hb⟩; refine ⟨_, rfl, ?_⟩; have n0_ := Aside0.mk (below_step (by repeat (first | (with_reducible first | exact HB.out | apply below_alloc | apply pw_below_drewN | apply below_drew1) | exact HB.out)) hb); clear HB; have HB := n0_; clear n0_; (try clear hb); (try clear hb2); (try clear hk); (try clear hi)))
      go_ret
      exact ⟨by first | rfl | (simp [errW_none, errW_some] <;> rfl) | (simp [*, errW_none, errW_some] <;> rfl), by repeat (first | (with_reducible first | exact HB.out | apply below_alloc | apply pw_below_drewN | apply below_drew1) | exact HB.out)⟩

def laws_FnExactIsLoop.Pure : Prop := ∀ (a0 : ByteArray), a0.size ≤ 140737488351232 → ∃ k, laws_FnExactIsLoop.f k a0 = some true
theorem laws_FnExactIsLoop.walk (P : laws_FnExactIsLoop.Pure) (a0 : ByteArray) (w : World) (w0 : a0.size ≤ 140737488351232) :
    Calls Tryd.prog 3 #[.string a0] w fun e w' => e = .returned (.bool true) ∧ Below w.heap.size w w' := by
  obtain ⟨k, h⟩ := P a0 w0
  refine (laws_FnExactIsLoop.calls k a0 true w h).mono ?_
  rintro e w' ⟨rfl, hd⟩
  exact ⟨rfl, hd⟩

end Go.Proofs.YtbnkdfmomcmmaaaDoor.P


namespace Go.Proofs.YtbnkdfmomcmmaaaDoor.P
open Go.RowKit Go.Proofs.YtbnkdfmomcmmaaaDoorW.PrintWords Go.Proofs.YtbnkdfmomcmmaaaDoorW.PrintLast Go.Proofs.YtbnkdfmomcmmaaaDoorW.PrintMore
attribute [local go_sem] max2_int min2_int max_two min_two max_three min_three max_four min_four   -- for this text's walks alone
set_option linter.unusedVariables false
set_option linter.unusedSimpArgs false

def stepBW (b : UInt8) : Bool := b == 110 || b == 101 || b == 115 || b == 119
theorem dropWhile_head {α : Type} {p : α → Bool} : ∀ {l : List α} {a : α} {t : List α}, l.dropWhile p = a :: t → p a = false
  | [], a, t, h => by simp at h
  | b :: l, a, t, h => by
    rw [List.dropWhile_cons] at h
    split at h
    · exact dropWhile_head h
    · rename_i hb
      injection h with h1 _
      subst h1
      simpa using hb
theorem dropWhile_nil {α : Type} {p : α → Bool} : ∀ {l : List α}, l.dropWhile p = [] ↔ ∀ x ∈ l, p x = true
  | [] => by simp
  | b :: l => by
    rw [List.dropWhile_cons]
    cases hb : p b with
    | true =>
      rw [if_pos rfl, dropWhile_nil]
      constructor
      · intro h x hx
        rcases List.mem_cons.1 hx with rfl | hx
        · exact hb
        · exact h x hx
      · intro h x hx
        exact h x (List.mem_cons_of_mem _ hx)
    | false =>
      rw [if_neg (by simp)]
      constructor
      · intro h; cases h
      · intro h
        have := h b List.mem_cons_self
        rw [hb] at this
        cases this
theorem trim_nil (l cs : List UInt8) : (Lib.trimS l cs).isEmpty = l.all fun b => cs.contains b := by
  unfold Lib.trimS Lib.trimLeftS Lib.trimRightS
  rw [Bool.eq_iff_iff, List.isEmpty_iff, List.all_eq_true]
  constructor
  · intro h x hx
    rw [dropWhile_nil] at h
    cases hr : l.reverse.dropWhile (cs.contains ·) with
    | nil =>
      rw [dropWhile_nil] at hr
      exact hr x (List.mem_reverse.2 hx)
    | cons a t =>
      have h1 := dropWhile_head hr
      have h2 := h a (by rw [hr]; simp)
      rw [h1] at h2
      cases h2
  · intro h
    have hr : l.reverse.dropWhile (cs.contains ·) = [] := by
      rw [dropWhile_nil]
      intro x hx
      exact h x (List.mem_reverse.1 hx)
    rw [hr]
    rfl
theorem stepsOnly_all (s : ByteArray) : stepsOnly s = s.data.toList.all stepBW := by
  unfold stepsOnly
  rw [trim_nil]
  congr 1
  funext b
  unfold stepBW stepsB
  simp only [List.contains_cons, List.contains_nil]
  cases (b == 110) <;> cases (b == 101) <;> cases (b == 115) <;> cases (b == 119) <;> rfl
def dirN (b : Int) : Int := if b = 110 then 0 else if b = 101 then 1 else if b = 115 then 2 else if b = 119 then 3 else -1
theorem loDir_f (b : Int) (k : Nat) (hk : 10 < k) : spec_loDir.f k b = some (dirN b) := by
  obtain ⟨k, rfl⟩ : ∃ q, k = q + 5 := ⟨k - 5, by omega⟩
  have w0 : wrap64 (0 + 1) = 1 := by unfold wrap64; omega
  have w1 : wrap64 (1 + 1) = 2 := by unfold wrap64; omega
  have w2 : wrap64 (2 + 1) = 3 := by unfold wrap64; omega
  have w3 : wrap64 (3 + 1) = 4 := by unfold wrap64; omega
  have hs : ((⟨#[110, 101, 115, 119]⟩ : ByteArray).size : Int) = 4 := rfl
  have b0 : bt (⟨#[110, 101, 115, 119]⟩ : ByteArray) 0 = 110 := by decide
  have b1 : bt (⟨#[110, 101, 115, 119]⟩ : ByteArray) 1 = 101 := by decide
  have b2 : bt (⟨#[110, 101, 115, 119]⟩ : ByteArray) 2 = 115 := by decide
  have b3 : bt (⟨#[110, 101, 115, 119]⟩ : ByteArray) 3 = 119 := by decide
  unfold spec_loDir.f dirN
  simp only [spec_loDir.l0, spec_liDirs.f, Option.bind_some, w0, w1, w2, w3, hs, b0, b1, b2, b3]
  by_cases h0 : b = 110
  · subst h0; simp
  · by_cases h1 : b = 101
    · subst h1; simp
    · by_cases h2 : b = 115
      · subst h2; simp
      · by_cases h3 : b = 119
        · subst h3; simp
        · simp [h0, h1, h2, h3, Ne.symm h0, Ne.symm h1, Ne.symm h2, Ne.symm h3]
theorem byte_eq (b c : UInt8) : ((b.toNat : Int) = (c.toNat : Int)) ↔ b = c := ⟨fun h => UInt8.toNat_inj.1 (by exact_mod_cast h), fun h => by rw [h]⟩
theorem dir_step (b : UInt8) : stepBW b = true ↔ ¬ dirN (b.toNat : Int) < 0 := by
  have h0 : ((b.toNat : Int) = 110) ↔ b = 110 := byte_eq b 110
  have h1 : ((b.toNat : Int) = 101) ↔ b = 101 := byte_eq b 101
  have h2 : ((b.toNat : Int) = 115) ↔ b = 115 := byte_eq b 115
  have h3 : ((b.toNat : Int) = 119) ↔ b = 119 := byte_eq b 119
  unfold stepBW dirN
  simp only [h0, h1, h2, h3, Bool.or_eq_true, beq_iff_eq]
  by_cases q0 : b = 110
  · simp [q0]
  · by_cases q1 : b = 101
    · simp [q1]
    · by_cases q2 : b = 115
      · simp [q2]
      · by_cases q3 : b = 119
        · simp [q3]
        · simp [q0, q1, q2, q3]
theorem loStepW_f (x y : Int) (b : UInt8) (hb : stepBW b = true) (hx : -1000 ≤ x ∧ x ≤ 1000) (hy : -1000 ≤ y ∧ y ≤ 1000) : spec_loStep.f x y (dirN (b.toNat : Int)) = some ((nextC ⟨x, y⟩ (b.toNat : Int)).f0, (nextC ⟨x, y⟩ (b.toNat : Int)).f1) := by
  have r0 : rd ([0, 1, 0, -1] : List Int) 0 = 0 := rfl
  have r1 : rd ([0, 1, 0, -1] : List Int) 1 = 1 := rfl
  have r2 : rd ([0, 1, 0, -1] : List Int) 2 = 0 := rfl
  have r3 : rd ([0, 1, 0, -1] : List Int) 3 = -1 := rfl
  have q0 : rd ([-1, 0, 1, 0] : List Int) 0 = -1 := rfl
  have q1 : rd ([-1, 0, 1, 0] : List Int) 1 = 0 := rfl
  have q2 : rd ([-1, 0, 1, 0] : List Int) 2 = 1 := rfl
  have q3 : rd ([-1, 0, 1, 0] : List Int) 3 = 0 := rfl
  have e0 : wrap64 x = x := by unfold wrap64; omega
  have e1 : wrap64 (x + 1) = x + 1 := by unfold wrap64; omega
  have e2 : wrap64 (x + -1) = x - 1 := by unfold wrap64; omega
  have e3 : wrap64 (x - 1) = x - 1 := by unfold wrap64; omega
  have f0 : wrap64 y = y := by unfold wrap64; omega
  have f1 : wrap64 (y + 1) = y + 1 := by unfold wrap64; omega
  have f2 : wrap64 (y + -1) = y - 1 := by unfold wrap64; omega
  have f3 : wrap64 (y - 1) = y - 1 := by unfold wrap64; omega
  unfold nextC impl_Corner_next.f spec_loStep.f
  unfold stepBW at hb
  simp only [Bool.or_eq_true, beq_iff_eq] at hb
  rcases hb with ((rfl | rfl) | rfl) | rfl
  · have hd : dirN ((110 : UInt8).toNat : Int) = 0 := by decide
    rw [hd]
    simp [r0, q0, e0, f2, f3]
  · have hd : dirN ((101 : UInt8).toNat : Int) = 1 := by decide
    rw [hd]
    simp [r1, q1, e1, f0]
  · have hd : dirN ((115 : UInt8).toNat : Int) = 2 := by decide
    rw [hd]
    simp [r2, q2, e0, f1]
  · have hd : dirN ((119 : UInt8).toNat : Int) = 3 := by decide
    rw [hd]
    simp [r3, q3, e2, e3, f0]
theorem liHas_l0 (l : List S41) (x y : Int) (hl : l.length ≤ 1000) : ∀ (d k i : Nat), l.length - i = d → i ≤ l.length → d < k → spec_liHas.l0 k l (l.length : Int) (i : Int) x y = some (decide ((x, y) ∈ (l.drop i).map pairC)) := by
  intro d
  induction d with
  | zero =>
    intro k i h1 h2 h3
    obtain ⟨k, rfl⟩ : ∃ q, k = q + 1 := ⟨k - 1, by omega⟩
    simp only [spec_liHas.l0]
    rw [if_neg (by omega), List.drop_of_length_le (by omega)]
    rfl
  | succ d ih =>
    intro k i h1 h2 h3
    obtain ⟨k, rfl⟩ : ∃ q, k = q + 1 := ⟨k - 1, by omega⟩
    have hi : i < l.length := by omega
    have e1 : wrap64 ((i : Int) + 1) = ((i + 1 : Nat) : Int) := by unfold wrap64; omega
    have hrd : rd_T41 l (i : Int) = l[i] := by unfold rd_T41; rw [Int.toNat_natCast, List.getD_eq_getElem?_getD, List.getElem?_eq_getElem hi]; rfl
    simp only [spec_liHas.l0]
    rw [if_pos (by omega), if_pos (by omega), if_pos (by omega), hrd, e1, ih k (i + 1) (by omega) (by omega) (by omega), List.drop_eq_getElem_cons hi, List.map_cons]
    by_cases hq : (l[i].f0 == x && (l[i].f1 == y)) = true
    · rw [if_pos hq]
      rw [Bool.and_eq_true, beq_iff_eq, beq_iff_eq] at hq
      have : (x, y) = pairC l[i] := by unfold pairC; rw [hq.1, hq.2]
      rw [this]
      simp
    · rw [if_neg hq]
      have : ¬ (x, y) = pairC l[i] := fun h => hq (by
        unfold pairC at h
        rw [Prod.mk.injEq] at h
        rw [← h.1, ← h.2]; simp)
      congr 1
      rw [decide_eq_decide, List.mem_cons]
      exact ⟨fun h => .inr h, fun h => h.resolve_left this⟩
theorem liHas_f (l : List S41) (x y : Int) (hl : l.length ≤ 1000) (k : Nat) (hk : l.length < k) : spec_liHas.f k l x y = some (decide ((x, y) ∈ l.map pairC)) := by
  unfold spec_liHas.f
  have := liHas_l0 l x y hl l.length k 0 (by omega) (by omega) hk
  rw [List.drop_zero] at this
  exact this
theorem seenC_mem : ∀ (l : List S41) (c : Int × Int), c ∈ seenC l ↔ c ∈ l.map pairC := by
  intro l
  have key : ∀ (l : List S41) (S : List (Int × Int)) (c : Int × Int), c ∈ l.foldl (fun S c => if pairC c ∈ S then S else pairC c :: S) S ↔ c ∈ S ∨ c ∈ l.map pairC := by
    intro l
    induction l with
    | nil => intro S c; simp
    | cons a t ih =>
      intro S c
      rw [List.foldl_cons, ih, List.map_cons, List.mem_cons]
      by_cases ha : pairC a ∈ S
      · rw [if_pos ha]
        constructor
        · rintro (h | h)
          · exact .inl h
          · exact .inr (.inr h)
        · rintro (h | rfl | h)
          · exact .inl h
          · exact .inl ha
          · exact .inr h
      · rw [if_neg ha, List.mem_cons]
        constructor
        · rintro ((h | h) | h)
          · exact .inr (.inl h)
          · exact .inl h
          · exact .inr (.inr h)
        · rintro (h | h | h)
          · exact .inl (.inr h)
          · exact .inl (.inl h)
          · exact .inr h
  intro c
  have := key l [] c
  simpa [seenC] using this
theorem seenC_app (l m : List S41) : (seenC (l ++ m)).length ≤ (seenC l).length + m.length := by
  have key : ∀ (m : List S41) (S : List (Int × Int)), (m.foldl (fun S c => if pairC c ∈ S then S else pairC c :: S) S).length ≤ S.length + m.length := by
    intro m
    induction m with
    | nil => intro S; exact Nat.le_refl _
    | cons a t ih =>
      intro S
      rw [List.foldl_cons]
      have h1 := ih (if pairC a ∈ S then S else pairC a :: S)
      have h2 : (if pairC a ∈ S then S else pairC a :: S).length ≤ S.length + 1 := by split <;> simp
      rw [List.length_cons]
      omega
  unfold seenC
  rw [List.foldl_append]
  exact key m _
theorem walk_at : ∀ (l : List UInt8) (c : S41) (i : Nat) (hi : i < l.length), (c :: walkFrom c l).getD (i + 1) ⟨0, 0⟩ = nextC ((c :: walkFrom c l).getD i ⟨0, 0⟩) ((l[i].toNat : Nat) : Int)
  | [], _, _, hi => absurd hi (by simp)
  | b :: t, c, 0, _ => rfl
  | b :: t, c, i + 1, hi => by
    have ih := walk_at t (nextC c (b.toNat : Int)) i (by simp at hi; omega)
    simp only [walkFrom, List.getD_cons_succ, List.getElem_cons_succ] at ih ⊢
    exact ih
theorem loCorners_l0 (s : ByteArray) (l : List UInt8) (hl : l = s.data.toList) (hn : l.length ≤ 40) : ∀ (d k i : Nat), l.length - i = d → i ≤ l.length → d + 100 < k → (∀ b ∈ l.take i, stepBW b = true) → (seenC ((cornersL l).take i)).length = i →
    ∃ L, spec_loCorners.l0 k s ((cornersL l).take i) (i : Int) ((cornersL l).getD i ⟨0, 0⟩).f0 ((cornersL l).getD i ⟨0, 0⟩).f1 = some (L, l.all stepBW && closedW l) := by
  have hsz : s.size = l.length := by rw [hl]; simp
  have hcl := cornersL_len l
  intro d
  induction d with
  | zero =>
    intro k i h1 h2 h3 h4 h5
    obtain ⟨k, rfl⟩ : ∃ q, k = q + 1 := ⟨k - 1, by omega⟩
    obtain rfl : i = l.length := by omega
    refine ⟨(cornersL l).take l.length, ?_⟩
    simp only [spec_loCorners.l0]
    rw [if_neg (by omega)]
    have ha : l.all stepBW = true := by
      rw [List.all_eq_true]
      intro b hb
      exact h4 b (by rw [List.take_length]; exact hb)
    unfold closedW
    rw [ha, h5, Bool.true_and, decide_eq_true rfl, Bool.and_true]
  | succ d ih =>
    intro k i h1 h2 h3 h4 h5
    obtain ⟨k, rfl⟩ : ∃ q, k = q + 1 := ⟨k - 1, by omega⟩
    have hi : i < l.length := by omega
    have e1 : wrap64 ((i : Int) + 1) = ((i + 1 : Nat) : Int) := by unfold wrap64; omega
    have hbt : bt s (i : Int) = ((l[i].toNat : Nat) : Int) := by
      subst hl
      unfold bt
      rw [Int.toNat_natCast, dif_pos (by omega)]
      rfl
    have htl : ((cornersL l).take i).length = i := by rw [List.length_take, hcl]; omega
    have hci : i < (cornersL l).length := by omega
    have hgd : (cornersL l).getD i ⟨0, 0⟩ = (cornersL l)[i] := by rw [List.getD_eq_getElem?_getD, List.getElem?_eq_getElem hci]; rfl
    have hbd := cornersL_bound l (by omega) (cornersL l)[i] (List.getElem_mem hci)
    have htk : (cornersL l).take (i + 1) = (cornersL l).take i ++ [(cornersL l)[i]] := List.take_succ_eq_append_getElem hci
    have hsn := seenC_snoc ((cornersL l).take i) (cornersL l)[i]
    rw [← htk] at hsn
    simp only [spec_loCorners.l0]
    rw [if_pos (by omega), if_pos (by omega), hbt, loDir_f _ k (by omega), Option.bind_some]
    cases hst : stepBW l[i] with
    | false =>
      have hd : dirN ((l[i].toNat : Nat) : Int) < 0 := by
        by_cases h : dirN ((l[i].toNat : Nat) : Int) < 0
        · exact h
        · have := (dir_step l[i]).2 (by omega)
          rw [hst] at this; cases this
      have ha : l.all stepBW = false := by
        rw [List.all_eq_false]
        exact ⟨l[i], List.getElem_mem hi, by rw [hst]; simp⟩
      rw [if_pos hd, ha]
      exact ⟨_, rfl⟩
    | true =>
      rw [if_neg ((dir_step l[i]).1 hst), liHas_f _ _ _ (by omega) k (by omega), Option.bind_some, hgd]
      by_cases hin : ((cornersL l)[i].f0, (cornersL l)[i].f1) ∈ ((cornersL l).take i).map pairC
      · rw [decide_eq_true hin, if_pos rfl]
        have hin2 : pairC (cornersL l)[i] ∈ seenC ((cornersL l).take i) := (seenC_mem _ _).2 hin
        rw [if_pos hin2] at hsn
        have happ := seenC_app ((cornersL l).take (i + 1)) (((cornersL l).take l.length).drop (i + 1))
        have hcat : (cornersL l).take (i + 1) ++ ((cornersL l).take l.length).drop (i + 1) = (cornersL l).take l.length := by
          have := List.take_append_drop (i + 1) ((cornersL l).take l.length)
          rw [List.take_take, Nat.min_eq_left (by omega)] at this
          exact this
        rw [hcat, hsn, h5, List.length_drop, List.length_take, hcl, Nat.min_eq_left (by omega)] at happ
        have hc : closedW l = false := by
          unfold closedW
          rw [decide_eq_false (by omega), Bool.and_false]
        rw [hc, Bool.and_false]
        exact ⟨_, rfl⟩
      · rw [decide_eq_false hin, if_neg (by simp), if_pos (by rw [htl]; omega), loStepW_f _ _ l[i] hst hbd.1 hbd.2, Option.bind_some, e1]
        have hin2 : ¬ pairC (cornersL l)[i] ∈ seenC ((cornersL l).take i) := fun h => hin ((seenC_mem _ _).1 h)
        rw [if_neg hin2] at hsn
        have hnx : (cornersL l).getD (i + 1) ⟨0, 0⟩ = nextC (cornersL l)[i] ((l[i].toNat : Nat) : Int) := by
          have h9 := walk_at l ⟨0, 0⟩ i hi
          rw [← hgd]
          exact h9
        have := ih k (i + 1) (by omega) (by omega) (by omega) (fun b hb => by
          rw [List.take_succ_eq_append_getElem hi, List.mem_append, List.mem_singleton] at hb
          rcases hb with hb | rfl
          · exact h4 b hb
          · exact hst) (by rw [hsn, List.length_cons, h5])
        rw [hnx, htk] at this
        exact this
theorem spec_IsLoop_f (s : ByteArray) (k : Nat) (hk : 1000 < k) : spec_IsLoop.f k s = some (isLoopB s) := by
  unfold spec_IsLoop.f spec_loCorners.f isLoopB spec_l1In.f
  by_cases h1 : 4 ≤ s.size ∧ s.size ≤ 40
  · have hl : s.data.toList.length = s.size := by simp
    obtain ⟨L, hL⟩ := loCorners_l0 s s.data.toList rfl (by omega) s.size k 0 (by omega) (by omega) (by omega) (fun b hb => by rw [List.take_zero] at hb; cases hb) (by rw [List.take_zero]; rfl)
    rw [List.take_zero] at hL
    rw [if_pos (by omega), decide_eq_true (show (s.size : Int) ≤ 40 by omega), Option.bind_some, if_pos rfl]
    have hL2 : spec_loCorners.l0 k s [] 0 0 0 = some (L, s.data.toList.all stepBW && closedW s.data.toList) := hL
    rw [hL2, Option.bind_some, decide_eq_true h1.1, decide_eq_true h1.2, stepsOnly_all]
    rfl
  · have e : (decide (4 ≤ s.size) && decide (s.size ≤ 40)) = false := by
      rw [Bool.eq_false_iff]; intro h; rw [Bool.and_eq_true, decide_eq_true_iff, decide_eq_true_iff] at h; exact h1 h
    rw [e]
    by_cases h2 : (s.size : Int) ≥ 4
    · rw [if_pos h2, decide_eq_false (by omega), Option.bind_some, if_neg (by simp)]
      rfl
    · rw [if_neg h2, Option.bind_some, if_neg (by simp)]
      rfl

end Go.Proofs.YtbnkdfmomcmmaaaDoor.P


/- The law FnExactIsLoop, as a statement of numbers and lists: both sides tell the same of every word; no condition. -/
namespace Go.Proofs.YtbnkdfmomcmmaaaDoor.Pure
open Go.RowKit Go.Proofs.YtbnkdfmomcmmaaaDoor.P Go.Proofs.YtbnkdfmomcmmaaaDoorW.PrintWords Go.Proofs.YtbnkdfmomcmmaaaDoorW.PrintLast
theorem FnExactIsLoop : laws_FnExactIsLoop.Pure := by
  intro a0 _
  refine ⟨1001, ?_⟩
  unfold laws_FnExactIsLoop.f
  by_cases h : (a0.size : Int) > 1000000
  · rw [if_pos h]
  · rw [if_neg h, spec_IsLoop_f a0 1001 (by decide), Option.bind_some]
    unfold impl_IsLoop.f
    rw [Option.bind_some, if_neg (by simp)]
end Go.Proofs.YtbnkdfmomcmmaaaDoor.Pure


/- A world in which utf8's two tables are laid. -/
namespace Go.Proofs.YtbnkdfmomcmmaaaDoor.LaidW
abbrev LAID : List (String × DataW Unit) := [("unicode/utf8.acceptRanges", Rows.laid_unicode_utf8_acceptRanges), ("unicode/utf8.first", Rows.laid_unicode_utf8_first)]
def cellsA : Array Value := ([128, 191, 160, 191, 128, 159, 144, 191, 128, 143, 0, 0, 0, 0, 0, 0, 0, 0, 0, 0, 0, 0, 0, 0, 0, 0, 0, 0, 0, 0, 0, 0].map fun k : Nat => Value.int .u8 (k : Int)).toArray
def cellsF : Array Value := (Go.Pinned.utf8FirstZ.map fun k : Nat => Value.int .u8 (k : Int)).toArray
def putCells (c : Array Value) : Obj → Obj
  | .cells _ t frozen => .cells c t frozen
  | o => o
noncomputable def laidWorld (os : Os) : World :=
  { World.holding Tryd.prog os ⟨#[], #[], []⟩ with heap := ((World.holding Tryd.prog os ⟨#[], #[], []⟩).heap.modify 2 (putCells cellsA)).modify 1 (putCells cellsF) }
set_option maxRecDepth 100000 in
theorem laidWorld_met (os : Os) (args : Array Value) : laidMetH Tryd.prog LAID ((laidWorld os).forCall (fun _ _ => 0) ⟨#[], args, []⟩).memory :=
  laidMetH_of_parts (laidMet_of_run' 8 (by kernel_rfl) (by kernel_rfl)) (by kernel_rfl)
end Go.Proofs.YtbnkdfmomcmmaaaDoor.LaidW


namespace Go.Proofs.YtbnkdfmomcmmaaaDoor.fnExactIsLoop
open Go.ChangeMaps (open_string shut_string)
open Go.ChangeShapes Go.WideShapes Go.ChangeAt Go.RowKit Go.Proofs.YtbnkdfmomcmmaaaDoorW.PrintWords Go.Joins
set_option linter.unusedVariables false
theorem own : ownKnob Tryd.prog.godebug = none := Closed.own
theorem laidOut : laidOutB Tryd.prog = true := Closed.laidOut
theorem joined_mk (P : Program) (f : FuncId) (fn : Func) (s : ChangeSpec) (c : OpenClaim) (k0 : (c.wf (OpenSpec.ofChange s)) = true) (k1 : (laidOutB P) = true) (k2 : (mapsRowed P) = true) (k3 : (fn.params.all (P.readableRec ·)) = true) (k4 : (namedTie P c.named s.vars) = true) (k5 : ((c.stops == [])) = true) (k6 : ((P.stops == [])) = true) (k7 : ((c.knobs == [])) = true) (k8 : ((P.stopKnobs == [])) = true) (k9 : ((c.inPlace == P.inPlace f)) = true) (k10 : ((c.unfollowed == P.unfollowed f)) = true) (k11 : ((c.recurses == P.recurses f)) = true) (k12 : ((c.named == P.varsNamed f)) = true) (k13 : ((c.maps == (fn.params.toList ++ s.plain.varTypes P).any (P.mapsRec ·))) = true) (k14 : ((c.ifaces == (fn.params.toList ++ s.plain.varTypes P).any (P.ifacesRec ·))) = true) (k15 : ((c.mapsOut == P.mapsAmong fn.resultTypes.toList)) = true) (k16 : ((c.loops == (fn.params.toList ++ s.plain.varTypes P).any (P.loopsFrom ·))) = true) (k17 : ((c.wideKeys == (fn.params.toList ++ s.plain.varTypes P ++ fn.resultTypes.toList).any (P.wideKeysFrom ·))) = true) (k18 : (s.vars.all (P.varReadable ·)) = true) (k19 : (fn.resultTypes.all (fun t => P.readableRec t && decide (t < P.types.size))) = true) (k20 : ((c.ifacesOut == fn.resultTypes.toList.any (P.ifacesRec ·))) = true) (k21 : ((c.loopsOut == fn.resultTypes.toList.any (P.loopsFrom ·))) = true) (k22 : ((c.plainKeys == P.plainKeys)) = true) (k23 : (c.shortTexts.isNone) = true) (k24 : (P.stopsHeard) = true) (k25 : (P.mayEnter) = true) (k26 : ((c.lifted == P.liftsFinal)) = true) (k27 : ((P.make == some c.make)) = true) (hd : c.domain.isEmpty = true) (k28 : (c.kinds == []) = true) (k29 : ((c.pinned == c.pinnedBy)) = true) (k30 : ((c.veiled == (fn.params.toList ++ s.plain.varTypes P ++ fn.resultTypes.toList).any (P.veiledRec ·))) = true) (k31 : (c.veiledFits P fn.params.toList (fn.params.toList ++ s.plain.varTypes P ++ fn.resultTypes.toList)) = true) : joinedFacts P f fn s c = true := by
  unfold joinedFacts
  simp only [hd, if_true, k0, k1, k2, k3, k4, k5, k6, k7, k8, k9, k10, k11, k12, k13, k14, k15, k16, k17, k18, k19, k20, k21, k22, k23, k24, k25, k26, k27, k28, k29, k30, k31, Bool.and_self]
abbrev LAID : List (String × DataW Unit) := LaidW.LAID
set_option maxRecDepth 100000 in
theorem lifted (os : Os) (started : os.Started) (H : Type) (enc : TypeId × Value → H) :
    ReturnsInHanded {} Tryd.checked os 3 .any (fun w args => (Rows.fnExactIsLoopSpec.pre enc Tryd.prog Tryd.f3 [] false w args ∧ laidMetH Tryd.prog LAID w) ∧ sizedMet enc Tryd.prog Tryd.f3 (OpenSpec.ofChange Rows.fnExactIsLoopSpec) false w args) (Rows.fnExactIsLoopSpec.post enc Tryd.prog Tryd.f3 false true false false) := by
  refine returnsInHanded_of_change_and (C := Tryd.checked) (X := fun w _ => laidMetH Tryd.prog LAID w) (fun _ _ _ hh h => h.of_heap hh) own started (by kernel_rfl) Tryd.func3 (ChangeSpec.witness_at (enc := enc) (C := Tryd.checked) (os := os) (X := fun w _ => laidMetH Tryd.prog LAID w) false (LaidW.laidWorld os) #[.string ByteArray.empty] 8 rfl (by kernel_rfl) (by kernel_rfl) (by kernel_rfl) (by kernel_rfl) (by kernel_rfl) (LaidW.laidWorld_met os _)) ?_
  intro W base args ds gs before hval0 hW hcnd hsz0 hL _
  have hsz : (DataW.weightsEach Tryd.prog (Tryd.f3.params.toList ++ Rows.fnExactIsLoopSpec.plain.varTypes Tryd.prog) (ds ++ gs)).all (· ≤ reachBytes) = true := hsz0
  have hval : ∀ (j : Nat) t v, Tryd.f3.params[j]? = some t → args[j]? = some v → Value.okWide Tryd.prog W .any base t v := hval0
  have hW' := hW
  obtain ⟨p, q, hA0, hV, rfl, hfz, hnd⟩ := hW
  have hA : DataW.TrodAll enc Tryd.prog W 0 (fun _ => true) true Tryd.f3.params.toList args.toList ds p := hA0
  rw [Tryd.params3] at hA hval hsz
  obtain ⟨v0, vs0, d0, ds0, p0, q0, hargs, rfl, rfl, h0, r0⟩ := trodAll_cons hA
  obtain ⟨rfl, rfl, rfl⟩ := trodAll_nil r0
  obtain rfl : args = #[v0] := by cases args; simp_all
  obtain ⟨rfl, rfl⟩ := trodVars_none hV
  obtain ⟨a0, rfl, rfl, rfl, y0⟩ := open_string Tryd.underlying9 (hval 0 9 v0 rfl rfl) h0
  have w0 : a0.size ≤ 140737488351232 := by
    have z := sized_string hsz (j := 0) (t := 9) rfl rfl
    rw [Array.length_toList] at z
    exact z
  clear hA0 hval0 hsz0 hsz
  refine (P.laws_FnExactIsLoop.walk Pure.FnExactIsLoop a0 W w0).mono fun e W' ⟨he, bel⟩ => ?_
  subst he
  exact ⟨_, rfl, _, _, _, [], _, [], hW', trodAll_mk1 (shut_bool Tryd.underlying4 _), (trodAll_cons_mk (shut_string Tryd.underlying9 y0) trodAll_mk0), rfl, bel.frame _, fun h => by cases h⟩
theorem k0_ : (Rows.fnExactIsLoopRow.wf (OpenSpec.ofChange Rows.fnExactIsLoopSpec)) = true := by kernel_rfl
theorem k1_ : (laidOutB Tryd.prog) = true := Closed.laidOut
theorem k2_ : (mapsRowed Tryd.prog) = true := Closed.mapsRowedP
theorem k3_ : (Tryd.f3.params.all (Tryd.prog.readableRec ·)) = true := by kernel_rfl
theorem k4_ : (namedTie Tryd.prog Rows.fnExactIsLoopRow.named Rows.fnExactIsLoopSpec.vars) = true := by kernel_rfl
theorem k5_ : ((Rows.fnExactIsLoopRow.stops == [])) = true := by kernel_rfl
theorem k6_ : ((Tryd.prog.stops == [])) = true := Closed.noStops
theorem k7_ : ((Rows.fnExactIsLoopRow.knobs == [])) = true := by kernel_rfl
theorem k8_ : ((Tryd.prog.stopKnobs == [])) = true := Closed.noKnobs
theorem k9_ : ((Rows.fnExactIsLoopRow.inPlace == Tryd.prog.inPlace 3)) = true := by kernel_rfl
theorem k10_ : ((Rows.fnExactIsLoopRow.unfollowed == Tryd.prog.unfollowed 3)) = true := by kernel_rfl
theorem k11_ : ((Rows.fnExactIsLoopRow.recurses == Tryd.prog.recurses 3)) = true := by kernel_rfl
theorem k12_ : ((Rows.fnExactIsLoopRow.named == Tryd.prog.varsNamed 3)) = true := by kernel_rfl
theorem k13_ : ((Rows.fnExactIsLoopRow.maps == (Tryd.f3.params.toList ++ Rows.fnExactIsLoopSpec.plain.varTypes Tryd.prog).any (Tryd.prog.mapsRec ·))) = true := by kernel_rfl
theorem k14_ : ((Rows.fnExactIsLoopRow.ifaces == (Tryd.f3.params.toList ++ Rows.fnExactIsLoopSpec.plain.varTypes Tryd.prog).any (Tryd.prog.ifacesRec ·))) = true := by kernel_rfl
theorem k15_ : ((Rows.fnExactIsLoopRow.mapsOut == Tryd.prog.mapsAmong Tryd.f3.resultTypes.toList)) = true := by kernel_rfl
theorem k16_ : ((Rows.fnExactIsLoopRow.loops == (Tryd.f3.params.toList ++ Rows.fnExactIsLoopSpec.plain.varTypes Tryd.prog).any (Tryd.prog.loopsFrom ·))) = true := by kernel_rfl
theorem k17_ : ((Rows.fnExactIsLoopRow.wideKeys == (Tryd.f3.params.toList ++ Rows.fnExactIsLoopSpec.plain.varTypes Tryd.prog ++ Tryd.f3.resultTypes.toList).any (Tryd.prog.wideKeysFrom ·))) = true := by kernel_rfl
theorem k18_ : (Rows.fnExactIsLoopSpec.vars.all (Tryd.prog.varReadable ·)) = true := by kernel_rfl
theorem k19_ : (Tryd.f3.resultTypes.all (fun t => Tryd.prog.readableRec t && decide (t < Tryd.prog.types.size))) = true := by kernel_rfl
theorem k20_ : ((Rows.fnExactIsLoopRow.ifacesOut == Tryd.f3.resultTypes.toList.any (Tryd.prog.ifacesRec ·))) = true := by kernel_rfl
theorem k21_ : ((Rows.fnExactIsLoopRow.loopsOut == Tryd.f3.resultTypes.toList.any (Tryd.prog.loopsFrom ·))) = true := by kernel_rfl
theorem k22_ : ((Rows.fnExactIsLoopRow.plainKeys == Tryd.prog.plainKeys)) = true := by kernel_rfl
theorem k23_ : (Rows.fnExactIsLoopRow.shortTexts.isNone) = true := by kernel_rfl
theorem k24_ : (Tryd.prog.stopsHeard) = true := Closed.stopsHeard
theorem k25_ : (Tryd.prog.mayEnter) = true := Closed.mayEnter
theorem k26_ : ((Rows.fnExactIsLoopRow.lifted == Tryd.prog.liftsFinal)) = true := by rw [Closed.liftsFinal]; kernel_rfl
theorem k27_ : ((Tryd.prog.make == some Rows.fnExactIsLoopRow.make)) = true := by rw [Closed.make]; kernel_rfl
theorem k28_ : ((Rows.fnExactIsLoopRow.kinds == [])) = true := by kernel_rfl
theorem k29_ : ((Rows.fnExactIsLoopRow.pinned == Rows.fnExactIsLoopRow.pinnedBy)) = true := by kernel_rfl
theorem k30_ : ((Rows.fnExactIsLoopRow.veiled == (Tryd.f3.params.toList ++ Rows.fnExactIsLoopSpec.plain.varTypes Tryd.prog ++ Tryd.f3.resultTypes.toList).any (Tryd.prog.veiledRec ·))) = true := by kernel_rfl
theorem k31_ : (Rows.fnExactIsLoopRow.veiledFits Tryd.prog Tryd.f3.params.toList (Tryd.f3.params.toList ++ Rows.fnExactIsLoopSpec.plain.varTypes Tryd.prog ++ Tryd.f3.resultTypes.toList)) = true := by kernel_rfl
theorem k99_ : (Rows.fnExactIsLoopRow.domain.isEmpty) = true := by kernel_rfl
theorem closed : joinedFacts Tryd.prog 3 Tryd.f3 Rows.fnExactIsLoopSpec Rows.fnExactIsLoopRow = true :=
  joined_mk _ _ _ _ _ k0_ k1_ k2_ k3_ k4_ k5_ k6_ k7_ k8_ k9_ k10_ k11_ k12_ k13_ k14_ k15_ k16_ k17_ k18_ k19_ k20_ k21_ k22_ k23_ k24_ k25_ k26_ k27_ k99_ k28_ k29_ k30_ k31_
theorem over : Rows.fnExactIsLoopRow.holds Tryd.pinned (OpenSpec.ofChange Rows.fnExactIsLoopSpec) :=
  OpenClaim.holds_of_wide 3 Tryd.f3 rfl rfl rfl rfl rfl rfl rfl ⟨rfl, rfl, rfl, rfl, rfl⟩ rfl rfl rfl rfl rfl (by kernel_rfl) Tryd.func3 closed
    (of_decide_eq_true (by kernel_rfl)) (by unfold Func.isWrapper; first | (rw [if_pos (by decide +kernel)]; kernel_rfl) | (rw [if_neg (by decide +kernel)]; exact ⟨rfl, rfl⟩))
    (fun os started H enc _ => lifted os started H enc)
theorem card : Rows.FnExactIsLoopCardSaid :=
  Claim7.holds_tied_plain_at .later [] [.data, .pinned] true (true, "84cda125a6e89d50074672a516acbbcdb2176f8dae58db17fa89f9ff50f1ca69") false
    over (fun _ h => by cases h) (by kernel_rfl) (fun _ h => by cases h) fnExactIsLoop_row_tie rfl ⟨rfl, rfl⟩ (by kernel_rfl) rfl
    (fun f fn hf hfn => by
      obtain rfl : f = 3 := Option.some.inj ((show Tryd.prog.funcNamed "loop.example/g01233/laws.FnExactIsLoop" = some 3 by kernel_rfl).symm.trans hf) |>.symm
      obtain rfl : fn = Tryd.f3 := (Option.some.inj (Tryd.func3.symm.trans hfn)).symm
      exact ⟨by kernel_rfl, fun j t ht => by
        rw [Tryd.params3] at ht
        have h3 : t = 9 := by
          rcases j with _ | j
          · simpa using ht.symm
          · simp at ht
        subst h3
        exact (show Tryd.prog.wantsStandIn 9 = false by kernel_rfl)⟩)
    (by kernel_rfl)
end Go.Proofs.YtbnkdfmomcmmaaaDoor.fnExactIsLoop
namespace Go.Proofs.YtbnkdfmomcmmaaaDoor
theorem fnExactIsLoop_holds : Rows.FnExactIsLoopCardSaid := fnExactIsLoop.card
end Go.Proofs.YtbnkdfmomcmmaaaDoor

