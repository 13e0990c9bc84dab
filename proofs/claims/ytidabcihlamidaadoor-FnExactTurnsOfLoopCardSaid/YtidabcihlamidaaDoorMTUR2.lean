/- For every input the law FnExactTurnsOfLoop answers true: the program's TurnsOfLoop tells what the reference's TurnsOfLoop tells; no condition. (part 2 of the proof; the words of the kit's print tool and the texts of this seat, merged by a program) -/
import Derived.Below
import Derived.BigQuiet
import Derived.ChangeOld
import Derived.FnData
import Derived.Handed
import Derived.JoinedOf
import Derived.LaidHandle
import Derived.LaidLaws
import Derived.Lib.SmallJoins
import Derived.OpenShut
import Derived.ProofKit
import Derived.SevenTiedAt
import Derived.ShutString
import Derived.SizedLaws
import Derived.Test.YtidabcihlamidaaDoorCards
import Derived.Test.YtidabcihlamidaaDoorClosed
import Derived.Test.YtidabcihlamidaaDoorRows
import Derived.Test.YtidabcihlamidaaDoorTie
import Derived.WalkKit
import Derived.Test.YtidabcihlamidaaDoorMTUR1
namespace Go.Proofs.YtidabcihlamidaaDoor.P
open Go.RowKit Go.Proofs.YtidabcihlamidaaDoorW.PrintWords Go.Proofs.YtidabcihlamidaaDoorW.PrintLast Go.Proofs.YtidabcihlamidaaDoorW.PrintMore
attribute [local go_sem] max2_int min2_int max_two min_two max_three min_three max_four min_four   -- for this text's walks alone
set_option linter.unusedVariables false
set_option linter.unusedSimpArgs false

theorem idx_dir (c : UInt8) (h : stepBW c = true) : strings_IndexByte.f (⟨#[110, 101, 115, 119]⟩ : ByteArray) (c.toNat : Int) = some (dirN (c.toNat : Int)) := by
  unfold stepBW at h
  rw [Bool.or_eq_true, Bool.or_eq_true, Bool.or_eq_true, beq_iff_eq, beq_iff_eq, beq_iff_eq, beq_iff_eq] at h
  rcases h with ((rfl | rfl) | rfl) | rfl <;> kernel_rfl
def impl_TurnsOfLoop.f (k : Nat) (a0 : ByteArray) : Option (Int × Int × Bool) := (impl_IsLoop.f a0).bind fun t => if t = true then (impl_started.f k a0).bind fun u => if u.size ≤ 1000 ∧ 0 < u.size ∧ u.data.toList.all stepBW = true then some (turnsL u.data.toList 1 u.size, turnsL u.data.toList 3 u.size, true) else none else some (0, 0, false)
theorem impl_TurnsOfLoop.mono : ∀ a0 k, LeO (impl_TurnsOfLoop.f k a0) (impl_TurnsOfLoop.f (k + 1) a0) := by
  intro a0 k
  unfold impl_TurnsOfLoop.f
  refine LeO.bind (LeO.refl _) (fun _ => ?_)
  refine LeO.ite ?_ (LeO.refl _)
  exact LeO.bind (impl_started.mono _ _) (fun _ => LeO.refl _)
set_option maxRecDepth 100000 in
set_option maxHeartbeats 8000000 in
theorem iTurns_yes (k : Nat) (s u : ByteArray) (h1 : impl_IsLoop.f s = some true) (h2 : impl_started.f k s = some u) (hs : u.size ≤ 1000) (h0 : 0 < u.size) (hst : u.data.toList.all stepBW = true) (w : World) :
    Calls Tryd.prog 9 #[.string s] w fun e w' => e = .returned (.tuple #[.int .i64 (turnsL u.data.toList 1 u.size), .int .i64 (turnsL u.data.toList 3 u.size), .bool true]) ∧ Below w.heap.size w w' := by
  have H1 := Aside0.mk h1
  have H2 := Aside0.mk h2
  have hul : u.data.toList.length = u.size := by simp
  have HAT : Aside0 (∀ i : Nat, i < u.size → ∃ c : UInt8, u.data.toList.getD i 0 = c ∧ bt u (i : Int) = (c.toNat : Int) ∧ stepBW c = true ∧ ∀ h : i < u.size, u[i]'h = c) := ⟨fun i hi => by
    have hil : i < u.data.toList.length := by omega
    have e : u.data.toList.getD i 0 = u[i]'hi := by rw [List.getD_eq_getElem?_getD, List.getElem?_eq_getElem hil]; rfl
    refine ⟨u.data.toList.getD i 0, rfl, ?_, ?_, fun h => e.symm⟩
    · unfold bt
      rw [Int.toNat_natCast, dif_pos hi, e]
    · refine List.all_eq_true.1 hst _ ?_
      rw [List.getD_eq_getElem?_getD, List.getElem?_eq_getElem hil]
      exact List.getElem_mem hil⟩
  generalize hl : u.data.toList = l at HAT hul ⊢
  clear h1 h2 hst hl
  go_enter Tryd.func9, Tryd.ntmps9
  go_wp2_with (first
    | (go_at_call 14; (with_reducible refine (impl_IsLoop.calls s true _ H1.out).mono ?_)
       rintro e w1 ⟨rfl, hb⟩
       have HB1 := Aside0.mk hb
       clear hb)
    | (go_at_call 15; (with_reducible refine (impl_started.calls k s u _ H2.out).mono ?_)
       rintro e w2 ⟨rfl, hb⟩
       have HB2 := Aside0.mk (below_step HB1.out hb)
       clear hb HB1))
  clear H1 H2
  have HUL := Aside0.mk hul
  clear hul
  go_loopg [6, 7, 17] u.size (fun gg v6 v7 v17 wr => ∃ i : Nat, i ≤ u.size ∧ u.size - i ≤ gg ∧ v6 = .int .i64 (turnsL l 1 i) ∧ v7 = .int .i64 (turnsL l 3 i) ∧ v17 = .int .i64 i ∧ Aside0 (Below w.heap.size w wr))
  case atStart => exact ⟨0, Nat.zero_le _, by omega, rfl, rfl, rfl, HB2⟩
  case round =>
    clear HB2
    obtain ⟨i, hi, hgg, rfl, rfl, rfl, HB⟩ := hrel
    by_cases hlt : i < u.size
    · obtain ⟨c, hc1, hc2, hc5, hc4⟩ := HAT.out i hlt
      have hju : (i + 1) % u.size < u.size := Nat.mod_lt _ h0
      obtain ⟨d, hd1, hd2, hd5, hd4⟩ := HAT.out ((i + 1) % u.size) hju
      have htn : turnAt l i = Int.tmod (dirN (d.toNat : Int) - dirN (c.toNat : Int) + 4) 4 := by unfold turnAt; rw [HUL.out, hc1, hd1]
      have HS1 : Aside0 (turnsL l 1 (i + 1) = turnsL l 1 i + if Int.tmod (dirN (d.toNat : Int) - dirN (c.toNat : Int) + 4) 4 = 1 then 1 else 0) := ⟨by rw [turnsL, htn]⟩
      have HS3 : Aside0 (turnsL l 3 (i + 1) = turnsL l 3 i + if Int.tmod (dirN (d.toNat : Int) - dirN (c.toNat : Int) + 4) 4 = 3 then 1 else 0) := ⟨by rw [turnsL, htn]⟩
      have hb1 := turnsL_b l 1 i
      have hb3 := turnsL_b l 3 i
      clear htn hd1 hc1
      generalize turnsL l 1 i = t1 at HS1 hb1 ⊢
      generalize turnsL l 3 i = t3 at HS3 hb3 ⊢
      have hdc := dirN_b (c.toNat : Int)
      have hdd := dirN_b (d.toNat : Int)
      have HDC := Aside0.mk (idx_dir c hc5)
      have HDD := Aside0.mk (idx_dir d hd5)
      generalize dirN (c.toNat : Int) = dc at HDC hdc HS1 HS3
      generalize dirN (d.toNat : Int) = dd at HDD hdd HS1 HS3
      go_wp2_with fail
      have hjz : (((i + 1) % u.size : Nat) : Int) < (u.size : Int) := by omega
      have hiz : (i : Int) < (u.size : Int) := by omega
      have hu0 : ((u.size : Int) == 0) = false := by simpa using (show ¬ (u.size : Int) = 0 by omega)
      have e1 : IntKind.i64.wrap ((i : Int) + 1) = (i : Int) + 1 := by rw [IntKind.wrap_i64]; omega
      have e3 : IntKind.i64.wrap (dd - dc) = dd - dc := by rw [IntKind.wrap_i64]; clear e1; omega
      have e4 : IntKind.i64.wrap (dd - dc + 4) = dd - dc + 4 := by rw [IntKind.wrap_i64]; clear e1 e3; omega
      have e2 : Int.tmod ((i : Int) + 1) (u.size : Int) = (((i + 1) % u.size : Nat) : Int) := rfl
      have hu1 : ((u.size : Int) = 0) = False := eq_false (by omega)
      have hu2 : (u.size = 0) = False := eq_false (by omega)
      have E := Aside0.mk (And.intro e1 (And.intro e2 (And.intro e3 e4)))
      have hbt1 : ((d.toNat : Nat) : Int) = (d.toNat : Int) := rfl
      have hxj := hd4
      have hxi := hc4
      have hju2 : ((i + 1) % u.size < u.size) = True := eq_true hju
      have hlu2 : (i < u.size) = True := eq_true hlt
      clear hc2 hd2 hc5 hd5 h0 hbt1
      generalize (i + 1) % u.size = j at E hjz hxj hju2 hd4 e2
      obtain ⟨e1, e2, e3, e4⟩ := E.out
      clear E
      go_quiet ((first
        | (go_at_call 17; (with_reducible refine (strings_IndexByte.calls (⟨#[110, 101, 115, 119]⟩ : ByteArray) (c.toNat : Int) dc _ HDC.out).mono ?_); rintro e w' ⟨rfl, ⟨nd, rfl⟩⟩; (try first | exact ⟨rfl, _, World.drewN_drewN _ _ _⟩ | exact ⟨rfl, _, Eq.trans (World.drewN_drewN _ _ _) (congrArg (World.drewN _) (Nat.add_assoc _ _ _))⟩))
        | (go_at_call 17; (with_reducible refine (strings_IndexByte.calls (⟨#[110, 101, 115, 119]⟩ : ByteArray) (d.toNat : Int) dd _ HDD.out).mono ?_); rintro e w' ⟨rfl, ⟨nd, rfl⟩⟩; (try first | exact ⟨rfl, _, World.drewN_drewN _ _ _⟩ | exact ⟨rfl, _, Eq.trans (World.drewN_drewN _ _ _) (congrArg (World.drewN _) (Nat.add_assoc _ _ _))⟩))))
      clear e1 e2 e3 e4 hu1 hu2 hu0 hxj hxi hju2 hlu2 hjz hju hd4 hc4 HDC HDD
      have etm : (dd - dc + 4).tmod 4 = (dd - dc) % 4 := by rw [Int.tmod_eq_emod_of_nonneg (by omega)]; omega
      rw [etm] at HS1 HS3
      clear etm
      have hr1 : t1 ≤ 1000 := by have := hb1.2; omega
      have hr3 : t3 ≤ 1000 := by have := hb3.2; omega
      have hl1 := hb1.1
      have hl3 := hb3.1
      clear hb1 hb3
      by_cases c1 : (dd - dc) % 4 = 1
      · have c3 : ¬ (dd - dc) % 4 = 3 := by omega
        have d1 : ((dd - dc) % 4 == 1) = true := by simpa using c1
        have d3 : ((dd - dc) % 4 == 3) = false := by simpa using c3
        have N1 : Aside0 (turnsL l 1 (i + 1) = t1 + 1) := ⟨by rw [HS1.out]; simp [c1, c3]⟩
        have N3 : Aside0 (turnsL l 3 (i + 1) = t3) := ⟨by rw [HS3.out]; simp [c1, c3]⟩
        clear c1 c3
        go_wp2_with (first
          | (go_at_call 18; (with_reducible refine (impl_bit.calls true 1 _ rfl).mono ?_); rintro e wa ⟨rfl, ⟨nda, rfl⟩⟩)
          | (go_at_call 18; (with_reducible refine (impl_bit.calls false 0 _ rfl).mono ?_); rintro e wa ⟨rfl, ⟨nda, rfl⟩⟩))
        go_roundg (u.size - (i + 1))
        case measure => omega
        case rel => exact ⟨i + 1, by omega, by omega, by rw [N1.out], by rw [N3.out], by go_num, ⟨pw_below_drewN HB.out _⟩⟩
      · by_cases c3 : (dd - dc) % 4 = 3
        · have d1 : ((dd - dc) % 4 == 1) = false := by simpa using c1
          have d3 : ((dd - dc) % 4 == 3) = true := by simpa using c3
          have N1 : Aside0 (turnsL l 1 (i + 1) = t1) := ⟨by rw [HS1.out]; simp [c1, c3]⟩
          have N3 : Aside0 (turnsL l 3 (i + 1) = t3 + 1) := ⟨by rw [HS3.out]; simp [c1, c3]⟩
          clear c1 c3
          go_wp2_with (first
            | (go_at_call 18; (with_reducible refine (impl_bit.calls true 1 _ rfl).mono ?_); rintro e wa ⟨rfl, ⟨nda, rfl⟩⟩)
            | (go_at_call 18; (with_reducible refine (impl_bit.calls false 0 _ rfl).mono ?_); rintro e wa ⟨rfl, ⟨nda, rfl⟩⟩))
          go_roundg (u.size - (i + 1))
          case measure => omega
          case rel => exact ⟨i + 1, by omega, by omega, by rw [N1.out], by rw [N3.out], by go_num, ⟨pw_below_drewN HB.out _⟩⟩
        · have d1 : ((dd - dc) % 4 == 1) = false := by simpa using c1
          have d3 : ((dd - dc) % 4 == 3) = false := by simpa using c3
          have N1 : Aside0 (turnsL l 1 (i + 1) = t1) := ⟨by rw [HS1.out]; simp [c1, c3]⟩
          have N3 : Aside0 (turnsL l 3 (i + 1) = t3) := ⟨by rw [HS3.out]; simp [c1, c3]⟩
          clear c1 c3
          go_wp2_with (first
            | (go_at_call 18; (with_reducible refine (impl_bit.calls true 1 _ rfl).mono ?_); rintro e wa ⟨rfl, ⟨nda, rfl⟩⟩)
            | (go_at_call 18; (with_reducible refine (impl_bit.calls false 0 _ rfl).mono ?_); rintro e wa ⟨rfl, ⟨nda, rfl⟩⟩))
          go_roundg (u.size - (i + 1))
          case measure => omega
          case rel => exact ⟨i + 1, by omega, by omega, by rw [N1.out], by rw [N3.out], by go_num, ⟨pw_below_drewN HB.out _⟩⟩
    · have hlz : ¬ (i : Int) < (u.size : Int) := by omega
      obtain rfl : i = u.size := by omega
      go_wp2_with fail
      exact bodyPost_ret (v := .tuple #[.int .i64 (turnsL l 1 u.size), .int .i64 (turnsL l 3 u.size), .bool true]) (by simp [results, go_sem]) rfl ⟨rfl, HB.out⟩
set_option maxRecDepth 100000 in
theorem iTurns_no (k : Nat) (s : ByteArray) (h1 : impl_IsLoop.f s = some false) (w : World) :
    Calls Tryd.prog 9 #[.string s] w fun e w' => e = .returned (.tuple #[.int .i64 0, .int .i64 0, .bool false]) ∧ Below w.heap.size w w' := by
  have H1 := Aside0.mk h1
  clear h1
  go_enter Tryd.func9, Tryd.ntmps9
  go_wp2_with ((go_at_call 14; (with_reducible refine (impl_IsLoop.calls s false _ H1.out).mono ?_)
                rintro e w1 ⟨rfl, hb⟩
                have HB1 := Aside0.mk hb
                clear hb))
  exact bodyPost_ret (v := .tuple #[.int .i64 0, .int .i64 0, .bool false]) (by simp [results, go_sem]) rfl ⟨rfl, HB1.out⟩
theorem impl_TurnsOfLoop.calls (k : Nat) (a0 : ByteArray) (r1 r2 : Int) (r3 : Bool) (w : World) (h : impl_TurnsOfLoop.f k a0 = some (r1, r2, r3)) :
    Calls Tryd.prog 9 #[.string a0] w fun e w' => e = .returned (.tuple #[.int .i64 r1, .int .i64 r2, .bool r3]) ∧ Below w.heap.size w w' := by
  unfold impl_TurnsOfLoop.f at h
  obtain ⟨t, h1, h⟩ := Option.bind_eq_some_iff.mp h
  cases t with
  | false =>
    rw [if_neg (by decide)] at h
    simp only [Option.some.injEq, Prod.mk.injEq] at h
    obtain ⟨rfl, rfl, rfl⟩ := h
    exact iTurns_no k a0 h1 w
  | true =>
    rw [if_pos rfl] at h
    obtain ⟨u, h2, h⟩ := Option.bind_eq_some_iff.mp h
    split at h
    · rename_i h3
      simp only [Option.some.injEq, Prod.mk.injEq] at h
      obtain ⟨rfl, rfl, rfl⟩ := h
      exact iTurns_yes k a0 u h1 h2 h3.1 h3.2.1 h3.2.2 w
    · cases h


def laws_FnExactTurnsOfLoop.f (k : Nat) (a0 : ByteArray) : Option (Bool) := if (a0.size : Int) > 1000000 then (some true) else ((spec_TurnsOfLoop.f k a0).bind fun bt151 => ((impl_TurnsOfLoop.f k a0).bind fun bt154 => (if bt154.1 = bt151.1 then (if bt154.2.1 = bt151.2.1 then (if (bt154.2.2 != bt151.2.2) = true then (some false) else (some true)) else (some false)) else (some false))))
theorem laws_FnExactTurnsOfLoop.mono : ∀ a0 k, LeO (laws_FnExactTurnsOfLoop.f k a0) (laws_FnExactTurnsOfLoop.f (k + 1) a0) := by
 intro a0 k
 unfold laws_FnExactTurnsOfLoop.f
 repeat' first
   | (with_reducible exact impl_TurnsOfLoop.mono _ _)
   | (with_reducible exact spec_TurnsOfLoop.mono _ _)
   | (with_reducible exact LeO.refl _)
   | (with_reducible exact LeO.none _)
   | (with_reducible refine LeO.ite ?_ ?_)
   | (with_reducible refine LeO.bind ?_ (fun _ => ?_))
   | exact impl_TurnsOfLoop.mono _ _
   | exact spec_TurnsOfLoop.mono _ _
   | exact LeO.none _
   | refine LeO.ite ?_ ?_
   | refine LeO.bind ?_ (fun _ => ?_)
set_option maxHeartbeats 8000000 in
set_option maxRecDepth 100000 in
theorem laws_FnExactTurnsOfLoop.calls (k : Nat) (a0 : ByteArray) (r : Bool) (w : World) (h : laws_FnExactTurnsOfLoop.f k a0 = some r) :
  Calls Tryd.prog 4 #[.string a0] w fun e w' => e = .returned (.bool r) ∧ Below w.heap.size w w' := by
 have HB := Aside0.mk (Below.refl w.heap.size w)
 have H : (if (a0.size : Int) > 1000000 then (some true) else ((spec_TurnsOfLoop.f k a0).bind fun bt151 => ((impl_TurnsOfLoop.f k a0).bind fun bt154 => (if bt154.1 = bt151.1 then (if bt154.2.1 = bt151.2.1 then (if (bt154.2.2 != bt151.2.2) = true then (some false) else (some true)) else (some false)) else (some false))))) = some r := h
 clear h
 by_cases c2 : (a0.size : Int) > 1000000
 ·rw [if_pos c2] at H
  have c2b0 : decide (1000000 < (a0.size : Int)) = true := decide_eq_true c2
  have c2b1 : decide (1000000 < a0.size) = true := decide_eq_true (by omega)
  clear c2
  obtain rfl := Option.some.inj H
  go_enter Tryd.func4, Tryd.ntmps4
  go_wp2
  go_ret
  exact ⟨er_, bl0_ HB.out⟩
 ·rw [if_neg c2] at H
  have c2b0 : decide (1000000 < (a0.size : Int)) = false := decide_eq_false c2
  have c2b1 : decide (1000000 < a0.size) = false := decide_eq_false (by omega)
  clear c2
  replace H := Option.bind_eq_some_iff.mp H
  obtain ⟨⟨t151, t152, t153⟩, A30, H⟩ := H
  replace H : ((impl_TurnsOfLoop.f k a0).bind fun bt154 => (if bt154.1 = t151 then (if bt154.2.1 = t152 then (if (bt154.2.2 != t153) = true then (some false) else (some true)) else (some false)) else (some false))) = some r := H
  have A3 := Aside0.mk A30
  clear A30
  replace H := Option.bind_eq_some_iff.mp H
  obtain ⟨⟨t154, t155, t156⟩, A40, H⟩ := H
  replace H : (if t154 = t151 then (if t155 = t152 then (if (t156 != t153) = true then (some false) else (some true)) else (some false)) else (some false)) = some r := H
  have A4 := Aside0.mk A40
  clear A40
  by_cases c5 : t154 = t151
  ·rw [if_pos c5] at H
   have c5b0 : (t154 == t151) = true := beq_iff_eq.mpr c5
   have c5b1 : (t154 != t151) = false := bne_eq_false_iff_eq.mpr c5
   clear c5
   by_cases c6 : t155 = t152
   ·rw [if_pos c6] at H
    have c6b0 : (t155 == t152) = true := beq_iff_eq.mpr c6
    have c6b1 : (t155 != t152) = false := bne_eq_false_iff_eq.mpr c6
    clear c6
    by_cases c7 : (t156 != t153) = true
    ·rw [if_pos c7] at H
     have c7b0 : (t156 != t153) = true := c7
     (try (have c7b1 : decide (t156 = t153) = false := by simpa using c7))
     (try (have c7b2 : (t156 == t153) = false := by simpa using c7))
     (try (have c7b3 : ¬ (t156 = t153) := by simpa using c7))
     clear c7
     obtain rfl := Option.some.inj H
     go_enter Tryd.func4, Tryd.ntmps4
     go_wp2_with (first | ((with_reducible refine gate_callee (f := 8) rfl ?_); refine goesL_ (some 14) rfl rfl Tryd.func8 (by kernel_rfl) rfl #[.string a0] rfl ob_ ?_; (with_reducible refine (spec_TurnsOfLoop.calls k a0 t151 t152 t153 _ A3.out).mono ?_); rintro e w8 ⟨rfl, hb⟩; refine ⟨_, rfl, ?_⟩; have n0_ := Aside0.mk (below_step (bl0_ HB.out) hb); clear HB; have HB := n0_; clear n0_; (try clear hb); (try clear hb2); (try clear hk); (try clear hi)) | ((with_reducible refine gate_callee (f := 9) rfl ?_); refine goesL_ (some 20) rfl rfl Tryd.func9 (by kernel_rfl) rfl #[.string a0] rfl ob_ ?_; (with_reducible refine (impl_TurnsOfLoop.calls k a0 t154 t155 t156 _ A4.out).mono ?_); rintro e w9 ⟨rfl, hb⟩; refine ⟨_, rfl, ?_⟩; have n0_ := Aside0.mk (below_step (bl0_ HB.out) hb); clear HB; have HB := n0_; clear n0_; (try clear hb); (try clear hb2); (try clear hk); (try clear hi)))
     go_ret
     exact ⟨er_, bl0_ HB.out⟩
    ·rw [if_neg c7] at H
     have c7b0 : (t156 != t153) = false := by simpa using c7
     (try (have c7b1 : decide (t156 = t153) = true := by simpa using c7))
     (try (have c7b2 : (t156 == t153) = true := by simpa using c7))
     clear c7
     obtain rfl := Option.some.inj H
     go_enter Tryd.func4, Tryd.ntmps4
     go_wp2_with (first | ((with_reducible refine gate_callee (f := 8) rfl ?_); refine goesL_ (some 14) rfl rfl Tryd.func8 (by kernel_rfl) rfl #[.string a0] rfl ob_ ?_; (with_reducible refine (spec_TurnsOfLoop.calls k a0 t151 t152 t153 _ A3.out).mono ?_); rintro e w10 ⟨rfl, hb⟩; refine ⟨_, rfl, ?_⟩; have n0_ := Aside0.mk (below_step (bl0_ HB.out) hb); clear HB; have HB := n0_; clear n0_; (try clear hb); (try clear hb2); (try clear hk); (try clear hi)) | ((with_reducible refine gate_callee (f := 9) rfl ?_); refine goesL_ (some 20) rfl rfl Tryd.func9 (by kernel_rfl) rfl #[.string a0] rfl ob_ ?_; (with_reducible refine (impl_TurnsOfLoop.calls k a0 t154 t155 t156 _ A4.out).mono ?_); rintro e w11 ⟨rfl, hb⟩; refine ⟨_, rfl, ?_⟩; have n0_ := Aside0.mk (below_step (bl0_ HB.out) hb); clear HB; have HB := n0_; clear n0_; (try clear hb); (try clear hb2); (try clear hk); (try clear hi)))
     go_ret
     exact ⟨er_, bl0_ HB.out⟩
   ·rw [if_neg c6] at H
    have c6b0 : (t155 == t152) = false := beq_eq_false_iff_ne.mpr c6
    have c6b1 : (t155 != t152) = true := bne_iff_ne.mpr c6
    obtain rfl := Option.some.inj H
    go_enter Tryd.func4, Tryd.ntmps4
    go_wp2_with (first | ((with_reducible refine gate_callee (f := 8) rfl ?_); refine goesL_ (some 14) rfl rfl Tryd.func8 (by kernel_rfl) rfl #[.string a0] rfl ob_ ?_; (with_reducible refine (spec_TurnsOfLoop.calls k a0 t151 t152 t153 _ A3.out).mono ?_); rintro e w12 ⟨rfl, hb⟩; refine ⟨_, rfl, ?_⟩; have n0_ := Aside0.mk (below_step (bl0_ HB.out) hb); clear HB; have HB := n0_; clear n0_; (try clear hb); (try clear hb2); (try clear hk); (try clear hi)) | ((with_reducible refine gate_callee (f := 9) rfl ?_); refine goesL_ (some 20) rfl rfl Tryd.func9 (by kernel_rfl) rfl #[.string a0] rfl ob_ ?_; (with_reducible refine (impl_TurnsOfLoop.calls k a0 t154 t155 t156 _ A4.out).mono ?_); rintro e w13 ⟨rfl, hb⟩; refine ⟨_, rfl, ?_⟩; have n0_ := Aside0.mk (below_step (bl0_ HB.out) hb); clear HB; have HB := n0_; clear n0_; (try clear hb); (try clear hb2); (try clear hk); (try clear hi)))
    go_ret
    exact ⟨er_, bl0_ HB.out⟩
  ·rw [if_neg c5] at H
   have c5b0 : (t154 == t151) = false := beq_eq_false_iff_ne.mpr c5
   have c5b1 : (t154 != t151) = true := bne_iff_ne.mpr c5
   obtain rfl := Option.some.inj H
   go_enter Tryd.func4, Tryd.ntmps4
   go_wp2_with (first | ((with_reducible refine gate_callee (f := 8) rfl ?_); refine goesL_ (some 14) rfl rfl Tryd.func8 (by kernel_rfl) rfl #[.string a0] rfl ob_ ?_; (with_reducible refine (spec_TurnsOfLoop.calls k a0 t151 t152 t153 _ A3.out).mono ?_); rintro e w14 ⟨rfl, hb⟩; refine ⟨_, rfl, ?_⟩; have n0_ := Aside0.mk (below_step (bl0_ HB.out) hb); clear HB; have HB := n0_; clear n0_; (try clear hb); (try clear hb2); (try clear hk); (try clear hi)) | ((with_reducible refine gate_callee (f := 9) rfl ?_); refine goesL_ (some 20) rfl rfl Tryd.func9 (by kernel_rfl) rfl #[.string a0] rfl ob_ ?_; (with_reducible refine (impl_TurnsOfLoop.calls k a0 t154 t155 t156 _ A4.out).mono ?_); rintro e w15 ⟨rfl, hb⟩; refine ⟨_, rfl, ?_⟩; have n0_ := Aside0.mk (below_step (bl0_ HB.out) hb); clear HB; have HB := n0_; clear n0_; (try clear hb); (try clear hb2); (try clear hk); (try clear hi)))
   go_ret
   exact ⟨er_, bl0_ HB.out⟩

def laws_FnExactTurnsOfLoop.Pure : Prop := ∀ (a0 : ByteArray), a0.size ≤ 140737488351232 → ∃ k, laws_FnExactTurnsOfLoop.f k a0 = some true
theorem laws_FnExactTurnsOfLoop.walk (P : laws_FnExactTurnsOfLoop.Pure) (a0 : ByteArray) (w : World) (w0 : a0.size ≤ 140737488351232) :
  Calls Tryd.prog 4 #[.string a0] w fun e w' => e = .returned (.bool true) ∧ Below w.heap.size w w' := by
 obtain ⟨k, h⟩ := P a0 w0
 refine (laws_FnExactTurnsOfLoop.calls k a0 true w h).mono ?_
 rintro e w' ⟨rfl, hd⟩
 exact ⟨rfl, hd⟩


theorem loCornersL_l0 (s : ByteArray) (h : LoopW s) : ∀ (d k i : Nat), s.size - i = d → i ≤ s.size → d + 100 < k →
    spec_loCorners.l0 k s ((cornersL s.data.toList).take i) (i : Int) ((cornersL s.data.toList).getD i ⟨0, 0⟩).f0 ((cornersL s.data.toList).getD i ⟨0, 0⟩).f1 = some ((cornersL s.data.toList).take s.size, true) := by
  obtain ⟨h4, h40, hst, hend, hinj⟩ := h
  have hl : s.data.toList.length = s.size := by simp
  have hcl := cornersL_len s.data.toList
  have hbds := cornersL_bound s.data.toList (by omega)
  have hwk : ∀ i (hi : i < s.data.toList.length), (cornersL s.data.toList).getD (i + 1) ⟨0, 0⟩ = nextC ((cornersL s.data.toList).getD i ⟨0, 0⟩) ((s.data.toList[i].toNat : Nat) : Int) := fun i hi => walk_at s.data.toList ⟨0, 0⟩ i hi
  generalize cornersL s.data.toList = cs at *
  intro d
  induction d with
  | zero =>
    intro k i h1 h2 h3
    obtain ⟨k, rfl⟩ : ∃ q, k = q + 1 := ⟨k - 1, by omega⟩
    obtain rfl : i = s.size := by omega
    simp only [spec_loCorners.l0]
    rw [if_neg (by omega), hend]
    rfl
  | succ d ih =>
    intro k i h1 h2 h3
    obtain ⟨k, rfl⟩ : ∃ q, k = q + 1 := ⟨k - 1, by omega⟩
    have hi : i < s.size := by omega
    have hil : i < s.data.toList.length := by omega
    have e1 : wrap64 ((i : Int) + 1) = ((i + 1 : Nat) : Int) := by unfold wrap64; omega
    have hbt : bt s (i : Int) = ((s.data.toList[i].toNat : Nat) : Int) := by
      unfold bt
      rw [Int.toNat_natCast, dif_pos (by omega)]
      rfl
    have hsb := hst _ (List.getElem_mem hil)
    have htl : (cs.take i).length = i := by rw [List.length_take]; omega
    have hci : i < cs.length := by omega
    have hgd : cs.getD i ⟨0, 0⟩ = cs[i] := by rw [List.getD_eq_getElem?_getD, List.getElem?_eq_getElem hci]; rfl
    have hbd := hbds cs[i] (List.getElem_mem hci)
    have htk : cs.take (i + 1) = cs.take i ++ [cs[i]] := List.take_succ_eq_append_getElem hci
    have hnot : ¬ (cs[i].f0, cs[i].f1) ∈ (cs.take i).map pairC := by
      intro hm
      obtain ⟨c, hc, he⟩ := List.mem_map.1 hm
      obtain ⟨j, hj, hjc⟩ := List.mem_iff_getElem.1 hc
      rw [List.length_take] at hj
      have hne := hinj j i (by omega) hi
      apply hne
      have e2 : cs.getD j ⟨0, 0⟩ = c := by
        rw [← hjc, List.getElem_take, List.getD_eq_getElem?_getD, List.getElem?_eq_getElem (by omega)]; rfl
      rw [e2, hgd, he]
      rfl
    have hnx := hwk i hil
    have ih2 := ih k (i + 1) (by omega) (by omega) (by omega)
    simp only [spec_loCorners.l0]
    rw [if_pos (by omega), if_pos (by omega), hbt, loDir_f _ k (by omega), Option.bind_some, if_neg ((dir_step _).1 hsb), liHas_f _ _ _ (by omega) k (by omega), Option.bind_some, hgd, decide_eq_false hnot, if_neg (by simp), if_pos (by rw [htl]; omega), loStepW_f _ _ _ hsb hbd.1 hbd.2, Option.bind_some, e1]
    rw [hnx, htk, hgd] at ih2
    exact ih2
theorem loCorners_yes (s : ByteArray) (h : LoopW s) (k : Nat) (hk : 1000 < k) : spec_loCorners.f k s = some ((cornersL s.data.toList).take s.size, true) := by
  have h4 := h.n4
  have h40 := h.n40
  unfold spec_loCorners.f spec_l1In.f
  rw [if_pos (by omega), decide_eq_true (show (s.size : Int) ≤ 40 by omega), Option.bind_some, if_pos rfl]
  exact loCornersL_l0 s h s.size k 0 (by omega) (by omega) (by omega)


theorem cmpC_less (x m : S39) (h0 : -1000 ≤ x.f0 ∧ x.f0 ≤ 1000) (h1 : -1000 ≤ x.f1 ∧ x.f1 ≤ 1000) (g0 : -1000 ≤ m.f0 ∧ m.f0 ≤ 1000) (g1 : -1000 ≤ m.f1 ∧ m.f1 ≤ 1000) : cmpC x m < 0 ↔ lessB x m = true := by
 have h := cmpC_f x m
 unfold impl_compareCorners.f at h
 have e0 : wrap64 (x.f0 - m.f0) = x.f0 - m.f0 := by unfold wrap64; omega
 have e1 : wrap64 (x.f1 - m.f1) = x.f1 - m.f1 := by unfold wrap64; clear e0; omega
 rw [e0, e1] at h
 clear e0 e1
 unfold lessB
 rw [Bool.or_eq_true, Bool.and_eq_true, decide_eq_true_iff, decide_eq_true_iff, decide_eq_true_iff]
 split at h
 ·have h2 := Option.some.inj h
  omega
 ·have h2 := Option.some.inj h
  omega
theorem minC_snoc : ∀ (l : List S39) (m y : S39), minC (l ++ [y]) m = if cmpC y (minC l m) < 0 then y else minC l m
 | [], m, y => rfl
 | x :: r, m, y => by rw [List.cons_append, minC, minC_snoc r, minC]
theorem getD_at {α : Type} (l : List α) (i : Nat) (z : α) (h : i < l.length) : l.getD i z = l[i] := by rw [List.getD_eq_getElem?_getD, List.getElem?_eq_getElem h]; rfl
theorem minC_best (L : List S39) (hb : ∀ d ∈ L, (-1000 ≤ d.f0 ∧ d.f0 ≤ 1000) ∧ (-1000 ≤ d.f1 ∧ d.f1 ≤ 1000)) : ∀ i, i < L.length → minC ((L.take (i + 1)).drop 1) (L.getD 0 ⟨0, 0⟩) = L.getD (bestF L (i + 1)) ⟨0, 0⟩
 | 0, h => by
  have e : (L.take 1).drop 1 = [] := List.drop_of_length_le (by rw [List.length_take]; omega)
  have e2 : bestF L (0 + 1) = 0 := by unfold bestF; split <;> rfl
  rw [e, e2]
  rfl
 | i + 1, h => by
  have ih := minC_best L hb i (by omega)
  have hbl := bestF_lt L (i + 1) (by omega)
  have e : (L.take (i + 1 + 1)).drop 1 = (L.take (i + 1)).drop 1 ++ [L[i + 1]] := by
   rw [List.take_succ_eq_append_getElem h, List.drop_append_of_le_length (by rw [List.length_take]; omega)]
  have hbs : bestF L (i + 1 + 1) = if lessB (L.getD (i + 1) ⟨0, 0⟩) (L.getD (bestF L (i + 1)) ⟨0, 0⟩) = true then i + 1 else bestF L (i + 1) := rfl
  rw [e, minC_snoc, ih, hbs, getD_at L (i + 1) _ h]
  have e3 := getD_at L (bestF L (i + 1)) ⟨0, 0⟩ (by omega)
  have q1 := hb _ (List.getElem_mem h)
  have q2 := hb _ (List.getElem_mem (show bestF L (i + 1) < L.length by omega))
  rw [← e3] at q2
  have hc := cmpC_less L[i + 1] (L.getD (bestF L (i + 1)) ⟨0, 0⟩) q1.1 q1.2 q2.1 q2.2
  by_cases hl : lessB L[i + 1] (L.getD (bestF L (i + 1)) ⟨0, 0⟩) = true
  ·rw [if_pos hl, if_pos (hc.2 hl), getD_at L (i + 1) _ h]
  ·rw [if_neg hl, if_neg (fun h2 => hl (hc.1 h2))]
theorem min_f (L : List S39) (h0 : 0 < L.length) (hb : ∀ d ∈ L, (-1000 ≤ d.f0 ∧ d.f0 ≤ 1000) ∧ (-1000 ≤ d.f1 ∧ d.f1 ≤ 1000)) : impl_Corner_32.f L = some ((L.getD (bestF L L.length) ⟨0, 0⟩).f0, (L.getD (bestF L L.length) ⟨0, 0⟩).f1) := by
 have h := minC_best L hb (L.length - 1) (by omega)
 rw [show L.length - 1 + 1 = L.length by omega, List.take_length] at h
 rw [← h]
 cases L with
 | nil => cases h0
 | cons x r => rfl
theorem index_l0 (L : List S39) (hL : L.length ≤ 1000) (b : Nat) (hb : b < L.length) (hne : ∀ j, j < b → ¬ ((L.getD j ⟨0, 0⟩).f0 = (L.getD b ⟨0, 0⟩).f0 ∧ (L.getD j ⟨0, 0⟩).f1 = (L.getD b ⟨0, 0⟩).f1)) : ∀ (d k i : Nat), b - i = d → i ≤ b → d < k →
  impl_Corner_31.l0 k L (L.length : Int) (i : Int) (L.getD b ⟨0, 0⟩).f0 (L.getD b ⟨0, 0⟩).f1 = some (b : Int) := by
 intro d
 induction d with
 | zero =>
  intro k i h1 h2 h3
  obtain ⟨k, rfl⟩ : ∃ z, k = z + 1 := ⟨k - 1, by omega⟩
  obtain rfl : i = b := by omega
  have hrc : rd_T39 L (i : Int) = L.getD i ⟨0, 0⟩ := by unfold rd_T39; rw [Int.toNat_natCast]; rfl
  rw [impl_Corner_31.l0, if_pos (by omega), if_pos (by omega), if_pos (by omega), hrc, if_pos (by simp)]
 | succ d ih =>
  intro k i h1 h2 h3
  obtain ⟨k, rfl⟩ : ∃ z, k = z + 1 := ⟨k - 1, by omega⟩
  have hrc : rd_T39 L (i : Int) = L.getD i ⟨0, 0⟩ := by unfold rd_T39; rw [Int.toNat_natCast]; rfl
  have hn := hne i (by omega)
  have hbool : ((L.getD b ⟨0, 0⟩).f0 == (L.getD i ⟨0, 0⟩).f0 && ((L.getD b ⟨0, 0⟩).f1 == (L.getD i ⟨0, 0⟩).f1)) = false := by
   rw [Bool.eq_false_iff]
   intro h
   rw [Bool.and_eq_true, beq_iff_eq, beq_iff_eq] at h
   exact hn ⟨h.1.symm, h.2.symm⟩
  have c1 : (i : Int) < (L.length : Int) := by omega
  have c2 : (0 : Int) ≤ (i : Int) := by omega
  have e1 : wrap64 ((i : Int) + 1) = ((i + 1 : Nat) : Int) := by unfold wrap64; omega
  rw [impl_Corner_31.l0, if_pos c1, if_pos c2, if_pos c1, hrc, hbool, if_neg (by simp), e1]
  exact ih k (i + 1) (by omega) (by omega) (by omega)
theorem index_f (L : List S39) (hL : L.length ≤ 1000) (b : Nat) (hb : b < L.length) (hne : ∀ j, j < b → ¬ ((L.getD j ⟨0, 0⟩).f0 = (L.getD b ⟨0, 0⟩).f0 ∧ (L.getD j ⟨0, 0⟩).f1 = (L.getD b ⟨0, 0⟩).f1)) (k : Nat) (hk : 1000 < k) :
  impl_Corner_31.f k L (L.getD b ⟨0, 0⟩).f0 (L.getD b ⟨0, 0⟩).f1 = some (b : Int) :=
 index_l0 L hL b hb hne b k 0 (by omega) (by omega) (by omega)
theorem oppB_dir (b : UInt8) (hb : stepBW b = true) : 0 ≤ Int.tmod (wrap64 (dirN (b.toNat : Int) + 2)) 4 ∧ Int.tmod (wrap64 (dirN (b.toNat : Int) + 2)) 4 < 4 ∧ (⟨#[110, 101, 115, 119]⟩ : ByteArray).extract (Int.tmod (wrap64 (dirN (b.toNat : Int) + 2)) 4).toNat ((Int.tmod (wrap64 (dirN (b.toNat : Int) + 2)) 4).toNat + 1) = ⟨#[oppB b]⟩ := by
 unfold stepBW at hb
 rw [Bool.or_eq_true, Bool.or_eq_true, Bool.or_eq_true, beq_iff_eq, beq_iff_eq, beq_iff_eq, beq_iff_eq] at hb
 rcases hb with ((rfl | rfl) | rfl) | rfl
 ·rw [show (wrap64 (dirN ((110 : UInt8).toNat : Int) + 2)).tmod 4 = 2 by kernel_rfl, show oppB 110 = 115 by kernel_rfl]
  exact ⟨by omega, by omega, by rfl⟩
 ·rw [show (wrap64 (dirN ((101 : UInt8).toNat : Int) + 2)).tmod 4 = 3 by kernel_rfl, show oppB 101 = 119 by kernel_rfl]
  exact ⟨by omega, by omega, by rfl⟩
 ·rw [show (wrap64 (dirN ((115 : UInt8).toNat : Int) + 2)).tmod 4 = 0 by kernel_rfl, show oppB 115 = 110 by kernel_rfl]
  exact ⟨by omega, by omega, by rfl⟩
 ·rw [show (wrap64 (dirN ((119 : UInt8).toNat : Int) + 2)).tmod 4 = 1 by kernel_rfl, show oppB 119 = 101 by kernel_rfl]
  exact ⟨by omega, by omega, by rfl⟩
theorem loBack_l0 (t : ByteArray) (l : List UInt8) (hl : l = t.data.toList) (hn : l.length ≤ 1000) (hst : ∀ b ∈ l, stepBW b = true) : ∀ (i k : Nat) (x : ByteArray), i ≤ l.length → i + 100 < k → x.data.toList = (l.drop i).reverse.map oppB →
  ∃ r, spec_loBack.l0 k t x ((i : Int) - 1) = some r ∧ r.data.toList = l.reverse.map oppB
 | 0, k, x, h1, h2, h3 => by
  obtain ⟨k, rfl⟩ : ∃ z, k = z + 1 := ⟨k - 1, by omega⟩
  refine ⟨x, ?_, by rw [h3, List.drop_zero]⟩
  rw [spec_loBack.l0, if_neg (by omega)]
 | i + 1, k, x, h1, h2, h3 => by
  obtain ⟨k, rfl⟩ : ∃ z, k = z + 1 := ⟨k - 1, by omega⟩
  have hil : i < l.length := by omega
  have hts : t.size = l.length := by rw [hl]; simp
  have hbt : bt t (i : Int) = ((l[i].toNat : Nat) : Int) := by
   unfold bt
   rw [Int.toNat_natCast, dif_pos (by omega)]
   subst hl
   rfl
  obtain ⟨q0, q1, q2⟩ := oppB_dir l[i] (hst _ (List.getElem_mem hil))
  obtain ⟨r, hr1, hr2⟩ := loBack_l0 t l hl hn hst i k (x ++ ⟨#[oppB l[i]]⟩) (by omega) (by omega) (by
   rw [ByteArray.data_append, Array.toList_append, h3, List.drop_eq_getElem_cons hil, List.reverse_cons, List.map_append]
   rfl)
  refine ⟨r, ?_, hr2⟩
  have hdir := loDir_f ((l[i].toNat : Nat) : Int) k (by omega)
  have hxs : x.size = l.length - (i + 1) := by
   have h := congrArg List.length h3
   rw [List.length_map, List.length_reverse, List.length_drop] at h
   rw [← h]
   simp
  generalize hd : Int.tmod (wrap64 (dirN ((l[i].toNat : Nat) : Int) + 2)) 4 = d at q0 q1 q2
  have c0 : ((i + 1 : Nat) : Int) - 1 = (i : Int) := by omega
  have c1 : (i : Int) ≥ 0 := by omega
  have c2 : (0 : Int) ≤ (i : Int) := by omega
  have c3 : (i : Int) < (t.size : Int) := by omega
  have w0 : wrap64 ((i : Int) - 1) = (i : Int) - 1 := by unfold wrap64; omega
  have w1 : wrap64 (d + 1) = d + 1 := by unfold wrap64; clear w0; omega
  have c4 : d ≤ d + 1 := by omega
  have c5 : d + 1 ≤ ((⟨#[110, 101, 115, 119]⟩ : ByteArray).size : Int) := by
   have : (⟨#[110, 101, 115, 119]⟩ : ByteArray).size = 4 := rfl
   rw [this]; clear w0 w1; omega
  have c6 : (d + 1).toNat = d.toNat + 1 := by clear w0 w1; omega
  have c7 : x.size + (⟨#[oppB l[i]]⟩ : ByteArray).size ≤ 9223372036854775807 := by
   have : (⟨#[oppB l[i]]⟩ : ByteArray).size = 1 := rfl
   rw [this]; clear w0 w1; omega
  rw [spec_loBack.l0, c0, if_pos c1, if_pos c2, if_pos c3, hbt, hdir, Option.bind_some]
  unfold spec_liDirs.f
  rw [Option.bind_some, hd, if_pos q0, w1, if_pos c4, if_pos c5, c6, q2, if_pos c7, w0]
  exact hr1
theorem loBack_f (t : ByteArray) (hn : t.size ≤ 1000) (hst : ∀ b ∈ t.data.toList, stepBW b = true) (k : Nat) (hk : 2000 < k) : spec_loBack.f k t = some ⟨(t.data.toList.reverse.map oppB).toArray⟩ := by
 have hts : t.data.toList.length = t.size := by simp
 obtain ⟨r, h1, h2⟩ := loBack_l0 t t.data.toList rfl (by omega) hst t.data.toList.length k ⟨#[]⟩ (Nat.le_refl _) (by omega) (by rw [List.drop_length]; rfl)
 unfold spec_loBack.f
 have w0 : wrap64 ((t.size : Int) - 1) = (t.size : Int) - 1 := by unfold wrap64; omega
 rw [w0, ← hts, h1, ← h2]
theorem turnB_list (s : ByteArray) (b : Nat) : (turnB s b).data.toList = s.data.toList.drop b ++ s.data.toList.take b := by
 unfold turnB
 rw [ByteArray.data_append, Array.toList_append, ByteArray.data_extract, ByteArray.data_extract, Array.toList_extract, Array.toList_extract]
 rw [List.extract_eq_take_drop, List.extract_eq_take_drop, List.drop_zero, Nat.sub_zero, List.take_of_length_le (by rw [List.length_drop]; simp)]
theorem start_loop (s : ByteArray) (h : LoopW s) (k : Nat) (hk : 3000 < k) : spec_loStart.f k s = some (startB s (bestF ((cornersL s.data.toList).take s.size) s.size)) ∧ impl_started.f k s = some (startB s (bestF ((cornersL s.data.toList).take s.size) s.size)) := by
 have h4 := h.n4
 have h40 := h.n40
 have hn : s.data.toList.length = s.size := by simp
 have hcl := cornersL_len s.data.toList
 have hbd := cornersL_bound s.data.toList (by omega)
 have hLl : ((cornersL s.data.toList).take s.size).length = s.size := by rw [List.length_take]; omega
 have hcy := loCorners_yes s h k (by omega)
 have hbL : ∀ d ∈ (cornersL s.data.toList).take s.size, (-1000 ≤ d.f0 ∧ d.f0 ≤ 1000) ∧ (-1000 ≤ d.f1 ∧ d.f1 ≤ 1000) := fun d hd => hbd d (List.mem_of_mem_take hd)
 have hinj := h.inj
 have hne : ∀ i j, i < j → j < s.size → ¬ ((((cornersL s.data.toList).take s.size).getD i ⟨0, 0⟩).f0 = (((cornersL s.data.toList).take s.size).getD j ⟨0, 0⟩).f0 ∧ (((cornersL s.data.toList).take s.size).getD i ⟨0, 0⟩).f1 = (((cornersL s.data.toList).take s.size).getD j ⟨0, 0⟩).f1) := fun i j hij hj he => by
  rw [take_getD _ _ _ (by omega), take_getD _ _ _ hj] at he
  exact hinj i j hij hj (Prod.ext he.1 he.2)
 unfold impl_started.f spec_loStart.f
 rw [hcy, Option.bind_some]
 generalize (cornersL s.data.toList).take s.size = L at hLl hbL hne
 have hb := bestF_lt L s.size (by omega)
 have hmin := min_f L (by omega) hbL
 have hidx := index_f L (by omega) (bestF L s.size) (by omega) (fun j hj => hne j _ hj hb) k (by omega)
 rw [hLl] at hmin
 rw [hmin, Option.bind_some]
 dsimp only
 rw [hidx, Option.bind_some, hLl]
 generalize bestF L s.size = b at hb
 have k1 : s.size ≤ 1000 ∧ 0 < s.size ∧ s.size ≤ s.size := ⟨by omega, by omega, Nat.le_refl _⟩
 have k2 : (s.size ≤ 1000 ∧ 0 < s.size) ∧ 0 ≤ (b : Int) ∧ (b : Int) ≤ (s.size : Int) := ⟨⟨by omega, by omega⟩, by omega, by omega⟩
 rw [if_pos k1, if_pos k2, Int.toNat_natCast]
 refine ⟨?_, rfl⟩
 have hts := turnB_size s b (by omega)
 have htl := turnB_list s b
 have hst : ∀ c ∈ (turnB s b).data.toList, stepBW c = true := fun c hc => by
  rw [htl, List.mem_append] at hc
  rcases hc with hc | hc
  ·exact h.st c (List.mem_of_mem_drop hc)
  ·exact h.st c (List.mem_of_mem_take hc)
 have hback := loBack_f (turnB s b) (by omega) hst k (by omega)
 have hlen : (turnB s b).data.toList.length = s.size := by rw [← hts]; simp
 have hb0 : bt (turnB s b) 0 = (((turnB s b).data.toList.getD 0 0).toNat : Int) := by
  unfold bt
  rw [dif_pos (show (0 : Int).toNat < _ by rw [hts]; show 0 < _; omega), getD_at _ _ _ (by omega)]
  rfl
 rw [hb0, hback]
 unfold startB startL
 by_cases c : (turnB s b).data.toList.getD 0 0 = 101
 ·rw [if_pos c, if_pos (by rw [c]; rfl)]
 ·rw [if_neg c, if_neg (fun h2 => c (UInt8.toNat_inj.1 (show _ = 101 by omega)))]


theorem oppB_step (c : UInt8) (h : stepBW c = true) : stepBW (oppB c) = true := by
  unfold stepBW at h
  rw [Bool.or_eq_true, Bool.or_eq_true, Bool.or_eq_true, beq_iff_eq, beq_iff_eq, beq_iff_eq, beq_iff_eq] at h
  rcases h with ((rfl | rfl) | rfl) | rfl <;> kernel_rfl
theorem startB_steps (s : ByteArray) (b : Nat) (h : ∀ c ∈ s.data.toList, stepBW c = true) : (startB s b).data.toList.all stepBW = true := by
  rw [List.all_eq_true]
  intro c hc
  have ht : ∀ c ∈ (turnB s b).data.toList, stepBW c = true := fun c hc => by
    rw [turnB_list, List.mem_append] at hc
    rcases hc with hc | hc
    · exact h c (List.mem_of_mem_drop hc)
    · exact h c (List.mem_of_mem_take hc)
  unfold startB startL at hc
  split at hc
  · exact ht c (by simpa using hc)
  · have hc2 : c ∈ (turnB s b).data.toList.reverse.map oppB := by simpa using hc
    obtain ⟨d, hd, rfl⟩ := List.mem_map.1 hc2
    exact oppB_step d (ht d (List.mem_reverse.1 hd))
theorem startB_size (s : ByteArray) (b : Nat) (h : b ≤ s.size) : (startB s b).size = s.size := by
  have ht := turnB_size s b h
  have hl : (turnB s b).data.toList.length = s.size := by rw [← ht]; simp
  show (startL (turnB s b).data.toList).toArray.size = _
  rw [List.size_toArray]
  unfold startL
  split
  · exact hl
  · rw [List.length_map, List.length_reverse, hl]


theorem dropWhile_head {α : Type} {p : α → Bool} : ∀ {l : List α} {a : α} {t : List α}, l.dropWhile p = a :: t → p a = false
 | [], a, t, h => by simp at h
 | b :: l, a, t, h => by
  rw [List.dropWhile_cons] at h
  split at h
  ·exact dropWhile_head h
  ·rename_i hb
   injection h with h1 _
   subst h1
   simpa using hb
theorem dropWhile_nil {α : Type} {p : α → Bool} : ∀ {l : List α}, l.dropWhile p = [] ↔ ∀ x ∈ l, p x = true
 | [] => by simp
 | b :: l => by
  rw [List.dropWhile_cons]
  cases hb : p b with
  | true =>
   rw [if_pos rfl, dropWhile_nil]
   constructor
   ·intro h x hx
    rcases List.mem_cons.1 hx with rfl | hx
    ·exact hb
    ·exact h x hx
   ·intro h x hx
    exact h x (List.mem_cons_of_mem _ hx)
  | false =>
   rw [if_neg (by simp)]
   constructor
   ·intro h; cases h
   ·intro h
    have := h b List.mem_cons_self
    rw [hb] at this
    cases this
theorem trim_nil (l cs : List UInt8) : (Lib.trimS l cs).isEmpty = l.all fun b => cs.contains b := by
 unfold Lib.trimS Lib.trimLeftS Lib.trimRightS
 rw [Bool.eq_iff_iff, List.isEmpty_iff, List.all_eq_true]
 constructor
 ·intro h x hx
  rw [dropWhile_nil] at h
  cases hr : l.reverse.dropWhile (cs.contains ·) with
  | nil =>
   rw [dropWhile_nil] at hr
   exact hr x (List.mem_reverse.2 hx)
  | cons a t =>
   have h1 := dropWhile_head hr
   have h2 := h a (by rw [hr]; simp)
   rw [h1] at h2
   cases h2
 ·intro h
  have hr : l.reverse.dropWhile (cs.contains ·) = [] := by
   rw [dropWhile_nil]
   intro x hx
   exact h x (List.mem_reverse.1 hx)
  rw [hr]
  rfl
theorem stepsOnly_all (s : ByteArray) : stepsOnly s = s.data.toList.all stepBW := by
 unfold stepsOnly
 rw [trim_nil]
 congr 1
 funext b
 unfold stepBW stepsB
 simp only [List.contains_cons, List.contains_nil]
 cases (b == 110) <;> cases (b == 101) <;> cases (b == 115) <;> cases (b == 119) <;> rfl
theorem seenC_mem : ∀ (l : List S39) (c : Int × Int), c ∈ seenC l ↔ c ∈ l.map pairC := by
 intro l
 have key : ∀ (l : List S39) (S : List (Int × Int)) (c : Int × Int), c ∈ l.foldl (fun S c => if pairC c ∈ S then S else pairC c :: S) S ↔ c ∈ S ∨ c ∈ l.map pairC := by
  intro l
  induction l with
  | nil => intro S c; simp
  | cons a t ih =>
   intro S c
   rw [List.foldl_cons, ih, List.map_cons, List.mem_cons]
   by_cases ha : pairC a ∈ S
   ·rw [if_pos ha]
    constructor
    ·rintro (h | h)
     ·exact .inl h
     ·exact .inr (.inr h)
    ·rintro (h | rfl | h)
     ·exact .inl h
     ·exact .inl ha
     ·exact .inr h
   ·rw [if_neg ha, List.mem_cons]
    constructor
    ·rintro ((h | h) | h)
     ·exact .inr (.inl h)
     ·exact .inl h
     ·exact .inr (.inr h)
    ·rintro (h | h | h)
     ·exact .inl (.inr h)
     ·exact .inl (.inl h)
     ·exact .inr h
 intro c
 have := key l [] c
 simpa [seenC] using this
theorem seenC_app (l m : List S39) : (seenC (l ++ m)).length ≤ (seenC l).length + m.length := by
 have key : ∀ (m : List S39) (S : List (Int × Int)), (m.foldl (fun S c => if pairC c ∈ S then S else pairC c :: S) S).length ≤ S.length + m.length := by
  intro m
  induction m with
  | nil => intro S; exact Nat.le_refl _
  | cons a t ih =>
   intro S
   rw [List.foldl_cons]
   have h1 := ih (if pairC a ∈ S then S else pairC a :: S)
   have h2 : (if pairC a ∈ S then S else pairC a :: S).length ≤ S.length + 1 := by split <;> simp
   rw [List.length_cons]
   omega
 unfold seenC
 rw [List.foldl_append]
 exact key m _
theorem loCorners_l0 (s : ByteArray) (l : List UInt8) (hl : l = s.data.toList) (hn : l.length ≤ 40) : ∀ (d k i : Nat), l.length - i = d → i ≤ l.length → d + 100 < k → (∀ b ∈ l.take i, stepBW b = true) → (seenC ((cornersL l).take i)).length = i →
  ∃ L, spec_loCorners.l0 k s ((cornersL l).take i) (i : Int) ((cornersL l).getD i ⟨0, 0⟩).f0 ((cornersL l).getD i ⟨0, 0⟩).f1 = some (L, l.all stepBW && closedW l) := by
 have hsz : s.size = l.length := by rw [hl]; simp
 have hcl := cornersL_len l
 intro d
 induction d with
 | zero =>
  intro k i h1 h2 h3 h4 h5
  obtain ⟨k, rfl⟩ : ∃ q, k = q + 1 := ⟨k - 1, by omega⟩
  obtain rfl : i = l.length := by omega
  refine ⟨(cornersL l).take l.length, ?_⟩
  simp only [spec_loCorners.l0]
  rw [if_neg (by omega)]
  have ha : l.all stepBW = true := by
   rw [List.all_eq_true]
   intro b hb
   exact h4 b (by rw [List.take_length]; exact hb)
  unfold closedW
  rw [ha, h5, Bool.true_and, decide_eq_true rfl, Bool.and_true]
 | succ d ih =>
  intro k i h1 h2 h3 h4 h5
  obtain ⟨k, rfl⟩ : ∃ q, k = q + 1 := ⟨k - 1, by omega⟩
  have hi : i < l.length := by omega
  have e1 : wrap64 ((i : Int) + 1) = ((i + 1 : Nat) : Int) := by unfold wrap64; omega
  have hbt : bt s (i : Int) = ((l[i].toNat : Nat) : Int) := by
   subst hl
   unfold bt
   rw [Int.toNat_natCast, dif_pos (by omega)]
   rfl
  have htl : ((cornersL l).take i).length = i := by rw [List.length_take, hcl]; omega
  have hci : i < (cornersL l).length := by omega
  have hgd : (cornersL l).getD i ⟨0, 0⟩ = (cornersL l)[i] := by rw [List.getD_eq_getElem?_getD, List.getElem?_eq_getElem hci]; rfl
  have hbd := cornersL_bound l (by omega) (cornersL l)[i] (List.getElem_mem hci)
  have htk : (cornersL l).take (i + 1) = (cornersL l).take i ++ [(cornersL l)[i]] := List.take_succ_eq_append_getElem hci
  have hsn := seenC_snoc ((cornersL l).take i) (cornersL l)[i]
  rw [← htk] at hsn
  simp only [spec_loCorners.l0]
  rw [if_pos (by omega), if_pos (by omega), hbt, loDir_f _ k (by omega), Option.bind_some]
  cases hst : stepBW l[i] with
  | false =>
   have hd : dirN ((l[i].toNat : Nat) : Int) < 0 := by
    by_cases h : dirN ((l[i].toNat : Nat) : Int) < 0
    ·exact h
    ·have := (dir_step l[i]).2 (by omega)
     rw [hst] at this; cases this
   have ha : l.all stepBW = false := by
    rw [List.all_eq_false]
    exact ⟨l[i], List.getElem_mem hi, by rw [hst]; simp⟩
   rw [if_pos hd, ha]
   exact ⟨_, rfl⟩
  | true =>
   rw [if_neg ((dir_step l[i]).1 hst), liHas_f _ _ _ (by omega) k (by omega), Option.bind_some, hgd]
   by_cases hin : ((cornersL l)[i].f0, (cornersL l)[i].f1) ∈ ((cornersL l).take i).map pairC
   ·rw [decide_eq_true hin, if_pos rfl]
    have hin2 : pairC (cornersL l)[i] ∈ seenC ((cornersL l).take i) := (seenC_mem _ _).2 hin
    rw [if_pos hin2] at hsn
    have happ := seenC_app ((cornersL l).take (i + 1)) (((cornersL l).take l.length).drop (i + 1))
    have hcat : (cornersL l).take (i + 1) ++ ((cornersL l).take l.length).drop (i + 1) = (cornersL l).take l.length := by
     have := List.take_append_drop (i + 1) ((cornersL l).take l.length)
     rw [List.take_take, Nat.min_eq_left (by omega)] at this
     exact this
    rw [hcat, hsn, h5, List.length_drop, List.length_take, hcl, Nat.min_eq_left (by omega)] at happ
    have hc : closedW l = false := by
     unfold closedW
     rw [decide_eq_false (by omega), Bool.and_false]
    rw [hc, Bool.and_false]
    exact ⟨_, rfl⟩
   ·rw [decide_eq_false hin, if_neg (by simp), if_pos (by rw [htl]; omega), loStepW_f _ _ l[i] hst hbd.1 hbd.2, Option.bind_some, e1]
    have hin2 : ¬ pairC (cornersL l)[i] ∈ seenC ((cornersL l).take i) := fun h => hin ((seenC_mem _ _).1 h)
    rw [if_neg hin2] at hsn
    have hnx : (cornersL l).getD (i + 1) ⟨0, 0⟩ = nextC (cornersL l)[i] ((l[i].toNat : Nat) : Int) := by
     have h9 := walk_at l ⟨0, 0⟩ i hi
     rw [← hgd]
     exact h9
    have := ih k (i + 1) (by omega) (by omega) (by omega) (fun b hb => by
     rw [List.take_succ_eq_append_getElem hi, List.mem_append, List.mem_singleton] at hb
     rcases hb with hb | rfl
     ·exact h4 b hb
     ·exact hst) (by rw [hsn, List.length_cons, h5])
    rw [hnx, htk] at this
    exact this
theorem spec_IsLoop_f (s : ByteArray) (k : Nat) (hk : 1000 < k) : spec_IsLoop.f k s = some (isLoopB s) := by
 unfold spec_IsLoop.f spec_loCorners.f isLoopB spec_l1In.f
 by_cases h1 : 4 ≤ s.size ∧ s.size ≤ 40
 ·have hl : s.data.toList.length = s.size := by simp
  obtain ⟨L, hL⟩ := loCorners_l0 s s.data.toList rfl (by omega) s.size k 0 (by omega) (by omega) (by omega) (fun b hb => by rw [List.take_zero] at hb; cases hb) (by rw [List.take_zero]; rfl)
  rw [List.take_zero] at hL
  rw [if_pos (by omega), decide_eq_true (show (s.size : Int) ≤ 40 by omega), Option.bind_some, if_pos rfl]
  have hL2 : spec_loCorners.l0 k s [] 0 0 0 = some (L, s.data.toList.all stepBW && closedW s.data.toList) := hL
  rw [hL2, Option.bind_some, decide_eq_true h1.1, decide_eq_true h1.2, stepsOnly_all]
  rfl
 ·have e : (decide (4 ≤ s.size) && decide (s.size ≤ 40)) = false := by
   rw [Bool.eq_false_iff]; intro h; rw [Bool.and_eq_true, decide_eq_true_iff, decide_eq_true_iff] at h; exact h1 h
  rw [e]
  by_cases h2 : (s.size : Int) ≥ 4
  ·rw [if_pos h2, decide_eq_false (by omega), Option.bind_some, if_neg (by simp)]
   rfl
  ·rw [if_neg h2, Option.bind_some, if_neg (by simp)]
   rfl
theorem seen_full (l : List S39) (h : (seenC l).length = l.length) (i j : Nat) (hij : i < j) (hj : j < l.length) : pairC (l.getD i ⟨0, 0⟩) ≠ pairC (l.getD j ⟨0, 0⟩) := by
 intro he
 have htk : l.take (j + 1) = l.take j ++ [l[j]] := List.take_succ_eq_append_getElem hj
 have hsn := seenC_snoc (l.take j) l[j]
 have hgi : l.getD i ⟨0, 0⟩ = l[i]'(by omega) := by rw [List.getD_eq_getElem?_getD, List.getElem?_eq_getElem (by omega)]; rfl
 have hgj : l.getD j ⟨0, 0⟩ = l[j] := by rw [List.getD_eq_getElem?_getD, List.getElem?_eq_getElem hj]; rfl
 rw [hgi, hgj] at he
 have hin : pairC l[j] ∈ seenC (l.take j) := by
  rw [seenC_mem, ← he]
  refine List.mem_map_of_mem (f := pairC) ?_
  rw [List.mem_take_iff_getElem]
  exact ⟨i, by omega, rfl⟩
 rw [if_pos hin, ← htk] at hsn
 have h1 := seenC_len (l.take j)
 have happ := seenC_app (l.take (j + 1)) (l.drop (j + 1))
 rw [List.take_append_drop, h, hsn, List.length_drop] at happ
 rw [List.length_take] at h1
 omega
theorem loop_parts (s : ByteArray) (h : isLoopB s = true) : 4 ≤ s.size ∧ s.size ≤ 40 ∧ (∀ b ∈ s.data.toList, stepBW b = true) ∧ ((cornersL s.data.toList).getD s.size ⟨0, 0⟩ = ⟨0, 0⟩) ∧ (seenC ((cornersL s.data.toList).take s.size)).length = s.size := by
 unfold isLoopB at h
 rw [Bool.and_eq_true, Bool.and_eq_true, Bool.and_eq_true, decide_eq_true_iff, decide_eq_true_iff, stepsOnly_all, List.all_eq_true] at h
 obtain ⟨⟨h4, h40⟩, hst, hcl⟩ := h
 unfold closedW at hcl
 have hl : s.data.toList.length = s.size := by simp
 rw [hl, Bool.and_eq_true, Bool.and_eq_true, beq_iff_eq, beq_iff_eq, decide_eq_true_iff] at hcl
 obtain ⟨⟨c0, c1⟩, hsn⟩ := hcl
 refine ⟨h4, h40, hst, ?_, hsn⟩
 generalize (cornersL s.data.toList).getD s.size ⟨0, 0⟩ = c at c0 c1
 cases c
 simp only at c0 c1
 rw [c0, c1]
theorem LoopW_of (s : ByteArray) (h : isLoopB s = true) : LoopW s := by
 obtain ⟨h4, h40, hst, hend, hsn⟩ := loop_parts s h
 have hcl := cornersL_len s.data.toList
 have hl : s.data.toList.length = s.size := by simp
 refine ⟨h4, h40, hst, hend, fun i j hij hj => ?_⟩
 have htl : ((cornersL s.data.toList).take s.size).length = s.size := by rw [List.length_take]; omega
 have := seen_full ((cornersL s.data.toList).take s.size) (by rw [hsn, htl]) i j hij (by omega)
 rw [take_getD _ _ _ (by omega), take_getD _ _ _ hj] at this
 exact this
end Go.Proofs.YtidabcihlamidaaDoor.P
/- The law FnExactTurnsOfLoop, as a statement of numbers and lists: both sides tell the same of every word; no condition. -/
namespace Go.Proofs.YtidabcihlamidaaDoor.Pure
open Go.RowKit Go.Proofs.YtidabcihlamidaaDoor.P Go.Proofs.YtidabcihlamidaaDoorW.PrintWords Go.Proofs.YtidabcihlamidaaDoorW.PrintLast
theorem FnExactTurnsOfLoop : laws_FnExactTurnsOfLoop.Pure := by
  intro a0 _
  refine ⟨5001, ?_⟩
  unfold laws_FnExactTurnsOfLoop.f
  by_cases h : (a0.size : Int) > 1000000
  · rw [if_pos h]
  · rw [if_neg h]
    have hI : impl_IsLoop.f a0 = some (isLoopB a0) := rfl
    unfold spec_TurnsOfLoop.f impl_TurnsOfLoop.f
    rw [spec_IsLoop_f a0 5001 (by decide), hI, Option.bind_some, Option.bind_some]
    cases hB : isLoopB a0 with
    | false => simp
    | true =>
      have hL := LoopW_of a0 hB
      have h4 := hL.n4
      have h40 := hL.n40
      obtain ⟨h1, h2⟩ := start_loop a0 hL 5001 (by decide)
      have hbl := bestF_le ((cornersL a0.data.toList).take a0.size) a0.size
      rw [if_pos rfl, if_pos rfl, h1, h2]
      simp only [Option.bind_some]
      generalize bestF ((cornersL a0.data.toList).take a0.size) a0.size = b at hbl
      have hsz := startB_size a0 b hbl
      have hst := startB_steps a0 b hL.st
      generalize startB a0 b = u at hsz hst
      have hc : u.size ≤ 1000 ∧ 0 < u.size ∧ u.data.toList.all stepBW = true := ⟨by omega, by omega, hst⟩
      simp only [if_pos hc, Option.bind_some]
      simp
end Go.Proofs.YtidabcihlamidaaDoor.Pure
/- A world in which utf8's two tables are laid. -/
namespace Go.Proofs.YtidabcihlamidaaDoor.LaidW
abbrev LAID : List (String × DataW Unit) := [("unicode/utf8.acceptRanges", Rows.laid_unicode_utf8_acceptRanges), ("unicode/utf8.first", Rows.laid_unicode_utf8_first)]
def cellsA : Array Value := ([128, 191, 160, 191, 128, 159, 144, 191, 128, 143, 0, 0, 0, 0, 0, 0, 0, 0, 0, 0, 0, 0, 0, 0, 0, 0, 0, 0, 0, 0, 0, 0].map fun k : Nat => Value.int .u8 (k : Int)).toArray
def cellsF : Array Value := (Go.Pinned.utf8FirstZ.map fun k : Nat => Value.int .u8 (k : Int)).toArray
def putCells (c : Array Value) : Obj → Obj
  | .cells _ t frozen => .cells c t frozen
  | o => o
noncomputable def laidWorld (os : Os) : World :=
  { World.holding Tryd.prog os ⟨#[], #[], []⟩ with heap := ((World.holding Tryd.prog os ⟨#[], #[], []⟩).heap.modify 2 (putCells cellsA)).modify 1 (putCells cellsF) }
set_option maxRecDepth 100000 in
theorem laidWorld_met (os : Os) (args : Array Value) : laidMetH Tryd.prog LAID ((laidWorld os).forCall (fun _ _ => 0) ⟨#[], args, []⟩).memory :=
  laidMetH_of_parts (laidMet_of_run' 8 (by kernel_rfl) (by kernel_rfl)) (by kernel_rfl)
end Go.Proofs.YtidabcihlamidaaDoor.LaidW
namespace Go.Proofs.YtidabcihlamidaaDoor.fnExactTurnsOfLoop
open Go.ChangeMaps (open_string shut_string)
open Go.ChangeShapes Go.WideShapes Go.ChangeAt Go.RowKit Go.Proofs.YtidabcihlamidaaDoorW.PrintWords Go.Joins
set_option linter.unusedVariables false
theorem own : ownKnob Tryd.prog.godebug = none := Closed.own
theorem laidOut : laidOutB Tryd.prog = true := Closed.laidOut
theorem joined_mk (P : Program) (f : FuncId) (fn : Func) (s : ChangeSpec) (c : OpenClaim) (k0 : (c.wf (OpenSpec.ofChange s)) = true) (k1 : (laidOutB P) = true) (k2 : (mapsRowed P) = true) (k3 : (fn.params.all (P.readableRec ·)) = true) (k4 : (namedTie P c.named s.vars) = true) (k5 : ((c.stops == [])) = true) (k6 : ((P.stops == [])) = true) (k7 : ((c.knobs == [])) = true) (k8 : ((P.stopKnobs == [])) = true) (k9 : ((c.inPlace == P.inPlace f)) = true) (k10 : ((c.unfollowed == P.unfollowed f)) = true) (k11 : ((c.recurses == P.recurses f)) = true) (k12 : ((c.named == P.varsNamed f)) = true) (k13 : ((c.maps == (fn.params.toList ++ s.plain.varTypes P).any (P.mapsRec ·))) = true) (k14 : ((c.ifaces == (fn.params.toList ++ s.plain.varTypes P).any (P.ifacesRec ·))) = true) (k15 : ((c.mapsOut == P.mapsAmong fn.resultTypes.toList)) = true) (k16 : ((c.loops == (fn.params.toList ++ s.plain.varTypes P).any (P.loopsFrom ·))) = true) (k17 : ((c.wideKeys == (fn.params.toList ++ s.plain.varTypes P ++ fn.resultTypes.toList).any (P.wideKeysFrom ·))) = true) (k18 : (s.vars.all (P.varReadable ·)) = true) (k19 : (fn.resultTypes.all (fun t => P.readableRec t && decide (t < P.types.size))) = true) (k20 : ((c.ifacesOut == fn.resultTypes.toList.any (P.ifacesRec ·))) = true) (k21 : ((c.loopsOut == fn.resultTypes.toList.any (P.loopsFrom ·))) = true) (k22 : ((c.plainKeys == P.plainKeys)) = true) (k23 : (c.shortTexts.isNone) = true) (k24 : (P.stopsHeard) = true) (k25 : (P.mayEnter) = true) (k26 : ((c.lifted == P.liftsFinal)) = true) (k27 : ((P.make == some c.make)) = true) (hd : c.domain.isEmpty = true) (k28 : (c.kinds == []) = true) (k29 : ((c.pinned == c.pinnedBy)) = true) (k30 : ((c.veiled == (fn.params.toList ++ s.plain.varTypes P ++ fn.resultTypes.toList).any (P.veiledRec ·))) = true) (k31 : (c.veiledFits P fn.params.toList (fn.params.toList ++ s.plain.varTypes P ++ fn.resultTypes.toList)) = true) : joinedFacts P f fn s c = true := by
 unfold joinedFacts
 simp only [hd, if_true, k0, k1, k2, k3, k4, k5, k6, k7, k8, k9, k10, k11, k12, k13, k14, k15, k16, k17, k18, k19, k20, k21, k22, k23, k24, k25, k26, k27, k28, k29, k30, k31, Bool.and_self]
abbrev LAID : List (String × DataW Unit) := LaidW.LAID
set_option maxRecDepth 100000 in
theorem lifted (os : Os) (started : os.Started) (H : Type) (enc : TypeId × Value → H) :
  ReturnsInHanded {} Tryd.checked os 4 .any (fun w args => (Rows.fnExactTurnsOfLoopSpec.pre enc Tryd.prog Tryd.f4 [] false w args ∧ laidMetH Tryd.prog LAID w) ∧ sizedMet enc Tryd.prog Tryd.f4 (OpenSpec.ofChange Rows.fnExactTurnsOfLoopSpec) false w args) (Rows.fnExactTurnsOfLoopSpec.post enc Tryd.prog Tryd.f4 false true false false) := by
 refine returnsInHanded_of_change_and (C := Tryd.checked) (X := fun w _ => laidMetH Tryd.prog LAID w) (fun _ _ _ hh h => h.of_heap hh) own started (by kernel_rfl) Tryd.func4 (ChangeSpec.witness_at (enc := enc) (C := Tryd.checked) (os := os) (X := fun w _ => laidMetH Tryd.prog LAID w) false (LaidW.laidWorld os) #[.string ByteArray.empty] 8 rfl (by kernel_rfl) (by kernel_rfl) (by kernel_rfl) (by kernel_rfl) (by kernel_rfl) (LaidW.laidWorld_met os _)) ?_
 intro W base args ds gs before hval0 hW hcnd hsz0 hL _
 have hsz : (DataW.weightsEach Tryd.prog (Tryd.f4.params.toList ++ Rows.fnExactTurnsOfLoopSpec.plain.varTypes Tryd.prog) (ds ++ gs)).all (· ≤ reachBytes) = true := hsz0
 have hval : ∀ (j : Nat) t v, Tryd.f4.params[j]? = some t → args[j]? = some v → Value.okWide Tryd.prog W .any base t v := hval0
 have hW' := hW
 obtain ⟨p, q, hA0, hV, rfl, hfz, hnd⟩ := hW
 have hA : DataW.TrodAll enc Tryd.prog W 0 (fun _ => true) true Tryd.f4.params.toList args.toList ds p := hA0
 rw [Tryd.params4] at hA hval hsz
 obtain ⟨v0, vs0, d0, ds0, p0, q0, hargs, rfl, rfl, h0, r0⟩ := trodAll_cons hA
 obtain ⟨rfl, rfl, rfl⟩ := trodAll_nil r0
 obtain rfl : args = #[v0] := by cases args; simp_all
 obtain ⟨rfl, rfl⟩ := trodVars_none hV
 obtain ⟨a0, rfl, rfl, rfl, y0⟩ := open_string Tryd.underlying9 (hval 0 9 v0 rfl rfl) h0
 have w0 : a0.size ≤ 140737488351232 := by
  have z := sized_string hsz (j := 0) (t := 9) rfl rfl
  rw [Array.length_toList] at z
  exact z
 clear hA0 hval0 hsz0 hsz
 refine (P.laws_FnExactTurnsOfLoop.walk Pure.FnExactTurnsOfLoop a0 W w0).mono fun e W' ⟨he, bel⟩ => ?_
 subst he
 exact ⟨_, rfl, _, _, _, [], _, [], hW', trodAll_mk1 (shut_bool Tryd.underlying4 _), (trodAll_cons_mk (shut_string Tryd.underlying9 y0) trodAll_mk0), rfl, bel.frame _, fun h => by cases h⟩
theorem k0_ : (Rows.fnExactTurnsOfLoopRow.wf (OpenSpec.ofChange Rows.fnExactTurnsOfLoopSpec)) = true := by kernel_rfl
theorem k1_ : (laidOutB Tryd.prog) = true := Closed.laidOut
theorem k2_ : (mapsRowed Tryd.prog) = true := Closed.mapsRowedP
theorem k3_ : (Tryd.f4.params.all (Tryd.prog.readableRec ·)) = true := by kernel_rfl
theorem k4_ : (namedTie Tryd.prog Rows.fnExactTurnsOfLoopRow.named Rows.fnExactTurnsOfLoopSpec.vars) = true := by kernel_rfl
theorem k5_ : ((Rows.fnExactTurnsOfLoopRow.stops == [])) = true := by kernel_rfl
theorem k6_ : ((Tryd.prog.stops == [])) = true := Closed.noStops
theorem k7_ : ((Rows.fnExactTurnsOfLoopRow.knobs == [])) = true := by kernel_rfl
theorem k8_ : ((Tryd.prog.stopKnobs == [])) = true := Closed.noKnobs
theorem k9_ : ((Rows.fnExactTurnsOfLoopRow.inPlace == Tryd.prog.inPlace 4)) = true := by kernel_rfl
theorem k10_ : ((Rows.fnExactTurnsOfLoopRow.unfollowed == Tryd.prog.unfollowed 4)) = true := by kernel_rfl
theorem k11_ : ((Rows.fnExactTurnsOfLoopRow.recurses == Tryd.prog.recurses 4)) = true := by kernel_rfl
theorem k12_ : ((Rows.fnExactTurnsOfLoopRow.named == Tryd.prog.varsNamed 4)) = true := by kernel_rfl
theorem k13_ : ((Rows.fnExactTurnsOfLoopRow.maps == (Tryd.f4.params.toList ++ Rows.fnExactTurnsOfLoopSpec.plain.varTypes Tryd.prog).any (Tryd.prog.mapsRec ·))) = true := by kernel_rfl
theorem k14_ : ((Rows.fnExactTurnsOfLoopRow.ifaces == (Tryd.f4.params.toList ++ Rows.fnExactTurnsOfLoopSpec.plain.varTypes Tryd.prog).any (Tryd.prog.ifacesRec ·))) = true := by kernel_rfl
theorem k15_ : ((Rows.fnExactTurnsOfLoopRow.mapsOut == Tryd.prog.mapsAmong Tryd.f4.resultTypes.toList)) = true := by kernel_rfl
theorem k16_ : ((Rows.fnExactTurnsOfLoopRow.loops == (Tryd.f4.params.toList ++ Rows.fnExactTurnsOfLoopSpec.plain.varTypes Tryd.prog).any (Tryd.prog.loopsFrom ·))) = true := by kernel_rfl
theorem k17_ : ((Rows.fnExactTurnsOfLoopRow.wideKeys == (Tryd.f4.params.toList ++ Rows.fnExactTurnsOfLoopSpec.plain.varTypes Tryd.prog ++ Tryd.f4.resultTypes.toList).any (Tryd.prog.wideKeysFrom ·))) = true := by kernel_rfl
theorem k18_ : (Rows.fnExactTurnsOfLoopSpec.vars.all (Tryd.prog.varReadable ·)) = true := by kernel_rfl
theorem k19_ : (Tryd.f4.resultTypes.all (fun t => Tryd.prog.readableRec t && decide (t < Tryd.prog.types.size))) = true := by kernel_rfl
theorem k20_ : ((Rows.fnExactTurnsOfLoopRow.ifacesOut == Tryd.f4.resultTypes.toList.any (Tryd.prog.ifacesRec ·))) = true := by kernel_rfl
theorem k21_ : ((Rows.fnExactTurnsOfLoopRow.loopsOut == Tryd.f4.resultTypes.toList.any (Tryd.prog.loopsFrom ·))) = true := by kernel_rfl
theorem k22_ : ((Rows.fnExactTurnsOfLoopRow.plainKeys == Tryd.prog.plainKeys)) = true := by kernel_rfl
theorem k23_ : (Rows.fnExactTurnsOfLoopRow.shortTexts.isNone) = true := by kernel_rfl
theorem k24_ : (Tryd.prog.stopsHeard) = true := Closed.stopsHeard
theorem k25_ : (Tryd.prog.mayEnter) = true := Closed.mayEnter
theorem k26_ : ((Rows.fnExactTurnsOfLoopRow.lifted == Tryd.prog.liftsFinal)) = true := by rw [Closed.liftsFinal]; kernel_rfl
theorem k27_ : ((Tryd.prog.make == some Rows.fnExactTurnsOfLoopRow.make)) = true := by rw [Closed.make]; kernel_rfl
theorem k28_ : ((Rows.fnExactTurnsOfLoopRow.kinds == [])) = true := by kernel_rfl
theorem k29_ : ((Rows.fnExactTurnsOfLoopRow.pinned == Rows.fnExactTurnsOfLoopRow.pinnedBy)) = true := by kernel_rfl
theorem k30_ : ((Rows.fnExactTurnsOfLoopRow.veiled == (Tryd.f4.params.toList ++ Rows.fnExactTurnsOfLoopSpec.plain.varTypes Tryd.prog ++ Tryd.f4.resultTypes.toList).any (Tryd.prog.veiledRec ·))) = true := by kernel_rfl
theorem k31_ : (Rows.fnExactTurnsOfLoopRow.veiledFits Tryd.prog Tryd.f4.params.toList (Tryd.f4.params.toList ++ Rows.fnExactTurnsOfLoopSpec.plain.varTypes Tryd.prog ++ Tryd.f4.resultTypes.toList)) = true := by kernel_rfl
theorem k99_ : (Rows.fnExactTurnsOfLoopRow.domain.isEmpty) = true := by kernel_rfl
theorem closed : joinedFacts Tryd.prog 4 Tryd.f4 Rows.fnExactTurnsOfLoopSpec Rows.fnExactTurnsOfLoopRow = true :=
 joined_mk _ _ _ _ _ k0_ k1_ k2_ k3_ k4_ k5_ k6_ k7_ k8_ k9_ k10_ k11_ k12_ k13_ k14_ k15_ k16_ k17_ k18_ k19_ k20_ k21_ k22_ k23_ k24_ k25_ k26_ k27_ k99_ k28_ k29_ k30_ k31_
theorem over : Rows.fnExactTurnsOfLoopRow.holds Tryd.pinned (OpenSpec.ofChange Rows.fnExactTurnsOfLoopSpec) :=
 OpenClaim.holds_of_wide 4 Tryd.f4 rfl rfl rfl rfl rfl rfl rfl ⟨rfl, rfl, rfl, rfl, rfl⟩ rfl rfl rfl rfl rfl (by kernel_rfl) Tryd.func4 closed
  (of_decide_eq_true (by kernel_rfl)) (by unfold Func.isWrapper; first | (rw [if_pos (by decide +kernel)]; kernel_rfl) | (rw [if_neg (by decide +kernel)]; exact ⟨rfl, rfl⟩))
  (fun os started H enc _ => lifted os started H enc)
theorem card : Rows.FnExactTurnsOfLoopCardSaid :=
 Claim7.holds_tied_plain_at .later [] [.data, .pinned] true (true, "39e9766c6d687e6b56245c8e51c8471dddc6b6a4ef44bfc62c7494308453a970") false
  over (fun _ h => by cases h) (by kernel_rfl) (fun _ h => by cases h) fnExactTurnsOfLoop_row_tie rfl ⟨rfl, rfl⟩ (by kernel_rfl) rfl
  (fun f fn hf hfn => by
   obtain rfl : f = 4 := Option.some.inj ((show Tryd.prog.funcNamed "loop.example/g01233/laws.FnExactTurnsOfLoop" = some 4 by kernel_rfl).symm.trans hf) |>.symm
   obtain rfl : fn = Tryd.f4 := (Option.some.inj (Tryd.func4.symm.trans hfn)).symm
   exact ⟨by kernel_rfl, fun j t ht => by
    rw [Tryd.params4] at ht
    have h3 : t = 9 := by
     rcases j with _ | j
     ·simpa using ht.symm
     ·simp at ht
    subst h3
    exact (show Tryd.prog.wantsStandIn 9 = false by kernel_rfl)⟩)
  (by kernel_rfl)
end Go.Proofs.YtidabcihlamidaaDoor.fnExactTurnsOfLoop
namespace Go.Proofs.YtidabcihlamidaaDoor
theorem fnExactTurnsOfLoop_holds : Rows.FnExactTurnsOfLoopCardSaid := fnExactTurnsOfLoop.card
end Go.Proofs.YtidabcihlamidaaDoor
