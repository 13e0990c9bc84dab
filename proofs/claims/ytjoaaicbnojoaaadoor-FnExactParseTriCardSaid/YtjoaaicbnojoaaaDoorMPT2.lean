/- For every input the law FnExactParseTri answers true: the program tells what the reference tells; no condition. (part 2 of the proof; the words of the kit's print tool and the texts of this seat, merged by a program) -/
import Derived.Below
import Derived.ChangeOld
import Derived.FnData
import Derived.Handed
import Derived.JoinedOf
import Derived.LaidHandle
import Derived.LaidLaws
import Derived.Lib.SlTrimSet
import Derived.Lib.SmallJoins
import Derived.OpenShut
import Derived.ProofKit
import Derived.SevenTiedAt
import Derived.Shelf.Vars
import Derived.ShutString
import Derived.SizedLaws
import Derived.Test.YtjoaaicbnojoaaaDoorCards
import Derived.Test.YtjoaaicbnojoaaaDoorClosed
import Derived.Test.YtjoaaicbnojoaaaDoorRows
import Derived.Test.YtjoaaicbnojoaaaDoorTie
import Derived.WalkKit
import Derived.Test.YtjoaaicbnojoaaaDoorMPT1
namespace Go.Proofs.YtjoaaicbnojoaaaDoor.P
open Go.RowKit Go.Proofs.YtjoaaicbnojoaaaDoorW.PrintWords Go.Proofs.YtjoaaicbnojoaaaDoorW.PrintLast Go.Proofs.YtjoaaicbnojoaaaDoorW.PrintMore
attribute [local go_sem] max2_int min2_int max_two min_two max_three min_three max_four min_four   -- for this text's walks alone
set_option linter.unusedVariables false
set_option linter.unusedSimpArgs false

theorem dropW_nil (p : UInt8 → Bool) : ∀ l : List UInt8, (l.dropWhile p = []) ↔ l.all p = true
 | [] => by simp
 | b :: t => by
  rw [List.dropWhile_cons, List.all_cons]
  by_cases h : p b = true
  ·rw [if_pos h, dropW_nil p t, h, Bool.true_and]
  ·rw [if_neg h]
   rw [Bool.not_eq_true] at h
   simp [h]
theorem dropW_all (p : UInt8 → Bool) : ∀ l : List UInt8, (l.dropWhile p).all p = l.all p
 | [] => rfl
 | b :: t => by
  rw [List.dropWhile_cons]
  by_cases h : p b = true
  ·rw [if_pos h, dropW_all p t, List.all_cons, h, Bool.true_and]
  ·rw [if_neg h]
theorem trim_nil (l cs : List UInt8) : Lib.trimS l cs = [] ↔ l.all (fun b => cs.contains b) = true := by
 unfold Lib.trimS Lib.trimLeftS Lib.trimRightS
 rw [dropW_nil, List.all_reverse, dropW_all, List.all_reverse]
theorem digits_has : ∀ b : UInt8, ([48, 49, 50, 51, 52, 53, 54, 55] : List UInt8).contains b = digB b := by
 have h : ∀ n : Fin 256, ([48, 49, 50, 51, 52, 53, 54, 55] : List UInt8).contains (UInt8.ofNat n.val) = digB (UInt8.ofNat n.val) := by decide +kernel
 intro b
 have := h ⟨b.toNat, b.toNat_lt⟩
 simpa using this
theorem trim_digits (s : ByteArray) (hs : s.size ≤ 1000000) : ∃ t, strings_Trim.f s (⟨#[48, 49, 50, 51, 52, 53, 54, 55]⟩ : ByteArray) = some t ∧ (t.toList != ([] : List UInt8)) = ! s.data.toList.all digB := by
 refine ⟨_, if_pos ⟨by omega, .inr rfl⟩, ?_⟩
 rw [Lib.toList_data]
 show (Lib.trimS s.data.toList [48, 49, 50, 51, 52, 53, 54, 55] != []) = _
 have h := trim_nil s.data.toList [48, 49, 50, 51, 52, 53, 54, 55]
 simp only [digits_has] at h
 have h2 : (fun b => digB b) = digB := rfl
 rw [h2] at h
 cases ha : s.data.toList.all digB with
 | true => rw [h.2 ha]; rfl
 | false =>
  rw [Bool.not_false, bne_iff_ne]
  intro h3
  rw [h.1 h3] at ha
  cases ha
theorem shl_one (n : Nat) (hn : n ≤ 60) : shl .u64 1 (n : Int) = ((2 ^ n : Nat) : Int) := by
 have h : ∀ n : Fin 61, shl .u64 1 ((n.val : Nat) : Int) = ((2 ^ n.val : Nat) : Int) := by decide +kernel
 exact h ⟨n, by omega⟩
theorem side_f {r q j : Nat} (hr : r ≤ 4) (hq : q ≤ r) (hj : j < 3) : impl_side.f (r : Int) (q : Int) (j : Int) = some ((2 ^ (3 * (triT r + q) + j) : Nat) : Int) := by
 have hT := triT_le (r := r) (by omega)
 have e : wrap64 ((wrap64 (3 * (wrap64 ((wrap64 (Int.tdiv (wrap64 ((r : Int) * (wrap64 ((r : Int) + 1)))) 2)) + (q : Int))))) + (j : Int)) = ((3 * (triT r + q) + j : Nat) : Int) := by
  have h := trCells_f r (by omega)
  unfold spec_trCells.f at h
  rw [Option.some.inj h, wrapS (x := ((triT r : Nat) : Int) + (q : Int)) (by omega) (by omega), wrapS (x := 3 * (((triT r : Nat) : Int) + (q : Int))) (by omega) (by omega), wrapS (by omega) (by omega)]
  omega
 unfold impl_side.f
 rw [e, if_pos (Int.natCast_nonneg _), shl_one _ (by omega)]
theorem bit_dig : ∀ v : Fin 8, ∀ j : Fin 3, (Go.bits .and .u8 (shr .u8 ((v.val : Nat) : Int) ((j.val : Nat) : Int)) 1 = 1) ↔ v.val.testBit j.val = true := by decide +kernel
def accM (r q M : Nat) : List UInt8 → Nat
 | [] => M
 | b :: t => accM r (q + 1) (M ||| digM (digV b) (triT r + q)) t
theorem accM_lt (r : Nat) : ∀ (l : List UInt8) (q M : Nat), l.all digB = true → M < 2 ^ (3 * (triT r + q)) → accM r q M l < 2 ^ (3 * (triT r + q + l.length))
 | [], q, M, _, h => h
 | b :: t, q, M, hd, h => by
  rw [List.all_cons, Bool.and_eq_true] at hd
  have := accM_lt r t (q + 1) _ hd.2 (or_digM h (digV_lt hd.1))
  rw [List.length_cons, show triT r + q + (t.length + 1) = triT r + (q + 1) + t.length by omega]
  exact this
theorem outP_bad : ∀ (l : List UInt8) (rest : List (List UInt8)) (r q M : Nat), r < 5 → ¬ (l.all digB = true ∧ q + l.length = r + 1) → outP r q M l rest = (0, [], false)
 | [], [], r, q, M, hr, h => by
  rw [outP, if_neg]
  intro h2
  exact h ⟨rfl, h2.2⟩
 | [], p :: rest, r, q, M, hr, h => by
  rw [outP, if_neg]
  intro h2
  exact h ⟨rfl, h2.2⟩
 | b :: t, rest, r, q, M, hr, h => by
  rw [outP]
  by_cases h2 : (r < 5 ∧ digB b = true) ∧ q ≤ r
  ·rw [if_pos h2]
   refine outP_bad t rest r (q + 1) _ hr (fun h3 => h ⟨?_, ?_⟩)
   ·rw [List.all_cons, h2.1.2, h3.1]
    rfl
   ·rw [List.length_cons]
    omega
  ·rw [if_neg h2]
theorem outP_good : ∀ (l : List UInt8) (rest : List (List UInt8)) (r q M : Nat), r < 5 → l.all digB = true → q + l.length = r + 1 → outP r q M l rest = outP r (r + 1) (accM r q M l) [] rest
 | [], rest, r, q, M, hr, hd, hl => by
  rw [show q = r + 1 from hl]
  rfl
 | b :: t, rest, r, q, M, hr, hd, hl => by
  rw [List.all_cons, Bool.and_eq_true] at hd
  rw [List.length_cons] at hl
  rw [outP, if_pos ⟨⟨hr, hd.1⟩, by omega⟩, outP_good t rest r (q + 1) _ hr hd.2 (by omega)]
  rfl
theorem tri_l2 (P : List ByteArray) (M r q : Nat) (t : ByteArray) (b : UInt8) (x17 : List ByteArray) (x18 x19 x36 : Int) (hr : r ≤ 4) (hq : q ≤ r) (hqs : q < t.size) (hb : bt t (q : Int) = ((b.toNat : Nat) : Int)) (hd : digB b = true) (hM : M < 2 ^ (3 * (triT r + q))) (k : Nat) :
  impl_ParseTri.l2 (k + 4) P (M : Int) (r : Int) t (q : Int) x17 x18 x19 x36 (q : Int) 0 = impl_ParseTri.l1 k P ((M ||| digM (digV b) (triT r + q) : Nat) : Int) (r : Int) t x17 x18 x19 x36 ((q + 1 : Nat) : Int) := by
 have hT := triT_le (r := r) (by omega)
 have hT14 : triT r + q ≤ 14 := by
  have h9 := triT_le (r := r + 1) (by omega)
  rw [triT_suc] at h9
  omega
 have hv := digV_lt hd
 have h48 : 48 ≤ b.toNat := by
  unfold digB at hd
  rw [Bool.and_eq_true, decide_eq_true_iff] at hd
  exact hd.1
 have hdv := digV_int h48
 have hM60 := Aside0.mk (cell60 hM (by omega))
 clear hM
 have hpw : ∀ j, j < 3 → Aside0 ((2 ^ (3 * (triT r + q) + j) : Nat) < 2 ^ 60) := fun j hj => ⟨Nat.pow_lt_pow_right (by omega) (by omega)⟩
 have hor : ∀ (X : Nat) (j : Nat), j < 3 → Aside0 (X < 2 ^ 60) → Aside0 ((X ||| (if (digV b).testBit j then 2 ^ (3 * (triT r + q) + j) else 0)) < 2 ^ 60) := fun X j hj hX => by
  refine ⟨Nat.or_lt_two_pow hX.out ?_⟩
  split
  ·exact (hpw j hj).out
  ·exact Nat.two_pow_pos _
 have step : ∀ (k j : Nat) (X : Nat), j < 3 → Aside0 (X < 2 ^ 60) → impl_ParseTri.l2 (k + 1) P (X : Int) (r : Int) t (q : Int) x17 x18 x19 x36 (q : Int) (j : Int) = impl_ParseTri.l2 k P ((X ||| (if (digV b).testBit j then 2 ^ (3 * (triT r + q) + j) else 0) : Nat) : Int) (r : Int) t (q : Int) x17 x18 x19 x36 (q : Int) ((j + 1 : Nat) : Int) := fun k j X hj hX => by
  have hbd := bit_dig ⟨digV b, hv⟩ ⟨j, hj⟩
  have hw : wrap64 ((j : Int) + 1) = ((j + 1 : Nat) : Int) := wrapN1 j (by omega)
  have e1 : (j : Int) < 3 := by omega
  have e2 : (q : Int) < (t.size : Int) := by omega
  have hor2 := or_u64 X _ hX.out (hpw j hj).out
  have hsd := side_f hr hq hj
  rw [impl_ParseTri.l2, if_pos e1, if_pos (Int.natCast_nonneg q), if_pos e2, if_pos (Int.natCast_nonneg j), hb, hdv, hw]
  by_cases h : (digV b).testBit j = true
  ·rw [if_pos (hbd.2 h), hsd, Option.bind_some, hor2, if_pos h]
  ·rw [if_neg (fun h2 => h (hbd.1 h2)), if_neg h, Nat.or_zero]
 have z0 : (0 : Int) = ((0 : Nat) : Int) := rfl
 rw [z0, step (k + 3) 0 M (by omega) hM60, step (k + 2) 1 _ (by omega) (hor M 0 (by omega) hM60), step (k + 1) 2 _ (by omega) (hor _ 1 (by omega) (hor M 0 (by omega) hM60))]
 have hw : wrap64 ((q : Int) + 1) = ((q + 1 : Nat) : Int) := wrapN1 q (by omega)
 have e3 : ¬ (((2 + 1 : Nat) : Int) < 3) := by decide
 rw [impl_ParseTri.l2, if_neg e3, hw, digM_bits hv]
 simp only [Nat.add_zero, Nat.or_assoc]
theorem tri_l1 (P : List ByteArray) (r : Nat) (t : ByteArray) (x17 : List ByteArray) (x18 x19 : Int) (hr : r ≤ 4) (ht : t.size = r + 1) (hall : t.data.toList.all digB = true) (k : Nat) : ∀ (d q M : Nat), r + 1 - q = d → q ≤ r + 1 → M < 2 ^ (3 * (triT r + q)) →
  impl_ParseTri.l1 (k + 5 * d + 1) P (M : Int) (r : Int) t x17 x18 x19 ((r + 1 : Nat) : Int) (q : Int) = impl_ParseTri.l0 k P ((accM r q M (t.data.toList.drop q) : Nat) : Int) x17 x18 (wrap64 (x19 + 1)) := by
 have hlen : t.data.toList.length = t.size := by simp
 intro d
 induction d with
 | zero =>
  intro q M h1 h2 hM
  clear hM
  rw [List.drop_of_length_le (by omega)]
  show impl_ParseTri.l1 (k + 1) _ _ _ _ _ _ _ _ _ = _
  rw [impl_ParseTri.l1, if_neg (by omega)]
  rfl
 | succ d ih =>
  intro q M h1 h2 hM
  have HM := Aside0.mk hM
  clear hM
  have hqt : q < t.data.toList.length := by omega
  have hd : digB t.data.toList[q] = true := List.all_eq_true.1 hall _ (List.getElem_mem hqt)
  have hbt : bt t (q : Int) = ((t.data.toList[q].toNat : Nat) : Int) := by
   unfold bt
   rw [Int.toNat_natCast, dif_pos (by omega)]
   rfl
  rw [show k + 5 * (d + 1) + 1 = (k + 5 * d + 1 + 4) + 1 by omega, impl_ParseTri.l1, if_pos (by omega), tri_l2 P M r q t _ x17 x18 x19 _ hr (by omega) (by omega) hbt hd HM.out, ih (q + 1) (M ||| digM (digV t.data.toList[q]) (triT r + q)) (by omega) (by omega) (or_digM HM.out (digV_lt hd)), List.drop_eq_getElem_cons hqt]
  rfl
theorem lt60_int {A : Nat} (h : A < 2 ^ 60) : (A : Int) < 1152921504606846976 := by
 have h2 : A < 1152921504606846976 := h
 omega
theorem implTri_l0 (P : List ByteArray) (hP : P.length ≤ 5) (hsz : ∀ s ∈ P, s.size ≤ 1000000) : ∀ (rest : List (List UInt8)) (p : List UInt8) (r M k : Nat), (P.map fun s => s.data.toList).drop r = p :: rest → M < 2 ^ (3 * triT r) → 40 * (rest.length + 1) < k →
  impl_ParseTri.l0 k P (M : Int) P (P.length : Int) (r : Int) = some (outP r 0 M p rest)
 | rest, p, r, M, k, hd, hM, hk => by
  have HM := Aside0.mk hM
  clear hM
  have hrl : r < P.length := by
   have h := congrArg List.length hd
   rw [List.length_drop, List.length_map, List.length_cons] at h
   omega
  have hlen : P.length = r + 1 + rest.length := by
   have h := congrArg List.length hd
   rw [List.length_drop, List.length_map, List.length_cons] at h
   omega
  obtain ⟨s, hs⟩ : ∃ s, P[r] = s := ⟨_, rfl⟩
  have hmem : s ∈ P := by rw [← hs]; exact List.getElem_mem hrl
  have hrl2 : r < (P.map fun s => s.data.toList).length := by rw [List.length_map]; exact hrl
  rw [List.drop_eq_getElem_cons hrl2, List.getElem_map, hs] at hd
  injection hd with hp hrest
  have hss := hsz s hmem
  have hsl : s.data.toList.length = s.size := by simp
  have hrd : rdOf ByteArray.empty P (r : Int) = s := by
   unfold rdOf
   rw [Int.toNat_natCast, List.getD_eq_getElem?_getD, List.getElem?_eq_getElem hrl, hs]
   rfl
  have hw : wrap64 ((r : Int) + 1) = ((r + 1 : Nat) : Int) := wrapN1 r (by omega)
  obtain ⟨tt, ht1, ht2⟩ := trim_digits s hss
  obtain ⟨k1, rfl⟩ : ∃ z, k = z + 1 + 1 := ⟨k - 2, by omega⟩
  by_cases hok : p.all digB = true ∧ 0 + p.length = r + 1
  ·have hsz1 : s.size = r + 1 := by rw [← hsl, hp]; omega
   have hr4 : r ≤ 4 := by omega
   obtain ⟨k, rfl⟩ : ∃ z, k1 = z + 5 * (r + 1) + 1 := ⟨k1 - 5 * (r + 1) - 1, by omega⟩
   have hl1 := tri_l1 P r s P (P.length : Int) (r : Int) hr4 hsz1 (by rw [hp]; exact hok.1) k (r + 1) 0 M (by omega) (by omega) HM.out
   rw [List.drop_zero, hp, hw] at hl1
   have hl1 : impl_ParseTri.l1 (k + 5 * (r + 1) + 1) P (M : Int) (r : Int) s P (P.length : Int) (r : Int) ((r + 1 : Nat) : Int) 0 = _ := hl1
   rw [impl_ParseTri.l0, if_pos (by omega), if_pos (by omega), if_pos (by omega), hrd, hw, if_pos (by omega), ht1, Option.bind_some, ht2, hp, hok.1, Bool.not_true, impl_ParseTri.j1, if_neg (by decide), hw, hl1, outP_good p rest r 0 M (by omega) hok.1 hok.2]
   have hA := accM_lt r p 0 M hok.1 HM.out
   rw [show triT r + 0 + p.length = triT (r + 1) by rw [triT_suc]; omega] at hA
   generalize accM r 0 M p = A at hA ⊢
   cases rest with
   | nil =>
    have hA60 : A < 2 ^ 60 := by
     have h9 := triT_le (r := r + 1) (by omega)
     exact Nat.lt_of_lt_of_le hA (Nat.pow_le_pow_right (by omega) (by omega))
    have HA := Aside0.mk hA60
    clear hA hA60
    obtain ⟨k, rfl⟩ : ∃ z, k = z + 1 := ⟨k - 1, by omega⟩
    have hn : P.length = r + 1 := by simpa using hlen
    have hls : impl_set_listed.f (A : Int) = some (bitsI A) := by
     unfold impl_set_listed.f
     rw [if_pos ⟨Int.natCast_nonneg _, lt60_int HA.out⟩, Int.toNat_natCast]
    rw [impl_ParseTri.l0, if_neg (by rw [hn]; exact Int.lt_irrefl _), hls, Option.bind_some, outP, if_pos ⟨Nat.lt_succ_of_le hr4, rfl⟩, hn]
   | cons p2 rest2 =>
    have HA := Aside0.mk hA
    clear hA
    rw [List.length_cons] at hk hlen
    rw [implTri_l0 P hP hsz rest2 p2 (r + 1) A k hrest HA.out (by omega), outP, if_pos ⟨by omega, rfl⟩]
  ·rw [outP_bad p rest r 0 M (by omega) hok, impl_ParseTri.l0, if_pos (by omega), if_pos (by omega), if_pos (by omega), hrd, hw]
   by_cases c1 : s.size = r + 1
   ·have hna : p.all digB = false := by
     rw [Bool.eq_false_iff]
     intro h2
     exact hok ⟨h2, by rw [← hp, hsl]; omega⟩
    rw [if_pos (by omega), ht1, Option.bind_some, ht2, hp, hna, Bool.not_false, impl_ParseTri.j1, if_pos rfl]
   ·rw [if_neg (by omega), impl_ParseTri.j1, if_pos rfl]
theorem level_tri (n : Nat) (h1 : 1 ≤ n) : impl_isLevel.f (n : Int) = some (decide (n ≤ 5)) := by
 unfold impl_isLevel.f impl_within.f
 rw [if_pos (by omega), Option.bind_some]
 congr 1
 rw [decide_eq_decide]
 omega
theorem outP_b : ∀ (rest : List (List UInt8)) (p : List UInt8) (r q M : Nat), (outP r q M p rest).2.1.length ≤ 64
 | rest, b :: t, r, q, M => by
  rw [outP]
  split
  ·exact outP_b rest t r _ _
  ·exact Nat.zero_le _
 | [], [], r, q, M => by
  rw [outP]
  split
  ·exact bitsI_len M
  ·exact Nat.zero_le _
 | p :: rest, [], r, q, M => by
  rw [outP]
  split
  ·exact outP_b rest p (r + 1) _ _
  ·exact Nat.zero_le _
termination_by rest p => (rest.length, p.length)
theorem cutL_len (c : UInt8) : ∀ l : List UInt8, ∀ p ∈ cutL c l, p.length ≤ l.length
 | [], p, hp => by
  rw [cutL, List.mem_singleton] at hp
  rw [hp]
  exact Nat.le_refl _
 | b :: t, p, hp => by
  have ih := cutL_len c t
  rw [cutL] at hp
  rw [List.length_cons]
  by_cases h : b = c
  ·rw [if_pos h, List.mem_cons] at hp
   rcases hp with rfl | hp
   ·exact Nat.zero_le _
   ·exact Nat.le_succ_of_le (ih p hp)
  ·rw [if_neg h] at hp
   cases hc : cutL c t with
   | nil => exact absurd hc (cutL_ne c t)
   | cons x r =>
    rw [hc] at hp ih
    have hp : p ∈ (b :: x) :: r := hp
    rw [List.mem_cons] at hp
    rcases hp with rfl | hp
    ·rw [List.length_cons]
     exact Nat.succ_le_succ (ih x List.mem_cons_self)
    ·exact Nat.le_succ_of_le (ih p (List.mem_cons_of_mem _ hp))
theorem implTri_f (s : ByteArray) (hs : s.size ≤ 1000000) (p : List UInt8) (rest : List (List UInt8)) (hc : cutL 47 s.data.toList = p :: rest) (k : Nat) (hk : 1000 < k) : impl_ParseTri.f k s = some (outP 0 0 0 p rest) := by
 have hsp := split_cut 47 s
 rw [hc] at hsp
 unfold impl_ParseTri.f strings_Split.f
 rw [if_pos ⟨by omega, by decide⟩, Option.bind_some]
 have hmem : ∀ x ∈ Lib.splitB ⟨#[47]⟩ 0 (Lib.countB s ⟨#[47]⟩) s, x.size ≤ 1000000 := by
  intro x hx
  have h1 : x.data.toList ∈ cutL 47 s.data.toList := by
   rw [hc, ← hsp]
   exact List.mem_map.2 ⟨x, hx, rfl⟩
  have h2 := cutL_len 47 _ _ h1
  have e1 : x.data.toList.length = x.size := by simp
  have e2 : s.data.toList.length = s.size := by simp
  rw [e1, e2] at h2
  exact Nat.le_trans h2 hs
 generalize Lib.splitB ⟨#[47]⟩ 0 (Lib.countB s ⟨#[47]⟩) s = P at hsp hmem ⊢
 have hlen : P.length = rest.length + 1 := by
  have h := congrArg List.length hsp
  rw [List.length_map, List.length_cons] at h
  exact h
 rw [level_tri _ (by omega), Option.bind_some]
 by_cases h5 : P.length ≤ 5
 ·rw [if_pos (decide_eq_true h5)]
  have := implTri_l0 P h5 hmem rest p 0 0 k (by rw [List.drop_zero]; exact hsp) (by decide) (by omega)
  exact this
 ·rw [if_neg (by rw [decide_eq_true_iff]; exact h5), outP_far rest p 0 0 0 (by omega)]


def laws_roomBehind.f (a0 : Int) : Option (Int) := if (Int.tmod a0 6) = 5 then (some 0) else (if (Int.tmod a0 3) = 0 then (some 1) else (some a0))


def laws_szIntS.f (l0 : List Int) (a1 : Int) : Option (Int) := if (wrap64 (a1 - (l0.length : Int))) < 0 then (some (-1)) else (some (wrap64 (a1 - (l0.length : Int))))

def laws_szFigure.f (a0_0 : Int) (a0_1 : Int) (l0_2 : List Int) (l0_3 : List Int) (a1 : Int) : Option (Int) := (laws_szIntS.f l0_2 a1).bind fun t165 => (if t165 < 0 then (some (-1)) else ((laws_szIntS.f l0_3 t165).bind fun t166 => (if t166 < 0 then (some (-1)) else (some t166))))

mutual
def laws_toIntS.j0 : Nat → List Int → Bool → Option (List Int)
  | 0, _, _ => none
  | k + 1, x0, x13 => if x13 = true then (some ([] : List Int)) else ((laws_roomBehind.f (x0.length : Int)).bind fun t204 => (if 0 ≤ (wrap64 ((x0.length : Int) + t204)) then (if (wrap64 ((x0.length : Int) + t204) : Int).toNat ≤ 35184372088832 then (laws_toIntS.l0 k x0 (List.replicate (wrap64 ((x0.length : Int) + t204) : Int).toNat 0) 0) else (none)) else (none)))
def laws_toIntS.l0 : Nat → List Int → List Int → Int → Option (List Int)
  | 0, _, _, _ => none
  | k + 1, x0, x5, x6 => if x6 < (x0.length : Int) then (if 0 ≤ x6 then (if x6 < (x5.length : Int) then (laws_toIntS.l0 k x0 (x5.set (x6 : Int).toNat (rd x0 x6)) (wrap64 (x6 + 1))) else (none)) else (none)) else (laws_toIntS.l1 k x0 x5 (x0.length : Int))
def laws_toIntS.l1 : Nat → List Int → List Int → Int → Option (List Int)
  | 0, _, _, _ => none
  | k + 1, x0, x5, x7 => if x7 < (x5.length : Int) then (if 0 ≤ x7 then (laws_toIntS.l1 k x0 (x5.set (x7 : Int).toNat (-7000000000000000101)) (wrap64 (x7 + 1))) else (none)) else (if 0 ≤ (x0.length : Int) then (if (x0.length : Int) ≤ (x5.length : Int) then (some (x5.take ((x0.length : Int) : Int).toNat)) else (none)) else (none))
end
def laws_toIntS.f (k : Nat) (l0 : List Int) (a1 : Bool) : Option (List Int) := if a1 = true then (laws_toIntS.j0 k l0 ((l0.length : Int) == 0)) else (laws_toIntS.j0 k l0 false)
theorem laws_toIntS.mono_l : ∀ k, (∀ y0 y1, LeO (laws_toIntS.j0 k y0 y1) (laws_toIntS.j0 (k + 1) y0 y1)) ∧ (∀ y0 y1 y2, LeO (laws_toIntS.l0 k y0 y1 y2) (laws_toIntS.l0 (k + 1) y0 y1 y2)) ∧ (∀ y0 y1 y2, LeO (laws_toIntS.l1 k y0 y1 y2) (laws_toIntS.l1 (k + 1) y0 y1 y2))
  | 0 => ⟨fun _ _ r h => by simp [laws_toIntS.j0] at h, fun _ _ _ r h => by simp [laws_toIntS.l0] at h, fun _ _ _ r h => by simp [laws_toIntS.l1] at h⟩
  | k + 1 => by
    obtain ⟨ih0, ih1, ih2⟩ := laws_toIntS.mono_l k
    refine ⟨?_, ?_, ?_⟩
    · intro y0 y1
      unfold laws_toIntS.j0
      repeat' first
      | (with_reducible exact ih0 _ _)
      | (with_reducible exact ih1 _ _ _)
      | (with_reducible exact ih2 _ _ _)
      | (with_reducible exact LeO.refl _)
      | (with_reducible exact LeO.none _)
      | (with_reducible refine LeO.ite ?_ ?_)
      | (with_reducible refine LeO.bind ?_ (fun _ => ?_))
      | exact ih0 _ _
      | exact ih1 _ _ _
      | exact ih2 _ _ _
      | exact LeO.none _
      | refine LeO.ite ?_ ?_
      | refine LeO.bind ?_ (fun _ => ?_)
    · intro y0 y1 y2
      unfold laws_toIntS.l0
      repeat' first
      | (with_reducible exact ih0 _ _)
      | (with_reducible exact ih1 _ _ _)
      | (with_reducible exact ih2 _ _ _)
      | (with_reducible exact LeO.refl _)
      | (with_reducible exact LeO.none _)
      | (with_reducible refine LeO.ite ?_ ?_)
      | (with_reducible refine LeO.bind ?_ (fun _ => ?_))
      | exact ih0 _ _
      | exact ih1 _ _ _
      | exact ih2 _ _ _
      | exact LeO.none _
      | refine LeO.ite ?_ ?_
      | refine LeO.bind ?_ (fun _ => ?_)
    · intro y0 y1 y2
      unfold laws_toIntS.l1
      repeat' first
      | (with_reducible exact ih0 _ _)
      | (with_reducible exact ih1 _ _ _)
      | (with_reducible exact ih2 _ _ _)
      | (with_reducible exact LeO.refl _)
      | (with_reducible exact LeO.none _)
      | (with_reducible refine LeO.ite ?_ ?_)
      | (with_reducible refine LeO.bind ?_ (fun _ => ?_))
      | exact ih0 _ _
      | exact ih1 _ _ _
      | exact ih2 _ _ _
      | exact LeO.none _
      | refine LeO.ite ?_ ?_
      | refine LeO.bind ?_ (fun _ => ?_)
theorem laws_toIntS.mono : ∀ a0 a1 k, LeO (laws_toIntS.f k a0 a1) (laws_toIntS.f (k + 1) a0 a1) := by
  intro a0 a1 k
  obtain ⟨ih0, ih1, ih2⟩ := laws_toIntS.mono_l k
  unfold laws_toIntS.f
  repeat' first
      | (with_reducible exact ih0 _ _)
      | (with_reducible exact ih1 _ _ _)
      | (with_reducible exact ih2 _ _ _)
      | (with_reducible exact LeO.refl _)
      | (with_reducible exact LeO.none _)
      | (with_reducible refine LeO.ite ?_ ?_)
      | (with_reducible refine LeO.bind ?_ (fun _ => ?_))
      | exact ih0 _ _
      | exact ih1 _ _ _
      | exact ih2 _ _ _
      | exact LeO.none _
      | refine LeO.ite ?_ ?_
      | refine LeO.bind ?_ (fun _ => ?_)

def laws_toFigure.f (k : Nat) (a0_0 : Int) (a0_1 : Int) (l0_2 : List Int) (l0_3 : List Int) (a1 : Bool) : Option (Int × Int × List Int × List Int) := (laws_toIntS.f k l0_2 a1).bind fun t217 => ((laws_toIntS.f k l0_3 a1).bind fun t220 => (some (a0_0, a0_1, t217, t220)))
theorem laws_toFigure.mono : ∀ a0 a1 a2 a3 a4 k, LeO (laws_toFigure.f k a0 a1 a2 a3 a4) (laws_toFigure.f (k + 1) a0 a1 a2 a3 a4) := by
  intro a0 a1 a2 a3 a4 k
  unfold laws_toFigure.f
  repeat' first
      | (with_reducible exact laws_toIntS.mono _ _ _)
      | (with_reducible exact LeO.refl _)
      | (with_reducible exact LeO.none _)
      | (with_reducible refine LeO.ite ?_ ?_)
      | (with_reducible refine LeO.bind ?_ (fun _ => ?_))
      | exact laws_toIntS.mono _ _ _
      | exact LeO.none _
      | refine LeO.ite ?_ ?_
      | refine LeO.bind ?_ (fun _ => ?_)

def laws_markFigure.f (k : Nat) (a0_0 : Int) (a0_1 : Int) (l0_2 : List Int) (l0_3 : List Int) (a1 : Int) : Option (Int × List Int × List Int) := (laws_markIntS.f k l0_2 a1).bind fun bt385 => ((laws_markIntS.f k l0_3 bt385.1).bind fun bt387 => (some (bt387.1, bt385.2, bt387.2)))
theorem laws_markFigure.mono : ∀ a0 a1 a2 a3 a4 k, LeO (laws_markFigure.f k a0 a1 a2 a3 a4) (laws_markFigure.f (k + 1) a0 a1 a2 a3 a4) := by
  intro a0 a1 a2 a3 a4 k
  unfold laws_markFigure.f
  repeat' first
      | (with_reducible exact laws_markIntS.mono _ _ _)
      | (with_reducible exact LeO.refl _)
      | (with_reducible exact LeO.none _)
      | (with_reducible refine LeO.ite ?_ ?_)
      | (with_reducible refine LeO.bind ?_ (fun _ => ?_))
      | exact laws_markIntS.mono _ _ _
      | exact LeO.none _
      | refine LeO.ite ?_ ?_
      | refine LeO.bind ?_ (fun _ => ?_)

def marks (n : Nat) (a : Int) : List Int := (List.range n).map fun (i : Nat) => a + (i : Int)
theorem markIntS_l0 (l : List Int) (a : Int) (ha : 0 ≤ a) (hb : (l.length : Int) + a ≤ 100000000) : ∀ (d k kk : Nat), l.length - kk = d → kk ≤ l.length → d < k →
    laws_markIntS.l0 k (marks kk a ++ l.drop kk) (a + kk) (kk : Int) = some (a + l.length, marks l.length a) := by
  intro d
  induction d with
  | zero =>
    intro k kk h1 h2 h3
    obtain ⟨k, rfl⟩ : ∃ m, k = m + 1 := ⟨k - 1, by omega⟩
    obtain rfl : kk = l.length := by omega
    have hl : (marks l.length a ++ l.drop l.length).length = l.length := by simp [marks]
    simp only [laws_markIntS.l0]
    rw [hl, if_neg (by omega), List.drop_length, List.append_nil]
  | succ d ih =>
    intro k kk h1 h2 h3
    obtain ⟨k, rfl⟩ : ∃ m, k = m + 1 := ⟨k - 1, by omega⟩
    have hl : (marks kk a ++ l.drop kk).length = l.length := by simp [marks]; omega
    have hmk : (marks kk a).length = kk := by simp [marks]
    have e1 : wrap64 (a + (kk : Int) + 1) = a + ((kk + 1 : Nat) : Int) := by unfold wrap64; omega
    have e2 : wrap64 ((kk : Int) + 1) = ((kk + 1 : Nat) : Int) := by unfold wrap64; omega
    have e3 : (marks kk a ++ l.drop kk).set kk (a + (kk : Int)) = marks (kk + 1) a ++ l.drop (kk + 1) := by
      rw [List.drop_eq_getElem_cons (show kk < l.length by omega), List.set_append, if_neg (by omega), hmk, Nat.sub_self, List.set_cons_zero]
      simp [marks, List.range_succ]
    simp only [laws_markIntS.l0]
    rw [hl, if_pos (by omega), if_pos (by omega), Int.toNat_natCast, e3, e1, e2]
    exact ih k (kk + 1) (by omega) (by omega) (by omega)
theorem markIntS_f (l : List Int) (a : Int) (ha : 0 ≤ a) (hb : (l.length : Int) + a ≤ 100000000) (k : Nat) (hk : l.length < k) : laws_markIntS.f k l a = some (a + l.length, marks l.length a) := by
  unfold laws_markIntS.f
  have := markIntS_l0 l a ha hb l.length k 0 (by omega) (by omega) hk
  simpa [marks] using this

theorem eqIntS_l0 (L : List Int) (hL : L.length ≤ 4000000) : ∀ (d : Nat) (k : Nat) (i : Nat), L.length - i = d → i ≤ L.length → d < k → laws_eqIntS.l0 k L L (i : Int) = some true := by
  intro d
  induction d with
  | zero =>
    intro k i h1 h2 h3
    obtain ⟨k, rfl⟩ : ∃ m, k = m + 1 := ⟨k - 1, by omega⟩
    simp only [laws_eqIntS.l0]
    rw [if_neg (by omega)]
  | succ d ih =>
    intro k i h1 h2 h3
    obtain ⟨k, rfl⟩ : ∃ m, k = m + 1 := ⟨k - 1, by omega⟩
    simp only [laws_eqIntS.l0]
    rw [if_pos (by omega), if_pos (by omega), if_pos (by omega), if_pos trivial, show wrap64 ((i : Int) + 1) = ((i + 1 : Nat) : Int) by unfold wrap64; omega]
    exact ih k (i + 1) (by omega) (by omega) (by omega)
theorem eqIntS_refl (L : List Int) (hL : L.length ≤ 4000000) (k : Nat) (hk : L.length < k) : laws_eqIntS.f k L L = some true := by
  unfold laws_eqIntS.f
  rw [if_pos rfl]
  exact eqIntS_l0 L hL L.length k 0 (by omega) (by omega) hk
theorem marks_len (n : Nat) (a : Int) : (marks n a).length = n := by simp [marks]
theorem rd_marks (n : Nat) (a : Int) (i : Nat) (h : i < n) : rd (marks n a) (i : Int) = a + (i : Int) := by
  rw [rd_nat _ _ (by rw [marks_len]; exact h)]
  simp [marks]
theorem heldIntS_l0 (n : Nat) (a : Int) (ha : 0 ≤ a) (hb : (n : Int) + a ≤ 100000000) : ∀ (d k kk : Nat), n - kk = d → kk ≤ n → d < k → laws_heldIntS.l0 k (marks n a) (a + kk) (kk : Int) = some (a + n) := by
  intro d
  induction d with
  | zero =>
    intro k kk h1 h2 h3
    obtain ⟨k, rfl⟩ : ∃ m, k = m + 1 := ⟨k - 1, by omega⟩
    obtain rfl : kk = n := by omega
    simp only [laws_heldIntS.l0]
    rw [marks_len, if_neg (by omega)]
  | succ d ih =>
    intro k kk h1 h2 h3
    obtain ⟨k, rfl⟩ : ∃ m, k = m + 1 := ⟨k - 1, by omega⟩
    have e1 : wrap64 (a + (kk : Int) + 1) = a + ((kk + 1 : Nat) : Int) := by unfold wrap64; omega
    have e2 : wrap64 ((kk : Int) + 1) = ((kk + 1 : Nat) : Int) := by unfold wrap64; omega
    simp only [laws_heldIntS.l0]
    rw [marks_len, if_pos (by omega), if_pos (by omega), rd_marks n a kk (by omega), e1, e2]
    first
      | (rw [if_pos rfl]; exact ih k (kk + 1) (by omega) (by omega) (by omega))
      | (rw [if_neg (by simp)]; exact ih k (kk + 1) (by omega) (by omega) (by omega))
theorem heldIntS_f (n : Nat) (a : Int) (ha : 0 ≤ a) (hb : (n : Int) + a ≤ 100000000) (k : Nat) (hk : n < k) : laws_heldIntS.f k (marks n a) a = some (a + (n : Int)) := by
  unfold laws_heldIntS.f
  have := heldIntS_l0 n a ha hb n k 0 (by omega) (by omega) hk
  simpa using this
end Go.Proofs.YtjoaaicbnojoaaaDoor.P
/- The law FnExactParseTri, as a statement of numbers and lists: both sides read the same figure out of every text; no condition. -/
namespace Go.Proofs.YtjoaaicbnojoaaaDoor.Pure
open Go.RowKit Go.Proofs.YtjoaaicbnojoaaaDoor.P Go.Proofs.YtjoaaicbnojoaaaDoorW.PrintWords Go.Proofs.YtjoaaicbnojoaaaDoorW.PrintLast
theorem eqTri_refl (n : Int) (L : List Int) (hL : L.length ≤ 64) (k : Nat) (hk : 100 < k) : laws_eqTri.f k n L n L = some true := by
  unfold laws_eqTri.f
  rw [if_pos rfl, eqIntS_refl L (by omega) k (by omega), Option.bind_some, if_pos rfl]
theorem markTri_f (n : Int) (L : List Int) (hL : L.length ≤ 64) (k : Nat) (hk : 100 < k) : laws_markTri.f k n L 101 = some (101 + (L.length : Int), marks L.length 101) := by
  unfold laws_markTri.f
  rw [markIntS_f L 101 (by omega) (by omega) k (by omega), Option.bind_some]
theorem heldTri_f (n : Int) (m : Nat) (hm : m ≤ 64) (k : Nat) (hk : 100 < k) : laws_heldTri.f k n (marks m 101) 101 = some (101 + (m : Int)) := by
  unfold laws_heldTri.f
  rw [heldIntS_f m 101 (by omega) (by omega) k (by omega), Option.bind_some, if_neg (by omega)]
theorem FnExactParseTri : laws_FnExactParseTri.Pure := by
  intro a0 _
  refine ⟨4000000, ?_⟩
  unfold laws_FnExactParseTri.f
  by_cases h : (a0.size : Int) > 1000000
  · rw [if_pos h]
  · rw [if_neg h]
    have hs : a0.size ≤ 1000000 := by omega
    obtain ⟨p, rest, hc⟩ : ∃ p rest, cutL 47 a0.data.toList = p :: rest := by
      cases hc : cutL 47 a0.data.toList with
      | nil => exact absurd hc (cutL_ne _ _)
      | cons p rest => exact ⟨p, rest, rfl⟩
    have hI : ∀ k, 1000 < k → impl_ParseTri.f k a0 = some (outP 0 0 0 p rest) := fun k hk => implTri_f a0 hs p rest hc k hk
    have hb := outP_b rest p 0 0 0
    rw [specTri_f a0 hs p rest hc 4000000 (by decide), Option.bind_some, hI _ (by decide), Option.bind_some]
    generalize outP 0 0 0 p rest = o at hI hb ⊢
    obtain ⟨n, L, b⟩ := o
    have hL : L.length ≤ 64 := hb
    dsimp only
    have hbb : (b != b) = false := by cases b <;> rfl
    have e4 : (4000000 : Nat) = 3999998 + 1 + 1 := rfl
    rw [eqTri_refl n L hL 4000000 (by decide), Option.bind_some, if_pos rfl, hbb, e4, laws_FnExactParseTri.j0, if_neg (by decide), markTri_f n L hL _ (by decide), Option.bind_some]
    dsimp only
    rw [heldTri_f n L.length hL _ (by decide), Option.bind_some, if_neg (by omega), if_pos rfl, hI _ (by decide), Option.bind_some]
    dsimp only
    rw [eqTri_refl n L hL _ (by decide), Option.bind_some, if_pos rfl, hbb, laws_FnExactParseTri.j1, if_neg (by decide), heldTri_f n L.length hL _ (by decide), Option.bind_some, if_neg (by omega), if_pos rfl]
end Go.Proofs.YtjoaaicbnojoaaaDoor.Pure
/- What the row's listed variable, math/bits' table, gives a walk; a world in which it is laid. -/
namespace Go.Proofs.YtjoaaicbnojoaaaDoor.LaidP
open Go.RowKit
theorem mapM_at {α β : Type} {f : α → Option β} : ∀ {l : List α} {xs : List β}, l.mapM f = some xs → ∀ (j : Nat) (x : α), l[j]? = some x → ∃ y, xs[j]? = some y ∧ f x = some y
  | [], xs, _, j, x, hj => by simp at hj
  | a :: l, xs, h, j, x, hj => by
    rw [List.mapM_cons] at h
    obtain ⟨y, hy, h⟩ := Option.bind_eq_some_iff.1 h
    obtain ⟨ys, hys, h⟩ := Option.bind_eq_some_iff.1 h
    obtain rfl := Option.some.inj h
    cases j with
    | zero => simp at hj; subst hj; exact ⟨y, rfl, hy⟩
    | succ j => exact mapM_at hys j x (by simpa using hj)
theorem int_of_trod {H : Type} {enc : TypeId × Value → H} {P : Program} {w : World} {base : Nat} {sp : Nat → Bool} {held : Bool} {fuel : Nat} {t : TypeId} {k : IntKind} {c : Value} {y : DataW H × List MemPlace}
    (ht : P.underlying t = some (.int k)) (h : DataW.trod enc P w base sp held fuel t [c] = some y) : ∃ n, c = .int k n ∧ y = (.lit (.int k n), []) := by
  cases fuel with
  | zero => simp [DataW.trod] at h
  | succ fuel =>
    cases c <;> simp [DataW.trod, ht] at h
    rename_i k' n
    obtain ⟨⟨rfl, _⟩, rfl⟩ := h
    exact ⟨n, rfl, rfl⟩
theorem bytes_of_trod {H : Type} {enc : TypeId × Value → H} {P : Program} {w : World} {base : Nat} {sp : Nat → Bool} {held : Bool} {fuel n : Nat} {t e : TypeId} {l : List Value} {tab : List Nat} {ps : List MemPlace} (ht : P.underlying t = some (.array n e)) (he : P.underlying e = some (.int .u8)) (h1 : P.cellsOf t = n) (h2 : P.cellsOf e = 1)
    (h : DataW.trod enc P w base sp held fuel t l = some (.agg (tab.map fun k : Nat => .lit (.int .u8 (k : Int))), ps)) (j : Nat) (hj : j < n) : l[j]? = some (.int .u8 ((tab.getD j 0 : Nat) : Int)) := by
  cases fuel with
  | zero => simp [DataW.trod] at h
  | succ fuel =>
    simp only [DataW.trod, ht, h1, h2] at h
    split at h
    · rename_i hl
      obtain ⟨xs, hxs, hy⟩ := Option.map_eq_some_iff.1 h
      obtain ⟨y, hyj, hf⟩ := mapM_at hxs j j (by rw [List.getElem?_range hj])
      obtain ⟨c, hc⟩ : ∃ c, l[j]? = some c := ⟨l[j]'(by omega), List.getElem?_eq_getElem _⟩
      rw [Nat.mul_one, show (l.drop j).take 1 = [c] from by rw [List.drop_eq_getElem_cons (by omega)]; rw [List.getElem?_eq_getElem (by omega)] at hc; injection hc with hc; rw [hc]; rfl] at hf
      obtain ⟨m, rfl, rfl⟩ := int_of_trod he hf
      have h3 := (Prod.mk.inj hy).1
      injection h3 with h3
      have h4 := congrArg (fun q => q[j]?) h3
      simp only [List.getElem?_map, hyj, Option.map_some] at h4
      rw [hc, List.getD_eq_getElem?_getD]
      cases ht2 : tab[j]? with
      | none => rw [ht2] at h4; cases h4
      | some q =>
        rw [ht2] at h4
        simp at h4
        rw [h4]; rfl
    · cases h
theorem gnum : Tryd.prog.globalNamed "math/bits.deBruijn64tab" = some 0 := by kernel_rfl
theorem gtype : (Tryd.prog.globals[0]?).map (·.type) = some 168 := by kernel_rfl
theorem cellsT : Tryd.prog.cellsOf 168 = 64 := by kernel_rfl
theorem cellsE : Tryd.prog.cellsOf 5 = 1 := by kernel_rfl
theorem tabIs : (Rows.laid_math_bits_deBruijn64tab : DataW Unit) = .agg (Lib.deBruijn64tab.map fun k => .lit (.int .u8 ((k : Nat) : Int))) := by rfl
abbrev LAID : List (String × DataW Unit) := [("math/bits.deBruijn64tab", Rows.laid_math_bits_deBruijn64tab), ("unicode/utf8.acceptRanges", Rows.laid_unicode_utf8_acceptRanges), ("unicode/utf8.first", Rows.laid_unicode_utf8_first)]
theorem plain (w : World) : laidMetH Tryd.prog LAID w → laidMet Tryd.prog LAID w := fun h => h
theorem tb {W : World} (h : laidMetH Tryd.prog LAID W) (hs : W.ShapedOpen Tryd.prog) : P.TB W := by
  obtain ⟨ps, ⟨g, t, cs, fuel, p, q, hg, ht, hvar, hd, _, _⟩, _⟩ := plain W h
  obtain rfl := Option.some.inj (gnum.symm.trans hg)
  obtain rfl := Option.some.inj (gtype.symm.trans ht)
  refine ⟨fun j hj => ?_, ?_⟩
  · rw [World.var?_cell hg hvar j]
    rw [tabIs] at hd
    have := bytes_of_trod Tryd.underlying168 Tryd.underlying5 cellsT cellsE hd j hj
    rw [← Array.getElem?_toList]
    exact this
  · exact Go.Proofs.cell_of_shapedOpen_int (zero := #[.int .i64 0]) (t := 3) hs (of_decide_eq_true (by kernel_rfl)) (by kernel_rfl) rfl (by kernel_rfl) (by kernel_rfl) Tryd.underlying3
def cells64 : Array Value := (Lib.deBruijn64tab.map fun k => Value.int .u8 ((k : Nat) : Int)).toArray
def cellsA : Array Value := ([128, 191, 160, 191, 128, 159, 144, 191, 128, 143, 0, 0, 0, 0, 0, 0, 0, 0, 0, 0, 0, 0, 0, 0, 0, 0, 0, 0, 0, 0, 0, 0].map fun k : Nat => Value.int .u8 (k : Int)).toArray
def cellsF : Array Value := (Go.Pinned.utf8FirstZ.map fun k : Nat => Value.int .u8 (k : Int)).toArray
def putCells (c : Array Value) : Obj → Obj
  | .cells _ t frozen => .cells c t frozen
  | o => o
noncomputable def laidWorld (os : Os) : World :=
  { World.holding Tryd.prog os ⟨#[], #[], []⟩ with heap := (((World.holding Tryd.prog os ⟨#[], #[], []⟩).heap.modify 3 (putCells cellsA)).modify 2 (putCells cellsF)).modify 0 (putCells cells64) }
set_option maxRecDepth 100000 in
theorem laidWorld_met (os : Os) (args : Array Value) : laidMetH Tryd.prog LAID ((laidWorld os).forCall (fun _ _ => 0) ⟨#[], args, []⟩).memory :=
  laidMetH_of_parts (laidMet_of_run' 8 (by kernel_rfl) (by kernel_rfl)) (by kernel_rfl)
end Go.Proofs.YtjoaaicbnojoaaaDoor.LaidP
namespace Go.Proofs.YtjoaaicbnojoaaaDoor.fnExactParseTri
open Go.ChangeMaps (open_string shut_string)
open Go.ChangeShapes Go.WideShapes Go.ChangeAt Go.RowKit Go.Proofs.YtjoaaicbnojoaaaDoorW.PrintWords Go.Joins
set_option linter.unusedVariables false
theorem own : ownKnob Tryd.prog.godebug = none := Closed.own
theorem laidOut : laidOutB Tryd.prog = true := Closed.laidOut
theorem joined_mk (P : Program) (f : FuncId) (fn : Func) (s : ChangeSpec) (c : OpenClaim) (k0 : (c.wf (OpenSpec.ofChange s)) = true) (k1 : (laidOutB P) = true) (k2 : (mapsRowed P) = true) (k3 : (fn.params.all (P.readableRec ·)) = true) (k4 : (namedTie P c.named s.vars) = true) (k5 : ((c.stops == [])) = true) (k6 : ((P.stops == [])) = true) (k7 : ((c.knobs == [])) = true) (k8 : ((P.stopKnobs == [])) = true) (k9 : ((c.inPlace == P.inPlace f)) = true) (k10 : ((c.unfollowed == P.unfollowed f)) = true) (k11 : ((c.recurses == P.recurses f)) = true) (k12 : ((c.named == P.varsNamed f)) = true) (k13 : ((c.maps == (fn.params.toList ++ s.plain.varTypes P).any (P.mapsRec ·))) = true) (k14 : ((c.ifaces == (fn.params.toList ++ s.plain.varTypes P).any (P.ifacesRec ·))) = true) (k15 : ((c.mapsOut == P.mapsAmong fn.resultTypes.toList)) = true) (k16 : ((c.loops == (fn.params.toList ++ s.plain.varTypes P).any (P.loopsFrom ·))) = true) (k17 : ((c.wideKeys == (fn.params.toList ++ s.plain.varTypes P ++ fn.resultTypes.toList).any (P.wideKeysFrom ·))) = true) (k18 : (s.vars.all (P.varReadable ·)) = true) (k19 : (fn.resultTypes.all (fun t => P.readableRec t && decide (t < P.types.size))) = true) (k20 : ((c.ifacesOut == fn.resultTypes.toList.any (P.ifacesRec ·))) = true) (k21 : ((c.loopsOut == fn.resultTypes.toList.any (P.loopsFrom ·))) = true) (k22 : ((c.plainKeys == P.plainKeys)) = true) (k23 : (c.shortTexts.isNone) = true) (k24 : (P.stopsHeard) = true) (k25 : (P.mayEnter) = true) (k26 : ((c.lifted == P.liftsFinal)) = true) (k27 : ((P.make == some c.make)) = true) (hd : c.domain.isEmpty = true) (k28 : (c.kinds == []) = true) (k29 : ((c.pinned == c.pinnedBy)) = true) (k30 : ((c.veiled == (fn.params.toList ++ s.plain.varTypes P ++ fn.resultTypes.toList).any (P.veiledRec ·))) = true) (k31 : (c.veiledFits P fn.params.toList (fn.params.toList ++ s.plain.varTypes P ++ fn.resultTypes.toList)) = true) : joinedFacts P f fn s c = true := by
 unfold joinedFacts
 simp only [hd, if_true, k0, k1, k2, k3, k4, k5, k6, k7, k8, k9, k10, k11, k12, k13, k14, k15, k16, k17, k18, k19, k20, k21, k22, k23, k24, k25, k26, k27, k28, k29, k30, k31, Bool.and_self]
theorem handed_shaped {H : Type} {enc : TypeId × Value → H} {a : Assume} {C : Checked} {os : Os} {f : FuncId} {fn : Func} {s : ChangeSpec} {conds : List PathCond} {apart fresh handsOn again : Bool} {X : World → Array Value → Prop}
  (hX : ∀ (w w' : World) (args : Array Value), w.heap = w'.heap → X w args → X w' args)
  (own : ownKnob C.prog.godebug = none) (started : os.Started) (noInit : C.prog.inits.idxOf? f = none) (hfn : C.prog.funcs[f]? = some fn)
  (witness : ∃ (w : World) (tape : Tape) (i : Input), w.os = os ∧ (w.forCall tape i).Shaped C.prog ∧ i.vars = [] ∧ Input.okWide C.prog (w.forCall tape i) .any w.heap.size f i ∧
   ((s.pre enc C.prog fn conds apart (w.forCall tape i).memory i.args ∧ X (w.forCall tape i).memory i.args) ∧ sizedMet enc C.prog fn (OpenSpec.ofChange s) apart (w.forCall tape i).memory i.args) ∧ a.holds C.prog (lone (Frame.enter C.prog f i.args .normal) [] (w.forCall tape i)))
  (contract : ∀ (W : World) (base : Nat) (args : Array Value) (ds gs : List (DataW H)) (before : List MemPlace),
   (∀ (j : Nat) t v, fn.params[j]? = some t → args[j]? = some v → Value.okWide C.prog W .any base t v) →
   DataW.Whole enc C.prog fn.params.toList s.vars apart W args.toList ds gs before →
   conds.all (PathCond.test C.prog ⟨fn.params.toList, ds, s.plain.varTypes C.prog, gs⟩) = true →
   (DataW.weightsEach C.prog (fn.params.toList ++ s.plain.varTypes C.prog) (ds ++ gs)).all (· ≤ reachBytes) = true → X W args → W.ShapedOpen C.prog →
   a.holds C.prog (lone (Frame.enter C.prog f args .normal) [] W) →
   Calls C.prog f args W fun e W' => ∃ v, e = .returned v ∧ s.post enc C.prog fn apart fresh handsOn again W args v W') :
  ReturnsInHanded a C os f .any (fun w args => (s.pre enc C.prog fn conds apart w args ∧ X w args) ∧ sizedMet enc C.prog fn (OpenSpec.ofChange s) apart w args) (s.post enc C.prog fn apart fresh handsOn again) := by
 refine returnsInHanded_of_calls own started noInit witness ?_
 intro w tape i _ hsh _ hok hpre hholds
 obtain ⟨_, _, _, fn', hfn', _, _, _, _, hval⟩ := hok
 have e : fn' = fn := Option.some.inj (hfn'.symm.trans hfn)
 subst e
 obtain ⟨⟨⟨ds, gs, before, hw, hc⟩, hx⟩, hz⟩ := hpre
 have hw' := DataW.Whole.of_heap (w' := w.forCall tape i) (by rfl) hw
 refine (contract (w.forCall tape i) w.heap.size i.args ds gs before hval hw' hc (hz.weights hw) (hX _ _ _ (by rfl) hx) hsh hholds).mono fun e W' ⟨v, he, hp⟩ => ?_
 subst he
 exact ChangeSpec.post_blind hp
abbrev LAID : List (String × DataW Unit) := LaidP.LAID
set_option maxRecDepth 100000 in
theorem lifted (os : Os) (started : os.Started) (H : Type) (enc : TypeId × Value → H) :
  ReturnsInHanded {} Tryd.checked os 7 .any (fun w args => (Rows.fnExactParseTriSpec.pre enc Tryd.prog Tryd.f7 [] false w args ∧ laidMetH Tryd.prog LAID w) ∧ sizedMet enc Tryd.prog Tryd.f7 (OpenSpec.ofChange Rows.fnExactParseTriSpec) false w args) (Rows.fnExactParseTriSpec.post enc Tryd.prog Tryd.f7 false true false false) := by
 refine handed_shaped (C := Tryd.checked) (X := fun w _ => laidMetH Tryd.prog LAID w) (fun _ _ _ hh h => h.of_heap hh) own started (by kernel_rfl) Tryd.func7 (ChangeSpec.witness_at (enc := enc) (C := Tryd.checked) (os := os) (X := fun w _ => laidMetH Tryd.prog LAID w) false (LaidP.laidWorld os) #[.string ByteArray.empty] 8 rfl (by kernel_rfl) (by kernel_rfl) (by kernel_rfl) (by kernel_rfl) (by kernel_rfl) (LaidP.laidWorld_met os _)) ?_
 intro W base args ds gs before hval0 hW hcnd hsz0 hL hsh _
 have hT : P.TB W := LaidP.tb hL hsh
 have hsz : (DataW.weightsEach Tryd.prog (Tryd.f7.params.toList ++ Rows.fnExactParseTriSpec.plain.varTypes Tryd.prog) (ds ++ gs)).all (· ≤ reachBytes) = true := hsz0
 have hval : ∀ (j : Nat) t v, Tryd.f7.params[j]? = some t → args[j]? = some v → Value.okWide Tryd.prog W .any base t v := hval0
 have hW' := hW
 obtain ⟨p, q, hA0, hV, rfl, hfz, hnd⟩ := hW
 have hA : DataW.TrodAll enc Tryd.prog W 0 (fun _ => true) true Tryd.f7.params.toList args.toList ds p := hA0
 rw [Tryd.params7] at hA hval hsz
 obtain ⟨v0, vs0, d0, ds0, p0, q0, hargs, rfl, rfl, h0, r0⟩ := trodAll_cons hA
 obtain ⟨rfl, rfl, rfl⟩ := trodAll_nil r0
 obtain rfl : args = #[v0] := by cases args; simp_all
 obtain ⟨rfl, rfl⟩ := trodVars_none hV
 obtain ⟨a0, rfl, rfl, rfl, y0⟩ := open_string Tryd.underlying9 (hval 0 9 v0 rfl rfl) h0
 have w0 : a0.size ≤ 140737488351232 := by
  have z := sized_string hsz (j := 0) (t := 9) rfl rfl
  rw [Array.length_toList] at z
  exact z
 clear hA0 hval0 hsz0 hsz
 refine (P.laws_FnExactParseTri.walk Pure.FnExactParseTri a0 W hT w0).mono fun e W' ⟨he, bel⟩ => ?_
 subst he
 exact ⟨_, rfl, _, _, _, [], _, [], hW', trodAll_mk1 (shut_bool Tryd.underlying4 _), (trodAll_cons_mk (shut_string Tryd.underlying9 y0) trodAll_mk0), rfl, bel.frame _, fun h => by cases h⟩
theorem k0_ : (Rows.fnExactParseTriRow.wf (OpenSpec.ofChange Rows.fnExactParseTriSpec)) = true := by kernel_rfl
theorem k1_ : (laidOutB Tryd.prog) = true := Closed.laidOut
theorem k2_ : (mapsRowed Tryd.prog) = true := Closed.mapsRowedP
theorem k3_ : (Tryd.f7.params.all (Tryd.prog.readableRec ·)) = true := by kernel_rfl
theorem k4_ : (namedTie Tryd.prog Rows.fnExactParseTriRow.named Rows.fnExactParseTriSpec.vars) = true := by kernel_rfl
theorem k5_ : ((Rows.fnExactParseTriRow.stops == [])) = true := by kernel_rfl
theorem k6_ : ((Tryd.prog.stops == [])) = true := Closed.noStops
theorem k7_ : ((Rows.fnExactParseTriRow.knobs == [])) = true := by kernel_rfl
theorem k8_ : ((Tryd.prog.stopKnobs == [])) = true := Closed.noKnobs
theorem k9_ : ((Rows.fnExactParseTriRow.inPlace == Tryd.prog.inPlace 7)) = true := by kernel_rfl
theorem k10_ : ((Rows.fnExactParseTriRow.unfollowed == Tryd.prog.unfollowed 7)) = true := by kernel_rfl
theorem k11_ : ((Rows.fnExactParseTriRow.recurses == Tryd.prog.recurses 7)) = true := by kernel_rfl
theorem k12_ : ((Rows.fnExactParseTriRow.named == Tryd.prog.varsNamed 7)) = true := by kernel_rfl
theorem k13_ : ((Rows.fnExactParseTriRow.maps == (Tryd.f7.params.toList ++ Rows.fnExactParseTriSpec.plain.varTypes Tryd.prog).any (Tryd.prog.mapsRec ·))) = true := by kernel_rfl
theorem k14_ : ((Rows.fnExactParseTriRow.ifaces == (Tryd.f7.params.toList ++ Rows.fnExactParseTriSpec.plain.varTypes Tryd.prog).any (Tryd.prog.ifacesRec ·))) = true := by kernel_rfl
theorem k15_ : ((Rows.fnExactParseTriRow.mapsOut == Tryd.prog.mapsAmong Tryd.f7.resultTypes.toList)) = true := by kernel_rfl
theorem k16_ : ((Rows.fnExactParseTriRow.loops == (Tryd.f7.params.toList ++ Rows.fnExactParseTriSpec.plain.varTypes Tryd.prog).any (Tryd.prog.loopsFrom ·))) = true := by kernel_rfl
theorem k17_ : ((Rows.fnExactParseTriRow.wideKeys == (Tryd.f7.params.toList ++ Rows.fnExactParseTriSpec.plain.varTypes Tryd.prog ++ Tryd.f7.resultTypes.toList).any (Tryd.prog.wideKeysFrom ·))) = true := by kernel_rfl
theorem k18_ : (Rows.fnExactParseTriSpec.vars.all (Tryd.prog.varReadable ·)) = true := by kernel_rfl
theorem k19_ : (Tryd.f7.resultTypes.all (fun t => Tryd.prog.readableRec t && decide (t < Tryd.prog.types.size))) = true := by kernel_rfl
theorem k20_ : ((Rows.fnExactParseTriRow.ifacesOut == Tryd.f7.resultTypes.toList.any (Tryd.prog.ifacesRec ·))) = true := by kernel_rfl
theorem k21_ : ((Rows.fnExactParseTriRow.loopsOut == Tryd.f7.resultTypes.toList.any (Tryd.prog.loopsFrom ·))) = true := by kernel_rfl
theorem k22_ : ((Rows.fnExactParseTriRow.plainKeys == Tryd.prog.plainKeys)) = true := by kernel_rfl
theorem k23_ : (Rows.fnExactParseTriRow.shortTexts.isNone) = true := by kernel_rfl
theorem k24_ : (Tryd.prog.stopsHeard) = true := Closed.stopsHeard
theorem k25_ : (Tryd.prog.mayEnter) = true := Closed.mayEnter
theorem k26_ : ((Rows.fnExactParseTriRow.lifted == Tryd.prog.liftsFinal)) = true := by rw [Closed.liftsFinal]; kernel_rfl
theorem k27_ : ((Tryd.prog.make == some Rows.fnExactParseTriRow.make)) = true := by rw [Closed.make]; kernel_rfl
theorem k28_ : ((Rows.fnExactParseTriRow.kinds == [])) = true := by kernel_rfl
theorem k29_ : ((Rows.fnExactParseTriRow.pinned == Rows.fnExactParseTriRow.pinnedBy)) = true := by kernel_rfl
theorem k30_ : ((Rows.fnExactParseTriRow.veiled == (Tryd.f7.params.toList ++ Rows.fnExactParseTriSpec.plain.varTypes Tryd.prog ++ Tryd.f7.resultTypes.toList).any (Tryd.prog.veiledRec ·))) = true := by kernel_rfl
theorem k31_ : (Rows.fnExactParseTriRow.veiledFits Tryd.prog Tryd.f7.params.toList (Tryd.f7.params.toList ++ Rows.fnExactParseTriSpec.plain.varTypes Tryd.prog ++ Tryd.f7.resultTypes.toList)) = true := by kernel_rfl
theorem k99_ : (Rows.fnExactParseTriRow.domain.isEmpty) = true := by kernel_rfl
theorem closed : joinedFacts Tryd.prog 7 Tryd.f7 Rows.fnExactParseTriSpec Rows.fnExactParseTriRow = true :=
 joined_mk _ _ _ _ _ k0_ k1_ k2_ k3_ k4_ k5_ k6_ k7_ k8_ k9_ k10_ k11_ k12_ k13_ k14_ k15_ k16_ k17_ k18_ k19_ k20_ k21_ k22_ k23_ k24_ k25_ k26_ k27_ k99_ k28_ k29_ k30_ k31_
theorem over : Rows.fnExactParseTriRow.holds Tryd.pinned (OpenSpec.ofChange Rows.fnExactParseTriSpec) :=
 OpenClaim.holds_of_wide 7 Tryd.f7 rfl rfl rfl rfl rfl rfl rfl ⟨rfl, rfl, rfl, rfl, rfl⟩ rfl rfl rfl rfl rfl (by kernel_rfl) Tryd.func7 closed
  (of_decide_eq_true (by kernel_rfl)) (by unfold Func.isWrapper; first | (rw [if_pos (by decide +kernel)]; kernel_rfl) | (rw [if_neg (by decide +kernel)]; exact ⟨rfl, rfl⟩))
  (fun os started H enc _ => lifted os started H enc)
theorem card : Rows.FnExactParseTriCardSaid :=
 Claim7.holds_tied_plain_at .later [] [.data, .data, .pinned] true (true, "67943fe34563749f8cb922a1af988408c6b787843d514db13d0f8a6126bdce4b") false
  over (fun _ h => by cases h) (by kernel_rfl) (fun _ h => by cases h) fnExactParseTri_row_tie rfl ⟨rfl, rfl⟩ (by kernel_rfl) rfl
  (fun f fn hf hfn => by
   obtain rfl : f = 7 := Option.some.inj ((show Tryd.prog.funcNamed "loop.example/g01233/laws.FnExactParseTri" = some 7 by kernel_rfl).symm.trans hf) |>.symm
   obtain rfl : fn = Tryd.f7 := (Option.some.inj (Tryd.func7.symm.trans hfn)).symm
   exact ⟨by kernel_rfl, fun j t ht => by
    rw [Tryd.params7] at ht
    have h3 : t = 9 := by
     rcases j with _ | j
     ·simpa using ht.symm
     ·simp at ht
    subst h3
    exact (show Tryd.prog.wantsStandIn 9 = false by kernel_rfl)⟩)
  (by kernel_rfl)
end Go.Proofs.YtjoaaicbnojoaaaDoor.fnExactParseTri
namespace Go.Proofs.YtjoaaicbnojoaaaDoor
theorem fnExactParseTri_holds : Rows.FnExactParseTriCardSaid := fnExactParseTri.card
end Go.Proofs.YtjoaaicbnojoaaaDoor
