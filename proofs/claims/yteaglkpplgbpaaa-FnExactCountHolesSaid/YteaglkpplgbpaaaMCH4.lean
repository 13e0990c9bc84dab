/- For every input the law FnExactCountHoles answers true: the program's CountHoles tells what the reference's CountHoles tells; no condition. (part 4 of the proof; the words of the kit's print tool and the texts of this seat, merged by a program) -/
import Derived.Below
import Derived.ChangeOld
import Derived.JoinedOf
import Derived.Lib.SmallJoins
import Derived.OpenShut
import Derived.ProofKit
import Derived.SizedLaws
import Derived.Test.YteaglkpplgbpaaaClosed
import Derived.Test.YteaglkpplgbpaaaRows
import Derived.WalkKit
import Derived.Test.YteaglkpplgbpaaaMCH3
namespace Go.Proofs.Yteaglkpplgbpaaa.P
open Go.RowKit Go.Proofs.YteaglkpplgbpaaaW.PrintWords Go.Proofs.YteaglkpplgbpaaaW.PrintLast Go.Proofs.YteaglkpplgbpaaaW.PrintMore
attribute [local go_sem] max2_int min2_int max_two min_two max_three min_three max_four min_four   -- for this text's walks alone
set_option linter.unusedVariables false
set_option linter.unusedSimpArgs false

theorem up_rounds {α : Type} {f : Nat → Option α} (hm : ∀ k, LeO (f k) (f (k + 1))) {k k' : Nat} (h : k ≤ k') {r : α} (hr : f k = some r) : f k' = some r := by
  induction k' with
  | zero => obtain rfl : k = 0 := by omega
            exact hr
  | succ n ih =>
    by_cases e : k = n + 1
    · subst e; exact hr
    · exact hm n r (ih (by omega))
def risingB : List Int → Bool
  | a :: b :: t => decide (a < b) && risingB (b :: t)
  | _ => true
def inB (lo hi : Int) (l : List Int) : Bool := l.all fun x => decide (lo ≤ x) && decide (x ≤ hi)
theorem isRising_l0 (l : List Int) (hL : l.length ≤ 4000000) : ∀ (d k i : Nat), l.length - i = d → 1 ≤ i → i ≤ l.length → d < k → impl_isRising.l0 k l (i : Int) = some (risingB (l.drop (i - 1))) := by
  intro d
  induction d with
  | zero =>
    intro k i h1 h2 h3 h4
    obtain ⟨k, rfl⟩ : ∃ m, k = m + 1 := ⟨k - 1, by omega⟩
    simp only [impl_isRising.l0]
    rw [if_neg (by omega), List.drop_eq_getElem_cons (by omega), List.drop_of_length_le (by omega)]
    rfl
  | succ d ih =>
    intro k i h1 h2 h3 h4
    obtain ⟨k, rfl⟩ : ∃ m, k = m + 1 := ⟨k - 1, by omega⟩
    have e1 : wrap64 ((i : Int) - 1) = ((i - 1 : Nat) : Int) := by unfold wrap64; omega
    have e2 : wrap64 ((i : Int) + 1) = ((i + 1 : Nat) : Int) := by unfold wrap64; omega
    simp only [impl_isRising.l0]
    rw [if_pos (by omega), if_pos (by omega), e1, if_pos (by omega), if_pos (by omega), rd_nat l i (by omega), rd_nat l (i - 1) (by omega), e2, ih k (i + 1) (by omega) (by omega) (by omega) (by omega),
      List.drop_eq_getElem_cons (show i - 1 < l.length by omega), show i - 1 + 1 = i by omega, show i + 1 - 1 = i by omega, List.drop_eq_getElem_cons (show i < l.length by omega)]
    by_cases hlt : l[i] ≤ l[i - 1]
    · rw [if_pos hlt]
      simp only [risingB]
      rw [decide_eq_false (by omega)]
      rfl
    · rw [if_neg hlt]
      simp only [risingB]
      rw [decide_eq_true (by omega)]
      rfl
theorem isRising_f (l : List Int) (hL : l.length ≤ 4000000) (k : Nat) (hk : l.length + 1 < k) : impl_isRising.f k l = some (risingB l) := by
  unfold impl_isRising.f
  by_cases h0 : l.length = 0
  · have : l = [] := List.length_eq_zero_iff.1 h0
    subst this
    obtain ⟨k, rfl⟩ : ∃ m, k = m + 1 := ⟨k - 1, by omega⟩
    simp only [impl_isRising.l0]
    rw [if_neg (by simp)]
    rfl
  · exact isRising_l0 l hL (l.length - 1) k 1 rfl (by omega) (by omega) (by omega)
theorem fiRises_l0 (l : List Int) (hL : l.length ≤ 4000000) : ∀ (d k i : Nat), l.length - i = d → 1 ≤ i → i ≤ l.length → d < k → spec_fiRises.l0 k l (i : Int) = some (risingB (l.drop (i - 1))) := by
  intro d
  induction d with
  | zero =>
    intro k i h1 h2 h3 h4
    obtain ⟨k, rfl⟩ : ∃ m, k = m + 1 := ⟨k - 1, by omega⟩
    simp only [spec_fiRises.l0]
    rw [if_neg (by omega), List.drop_eq_getElem_cons (by omega), List.drop_of_length_le (by omega)]
    rfl
  | succ d ih =>
    intro k i h1 h2 h3 h4
    obtain ⟨k, rfl⟩ : ∃ m, k = m + 1 := ⟨k - 1, by omega⟩
    have e1 : wrap64 ((i : Int) - 1) = ((i - 1 : Nat) : Int) := by unfold wrap64; omega
    have e2 : wrap64 ((i : Int) + 1) = ((i + 1 : Nat) : Int) := by unfold wrap64; omega
    simp only [spec_fiRises.l0]
    rw [if_pos (by omega), e1, if_pos (by omega), if_pos (by omega), if_pos (by omega), rd_nat l i (by omega), rd_nat l (i - 1) (by omega), e2, ih k (i + 1) (by omega) (by omega) (by omega) (by omega),
      List.drop_eq_getElem_cons (show i - 1 < l.length by omega), show i - 1 + 1 = i by omega, show i + 1 - 1 = i by omega, List.drop_eq_getElem_cons (show i < l.length by omega)]
    by_cases hlt : l[i - 1] ≥ l[i]
    · rw [if_pos hlt]
      simp only [risingB]
      rw [decide_eq_false (by omega)]
      rfl
    · rw [if_neg hlt]
      simp only [risingB]
      rw [decide_eq_true (by omega)]
      rfl
theorem l1All_l0 (l : List Int) (lo hi : Int) (hL : l.length ≤ 4000000) : ∀ (d k i : Nat), l.length - i = d → i ≤ l.length → d < k → spec_l1All.l0 k lo hi l (l.length : Int) (i : Int) = some (inB lo hi (l.drop i)) := by
  intro d
  induction d with
  | zero =>
    intro k i h1 h3 h4
    obtain ⟨k, rfl⟩ : ∃ m, k = m + 1 := ⟨k - 1, by omega⟩
    simp only [spec_l1All.l0]
    rw [if_neg (by omega), List.drop_of_length_le (by omega)]
    rfl
  | succ d ih =>
    intro k i h1 h3 h4
    obtain ⟨k, rfl⟩ : ∃ m, k = m + 1 := ⟨k - 1, by omega⟩
    have e2 : wrap64 ((i : Int) + 1) = ((i + 1 : Nat) : Int) := by unfold wrap64; omega
    have e3 : ∀ x : Int, spec_l1In.f x lo hi = some (decide (lo ≤ x) && decide (x ≤ hi)) := fun x => by
      unfold spec_l1In.f
      by_cases h : lo ≤ x
      · rw [if_pos h, decide_eq_true h]; rfl
      · rw [if_neg (show ¬ x ≥ lo from h), decide_eq_false h]; rfl
    simp only [spec_l1All.l0]
    rw [if_pos (by omega), if_pos (by omega), if_pos (by omega), rd_nat l i (by omega), e3, Option.bind_some, e2, ih k (i + 1) (by omega) (by omega) (by omega), List.drop_eq_getElem_cons (show i < l.length by omega)]
    unfold inB
    rw [List.all_cons]
    cases (decide (lo ≤ l[i]) && decide (l[i] ≤ hi)) <;> rfl
theorem l1All_f (l : List Int) (lo hi : Int) (hL : l.length ≤ 4000000) (k : Nat) (hk : l.length < k) : spec_l1All.f k l lo hi = some (inB lo hi l) := by
  unfold spec_l1All.f
  exact l1All_l0 l lo hi hL l.length k 0 (by omega) (by omega) hk
theorem rising_len (l : List Int) : ∀ (lo hi : Int), risingB l = true → inB lo hi l = true → (l.length : Int) ≤ hi - lo + 1 ∨ l = [] := by
  induction l with
  | nil => intro lo hi _ _; exact .inr rfl
  | cons a t ih =>
    intro lo hi h1 h2
    unfold inB at h2
    rw [List.all_cons, Bool.and_eq_true, Bool.and_eq_true, decide_eq_true_iff, decide_eq_true_iff] at h2
    obtain ⟨⟨h3, h4⟩, h5⟩ := h2
    left
    cases t with
    | nil => simp; omega
    | cons b t =>
      simp only [risingB, Bool.and_eq_true, decide_eq_true_iff] at h1
      have h6 : inB (a + 1) hi (b :: t) = true := by
        have hr : ∀ (t : List Int) (a b : Int), a < b → risingB (b :: t) = true → ∀ x ∈ b :: t, a < x := by
          intro t
          induction t with
          | nil => intro a b hab _ x hx; simp at hx; omega
          | cons c t ih2 =>
            intro a b hab hr x hx
            simp only [risingB, Bool.and_eq_true, decide_eq_true_iff] at hr
            rcases List.mem_cons.1 hx with rfl | hx
            · exact hab
            · have := ih2 b c hr.1 hr.2 x hx; omega
        unfold inB
        rw [List.all_eq_true] at h5 ⊢
        intro x hx
        have h7 := h5 x hx
        have h8 := hr t a b h1.1 h1.2 x hx
        simp only [Bool.and_eq_true, decide_eq_true_iff] at h7 ⊢
        omega
      rcases ih (a + 1) hi h1.2 h6 with h | h
      · simp at h ⊢; omega
      · cases h
def figB (w h : Int) (a u : List Int) : Bool :=
  (decide (1 ≤ w) && decide (w ≤ 4) && decide (1 ≤ h) && decide (h ≤ 4)) && (risingB a && (risingB u && (inB 0 (w * (h + 1) - 1) a && inB 0 (h * (w + 1) - 1) u)))
theorem within_f (n lo hi : Int) : impl_within.f n lo hi = some (decide (lo ≤ n) && decide (n ≤ hi)) := by
  unfold impl_within.f
  by_cases h : lo ≤ n
  · rw [if_pos h, decide_eq_true h]; rfl
  · rw [if_neg h, decide_eq_false h]; rfl
theorem l1In_f (n lo hi : Int) : spec_l1In.f n lo hi = some (decide (lo ≤ n) && decide (n ≤ hi)) := by
  unfold spec_l1In.f
  by_cases h : lo ≤ n
  · rw [if_pos h, decide_eq_true h]; rfl
  · rw [if_neg (show ¬ n ≥ lo from h), decide_eq_false h]; rfl
theorem isGrid_f (w h : Int) : impl_isGrid.f w h = some (decide (1 ≤ w) && decide (w ≤ 4) && decide (1 ≤ h) && decide (h ≤ 4)) := by
  unfold impl_isGrid.f
  rw [within_f, within_f, Option.bind_some, Option.bind_some]
  cases (decide (1 ≤ w) && decide (w ≤ 4)) <;> simp
theorem fiGrid_f (w h : Int) : spec_fiGrid.f w h = some (decide (1 ≤ w) && decide (w ≤ 4) && decide (1 ≤ h) && decide (h ≤ 4)) := by
  unfold spec_fiGrid.f
  rw [l1In_f, l1In_f, Option.bind_some, Option.bind_some]
  cases (decide (1 ≤ w) && decide (w ≤ 4)) <;> simp
theorem grid_bounds {w h : Int} (hg : (decide (1 ≤ w) && decide (w ≤ 4) && decide (1 ≤ h) && decide (h ≤ 4)) = true) : 1 ≤ w ∧ w ≤ 4 ∧ 1 ≤ h ∧ h ≤ 4 := by
  simp only [Bool.and_eq_true, decide_eq_true_iff] at hg; omega
theorem area_bounds {w h : Int} (h1 : 1 ≤ w) (h2 : w ≤ 4) (h3 : 1 ≤ h) (h4 : h ≤ 4) : 2 ≤ w * (h + 1) ∧ w * (h + 1) ≤ 20 ∧ 2 ≤ h * (w + 1) ∧ h * (w + 1) ≤ 20 := by
  have : w = 1 ∨ w = 2 ∨ w = 3 ∨ w = 4 := by omega
  rcases this with rfl | rfl | rfl | rfl <;> omega
theorem IsFigure_f (w h : Int) (a u : List Int) (ha : a.length ≤ 1000000) (hu : u.length ≤ 1000000) (k : Nat) (hk : 1000010 < k) : impl_IsFigure.f k w h a u = some (figB w h a u) := by
  unfold impl_IsFigure.f figB
  rw [isGrid_f, Option.bind_some]
  by_cases hg : (decide (1 ≤ w) && decide (w ≤ 4) && decide (1 ≤ h) && decide (h ≤ 4)) = true
  · rw [if_pos hg, hg, isRising_f a (by omega) k (by omega), isRising_f u (by omega) k (by omega), Option.bind_some]
    obtain ⟨b1, b2, b3, b4⟩ := grid_bounds hg
    obtain ⟨c1, c2, c3, c4⟩ := area_bounds b1 b2 b3 b4
    have e1 : wrap64 (h + 1) = h + 1 := by unfold wrap64; omega
    have e2 : wrap64 (w + 1) = w + 1 := by unfold wrap64; omega
    have e3 : wrap64 (w * (h + 1)) = w * (h + 1) := by unfold wrap64; omega
    have e4 : wrap64 (h * (w + 1)) = h * (w + 1) := by unfold wrap64; omega
    have e5 : wrap64 (w * (h + 1) - 1) = w * (h + 1) - 1 := by unfold wrap64; omega
    have e6 : wrap64 (h * (w + 1) - 1) = h * (w + 1) - 1 := by unfold wrap64; omega
    unfold impl_Figure_grid.f impl_grid_levels.f impl_grid_uprights.f impl_areWithin.f
    simp only [Option.bind_some, e1, e2, e3, e4, e5, e6]
    have key : ∀ A B C D : Bool, (if A = true then (if B = true then (if C = true then some D else some false) else some false) else some false) = some (true && (A && (B && (C && D)))) := by decide
    exact key _ _ _ _
  · rw [if_neg hg, Bool.eq_false_iff.mpr hg]
    rfl
theorem fiRises_f (l : List Int) (m : Int) (hm0 : 0 ≤ m) (hm : m ≤ 100) (hl : l.length ≤ 1000000) (k : Nat) (hk : 1000010 < k) : spec_fiRises.f k l m = some (risingB l && inB 0 m l) := by
  unfold spec_fiRises.f
  have e : wrap64 (m + 1) = m + 1 := by unfold wrap64; omega
  have hj : ∀ b : Bool, spec_fiRises.j0 k l b = some (!b && risingB l) := fun b => by
    obtain ⟨k, rfl⟩ : ∃ q, k = q + 1 := ⟨k - 1, by omega⟩
    simp only [spec_fiRises.j0]
    cases b with
    | true => rfl
    | false =>
      rw [if_neg (by simp)]
      by_cases h0 : l.length = 0
      · have : l = [] := List.length_eq_zero_iff.1 h0
        subst this
        obtain ⟨k, rfl⟩ : ∃ q, k = q + 1 := ⟨k - 1, by omega⟩
        simp only [spec_fiRises.l0]
        rw [if_neg (by simp)]
        rfl
      · rw [show (1 : Int) = ((1 : Nat) : Int) from rfl, fiRises_l0 l (by omega) (l.length - 1) k 1 rfl (by omega) (by omega) (by omega)]
        rfl
  rw [e, hj, l1All_f l 0 m (by omega) k (by omega), Option.bind_some, hj]
  by_cases hgt : (l.length : Int) > m + 1
  · rw [if_pos hgt]
    cases h1 : risingB l with
    | false => rfl
    | true =>
      cases h2 : inB 0 m l with
      | false => rfl
      | true =>
        rcases rising_len l 0 m h1 h2 with h | h
        · omega
        · subst h; simp at hgt; omega
  · rw [if_neg hgt, Bool.not_not, Bool.and_comm]
theorem fiGood_f (w h : Int) (a u : List Int) (ha : a.length ≤ 1000000) (hu : u.length ≤ 1000000) (k : Nat) (hk : 1000010 < k) : spec_fiGood.f k w h a u = some (figB w h a u) := by
  unfold spec_fiGood.f figB
  rw [fiGrid_f, Option.bind_some]
  by_cases hg : (decide (1 ≤ w) && decide (w ≤ 4) && decide (1 ≤ h) && decide (h ≤ 4)) = true
  · rw [if_pos hg, hg]
    obtain ⟨b1, b2, b3, b4⟩ := grid_bounds hg
    obtain ⟨c1, c2, c3, c4⟩ := area_bounds b1 b2 b3 b4
    have e1 : wrap64 (h + 1) = h + 1 := by unfold wrap64; omega
    have e2 : wrap64 (w + 1) = w + 1 := by unfold wrap64; omega
    have e3 : wrap64 (w * (h + 1)) = w * (h + 1) := by unfold wrap64; omega
    have e4 : wrap64 ((w + 1) * h) = h * (w + 1) := by rw [Int.mul_comm]; unfold wrap64; omega
    have e5 : wrap64 (w * (h + 1) - 1) = w * (h + 1) - 1 := by unfold wrap64; omega
    have e6 : wrap64 (h * (w + 1) - 1) = h * (w + 1) - 1 := by unfold wrap64; omega
    rw [e1, e2, e3, e4, e5, e6, fiRises_f a _ (by omega) (by omega) ha k hk, fiRises_f u _ (by omega) (by omega) hu k hk, Option.bind_some, Option.bind_some]
    cases risingB a <;> cases risingB u <;> simp
    cases inB 0 (w * (h + 1) - 1) a <;> simp
  · rw [if_neg hg, Bool.eq_false_iff.mpr hg]
    rfl


theorem u64_small (n : Int) (h0 : 0 ≤ n) (h1 : n < 2 ^ 60) : IntKind.u64.wrap n = n := by
 have : IntKind.u64.wrap n = n % 18446744073709551616 := by simp [IntKind.wrap, IntKind.bits, IntKind.signed]
 rw [this]; omega
theorem i64_small (n : Int) (h0 : 0 ≤ n) (h1 : n < 2 ^ 60) : IntKind.i64.wrap n = n := by rw [IntKind.wrap_i64]; omega
theorem or_u64 (a b : Nat) (ha : a < 2 ^ 60) (hb : b < 2 ^ 60) : Go.bits .or .u64 (a : Int) (b : Int) = ((a ||| b : Nat) : Int) := (bits_nat .u64 60 (by decide) u64_small a b ha hb).2
theorem and_u64 (a b : Nat) (ha : a < 2 ^ 60) (hb : b < 2 ^ 60) : Go.bits .and .u64 (a : Int) (b : Int) = ((a &&& b : Nat) : Int) := (bits_nat .u64 60 (by decide) u64_small a b ha hb).1
theorem and_i64 (a b : Nat) (ha : a < 2 ^ 60) (hb : b < 2 ^ 60) : Go.bits .and .i64 (a : Int) (b : Int) = ((a &&& b : Nat) : Int) := (bits_nat .i64 60 (by decide) i64_small a b ha hb).1
theorem pow_lt60 {n : Nat} (h : n < 60) : 2 ^ n < 2 ^ 60 := Nat.pow_lt_pow_right (by decide) h
theorem shl_u64 (n : Nat) (h : n < 60) : shl .u64 1 (n : Int) = ((2 ^ n : Nat) : Int) := by
 unfold shl
 rw [Int.toNat_natCast, show min n IntKind.u64.bits = n from Nat.min_eq_left (by show n ≤ 64; omega), Int.one_mul]
 have h2 := pow_lt60 h
 rw [u64_small _ (by exact_mod_cast Nat.zero_le _) (by exact_mod_cast h2)]
 norm_cast
def bitsFrom (s : Nat) (l : List Int) (m : Nat) : Nat := l.foldl (fun m k => m ||| 2 ^ (s + k.toNat)) m
theorem bitsFrom_lt (s : Nat) (l : List Int) : ∀ m, m < 2 ^ 60 → (∀ k ∈ l, s + k.toNat < 60) → bitsFrom s l m < 2 ^ 60 := by
 induction l with
 | nil => intro m hm _; exact hm
 | cons a t ih =>
  intro m hm h
  exact ih _ (Nat.or_lt_two_pow hm (pow_lt60 (h a (by simp)))) (fun k hk => h k (by simp [hk]))
theorem bitsFrom_test (s : Nat) (l : List Int) (i : Nat) : ∀ m, (bitsFrom s l m).testBit i = (m.testBit i || l.any fun k => decide (s + k.toNat = i)) := by
 induction l with
 | nil => intro m; simp [bitsFrom]
 | cons a t ih =>
  intro m
  have := ih (m ||| 2 ^ (s + a.toNat))
  unfold bitsFrom at this ⊢
  rw [List.foldl_cons, this, Nat.testBit_or, Nat.testBit_two_pow, List.any_cons, Bool.or_assoc]
theorem inB_mem {lo hi : Int} {l : List Int} (h : inB lo hi l = true) (x : Int) (hx : x ∈ l) : lo ≤ x ∧ x ≤ hi := by
 unfold inB at h
 rw [List.all_eq_true] at h
 have := h x hx
 simpa using this
def figMask (w h : Int) (a u : List Int) : Nat := bitsFrom (w * (h + 1)).toNat u (bitsFrom 0 a 0)
theorem figMask_lt {w h : Int} {a u : List Int} (hf : figB w h a u = true) : figMask w h a u < 2 ^ 60 := by
 unfold figB at hf
 simp only [Bool.and_eq_true] at hf
 obtain ⟨hg, -, -, hi1, hi2⟩ := hf
 obtain ⟨b1, b2, b3, b4⟩ := grid_bounds (by simp only [Bool.and_eq_true]; exact hg)
 obtain ⟨c1, c2, c3, c4⟩ := area_bounds b1 b2 b3 b4
 refine bitsFrom_lt _ _ _ (bitsFrom_lt _ _ _ (by decide) (fun k hk => ?_)) (fun k hk => ?_)
 ·have := inB_mem hi1 k hk; omega
 ·have := inB_mem hi2 k hk; omega
theorem figMask_level {w h : Int} {a u : List Int} (hf : figB w h a u = true) (e : Nat) (he : (e : Int) < w * (h + 1)) : (figMask w h a u).testBit e = decide ((e : Int) ∈ a) := by
 unfold figB at hf
 simp only [Bool.and_eq_true] at hf
 obtain ⟨hg, -, -, hi1, hi2⟩ := hf
 unfold figMask
 rw [bitsFrom_test, bitsFrom_test, Nat.zero_testBit, Bool.false_or]
 rw [show (u.any fun k => decide ((w * (h + 1)).toNat + k.toNat = e)) = false from by
  rw [List.any_eq_false]; intro k hk; have := inB_mem hi2 k hk; simp; omega]
 rw [Bool.or_false, Bool.eq_iff_iff, List.any_eq_true, decide_eq_true_iff]
 constructor
 ·rintro ⟨k, hk, hke⟩
  have := inB_mem hi1 k hk
  simp at hke
  rw [show (e : Int) = k by omega]
  exact hk
 ·intro hm
  exact ⟨_, hm, by simp⟩
theorem figMask_upright {w h : Int} {a u : List Int} (hf : figB w h a u = true) (e : Nat) : (figMask w h a u).testBit ((w * (h + 1)).toNat + e) = decide ((e : Int) ∈ u) := by
 unfold figB at hf
 simp only [Bool.and_eq_true] at hf
 obtain ⟨hg, -, -, hi1, hi2⟩ := hf
 obtain ⟨b1, b2, b3, b4⟩ := grid_bounds (by simp only [Bool.and_eq_true]; exact hg)
 obtain ⟨c1, c2, c3, c4⟩ := area_bounds b1 b2 b3 b4
 unfold figMask
 rw [bitsFrom_test, bitsFrom_test, Nat.zero_testBit, Bool.false_or]
 rw [show (a.any fun k => decide (0 + k.toNat = (w * (h + 1)).toNat + e)) = false from by
  rw [List.any_eq_false]; intro k hk; have := inB_mem hi1 k hk; simp; omega]
 rw [Bool.false_or, Bool.eq_iff_iff, List.any_eq_true, decide_eq_true_iff]
 constructor
 ·rintro ⟨k, hk, hke⟩
  have := inB_mem hi2 k hk
  simp at hke
  rw [show (e : Int) = k by omega]
  exact hk
 ·intro hm
  exact ⟨_, hm, by simp⟩
theorem set_l1 (w h : Int) (a u : List Int) (hL : u.length ≤ 4000000) (hw : wrap64 (w * wrap64 (h + 1)) = w * (h + 1)) (h0 : 0 ≤ w * (h + 1)) (h1 : w * (h + 1) ≤ 20) (hu : ∀ k ∈ u, 0 ≤ k ∧ k ≤ 20) : ∀ (d k i : Nat) (m : Nat), u.length - i = d → i ≤ u.length → d < k → m < 2 ^ 60 →
  impl_Figure_set.l1 k (m : Int) u (u.length : Int) (i : Int) w h a u = some ((bitsFrom (w * (h + 1)).toNat (u.drop i) m : Nat) : Int) := by
 intro d
 induction d with
 | zero =>
  intro k i m h2 h3 h4 h5
  obtain ⟨k, rfl⟩ : ∃ q, k = q + 1 := ⟨k - 1, by omega⟩
  simp only [impl_Figure_set.l1]
  rw [if_neg (by omega), List.drop_of_length_le (by omega)]
  rfl
 | succ d ih =>
  intro k i m h2 h3 h4 h5
  obtain ⟨k, rfl⟩ : ∃ q, k = q + 1 := ⟨k - 1, by omega⟩
  have hi : i < u.length := by omega
  have hk := hu u[i] (List.getElem_mem hi)
  have e2 : wrap64 ((i : Int) + 1) = ((i + 1 : Nat) : Int) := by unfold wrap64; omega
  have e3 : wrap64 (w * (h + 1) + u[i]) = (((w * (h + 1)).toNat + u[i].toNat : Nat) : Int) := by unfold wrap64; omega
  have hlt : (w * (h + 1)).toNat + u[i].toNat < 60 := by omega
  simp only [impl_Figure_set.l1]
  unfold impl_Figure_grid.f impl_grid_levels.f
  rw [if_pos (by omega), if_pos (by omega), if_pos (by omega), rd_nat u i hi, Option.bind_some, Option.bind_some, hw, e3, if_pos (by omega), shl_u64 _ hlt, or_u64 _ _ h5 (pow_lt60 hlt), e2,
   ih k (i + 1) _ (by omega) (by omega) (by omega) (Nat.or_lt_two_pow h5 (pow_lt60 hlt)), List.drop_eq_getElem_cons hi]
  rfl
theorem set_l0 (w h : Int) (a u : List Int) (hL : a.length ≤ 4000000) (hLu : u.length ≤ 4000000) (hw : wrap64 (w * wrap64 (h + 1)) = w * (h + 1)) (h0 : 0 ≤ w * (h + 1)) (h1 : w * (h + 1) ≤ 20) (ha : ∀ k ∈ a, 0 ≤ k ∧ k ≤ 20) (hu : ∀ k ∈ u, 0 ≤ k ∧ k ≤ 20) : ∀ (d k i : Nat) (m : Nat), a.length - i = d → i ≤ a.length → d + u.length + 2 < k → m < 2 ^ 60 →
  impl_Figure_set.l0 k (m : Int) a (a.length : Int) (i : Int) w h a u = some ((bitsFrom (w * (h + 1)).toNat u (bitsFrom 0 (a.drop i) m) : Nat) : Int) := by
 intro d
 induction d with
 | zero =>
  intro k i m h2 h3 h4 h5
  obtain ⟨k, rfl⟩ : ∃ q, k = q + 1 := ⟨k - 1, by omega⟩
  simp only [impl_Figure_set.l0]
  rw [if_neg (by omega), List.drop_of_length_le (by omega)]
  exact set_l1 w h a u hLu hw h0 h1 hu u.length k 0 m (by omega) (by omega) (by omega) h5
 | succ d ih =>
  intro k i m h2 h3 h4 h5
  obtain ⟨k, rfl⟩ : ∃ q, k = q + 1 := ⟨k - 1, by omega⟩
  have hi : i < a.length := by omega
  have hk := ha a[i] (List.getElem_mem hi)
  have e2 : wrap64 ((i : Int) + 1) = ((i + 1 : Nat) : Int) := by unfold wrap64; omega
  have c1 : (i : Int) < (a.length : Int) := Int.ofNat_lt.2 hi
  have c2 : (0 : Int) ≤ (i : Int) := Int.natCast_nonneg _
  have hr := rd_nat a i hi
  have hd := List.drop_eq_getElem_cons hi
  have n1 : a.length - (i + 1) = d := by clear hk hr hd c1 c2 ih h5 hw h0 h1 hu ha; omega
  have n2 : i + 1 ≤ a.length := hi
  have n3 : d + u.length + 2 < k := by clear hk hr hd c1 c2 ih h5 hw h0 h1 hu ha; omega
  have hih := fun m hm => ih k (i + 1) m n1 n2 n3 hm
  generalize a[i] = x at hk hr hd
  obtain ⟨hk1, hk2⟩ := hk
  obtain ⟨y, rfl⟩ : ∃ y : Nat, x = (y : Int) := ⟨x.toNat, (Int.toNat_of_nonneg hk1).symm⟩
  have hlt : y < 60 := by clear hr hd c1 c2 ih h5 hw h0 h1 hu ha hih; omega
  simp only [impl_Figure_set.l0]
  rw [if_pos c1, if_pos c2, if_pos c1, hr, if_pos hk1, shl_u64 _ hlt, or_u64 _ _ h5 (pow_lt60 hlt), e2, hih _ (Nat.or_lt_two_pow h5 (pow_lt60 hlt)), hd]
  unfold bitsFrom
  rw [List.foldl_cons, Nat.zero_add, Int.toNat_natCast]
theorem set_f {w h : Int} {a u : List Int} (hf : figB w h a u = true) (ha : a.length ≤ 1000000) (hu : u.length ≤ 1000000) (k : Nat) (hk : 2000010 < k) : impl_Figure_set.f k w h a u = some ((figMask w h a u : Nat) : Int) := by
 unfold figB at hf
 simp only [Bool.and_eq_true] at hf
 obtain ⟨hg, -, -, hi1, hi2⟩ := hf
 obtain ⟨b1, b2, b3, b4⟩ := grid_bounds (by simp only [Bool.and_eq_true]; exact hg)
 obtain ⟨c1, c2, c3, c4⟩ := area_bounds b1 b2 b3 b4
 have e1 : wrap64 (h + 1) = h + 1 := by unfold wrap64; omega
 have e3 : wrap64 (w * (h + 1)) = w * (h + 1) := by unfold wrap64; omega
 unfold impl_Figure_set.f figMask
 have q := set_l0 w h a u (by omega) (by omega) (by rw [e1, e3]) (by omega) (by omega) (fun k hk => by have := inB_mem hi1 k hk; omega) (fun k hk => by have := inB_mem hi2 k hk; omega) a.length k 0 0 (by omega) (by omega) (by clear hi1 hi2; omega) (by decide)
 rw [List.drop_zero] at q
 exact q


structure GridOK (w h : Int) : Prop where
  w1 : 1 ≤ w
  w4 : w ≤ 4
  h1 : 1 ≤ h
  h4 : h ≤ 4
theorem gridOK_of {w h : Int} {a u : List Int} (hf : figB w h a u = true) : GridOK w h := by
  unfold figB at hf
  simp only [Bool.and_eq_true] at hf
  obtain ⟨b1, b2, b3, b4⟩ := grid_bounds (by simp only [Bool.and_eq_true]; exact hf.1)
  exact ⟨b1, b2, b3, b4⟩
theorem prod_b {w y : Int} (h1 : 1 ≤ w) (h4 : w ≤ 5) (hy : 0 ≤ y) (hy4 : y ≤ 4) : 0 ≤ y * w ∧ y * w ≤ 20 := by
  have : y = 0 ∨ y = 1 ∨ y = 2 ∨ y = 3 ∨ y = 4 := by omega
  rcases this with rfl | rfl | rfl | rfl | rfl <;> omega
theorem level_f {w h x y : Int} (g : GridOK w h) (hx : 0 ≤ x) (hx4 : x ≤ 4) (hy : 0 ≤ y) (hy4 : y ≤ 4) : impl_grid_level.f w h x y = some ((2 ^ (y * w + x).toNat : Nat) : Int) := by
  obtain ⟨p1, p2⟩ := prod_b g.w1 (by have := g.w4; omega) hy hy4
  have e1 : wrap64 (y * w) = y * w := by unfold wrap64; omega
  have e2 : wrap64 (y * w + x) = (((y * w + x).toNat : Nat) : Int) := by unfold wrap64; omega
  unfold impl_grid_level.f
  rw [e1, e2, if_pos (Int.natCast_nonneg _), shl_u64 _ (by omega)]
theorem upright_f {w h x y : Int} (g : GridOK w h) (hx : 0 ≤ x) (hx4 : x ≤ 4) (hy : 0 ≤ y) (hy4 : y ≤ 4) : impl_grid_upright.f w h x y = some ((2 ^ ((w * (h + 1)).toNat + (y * (w + 1) + x).toNat) : Nat) : Int) := by
  obtain ⟨p1, p2⟩ := prod_b (w := w + 1) (by have := g.w1; omega) (by have := g.w4; omega) hy hy4
  obtain ⟨c1, c2, -, -⟩ := area_bounds g.w1 g.w4 g.h1 g.h4
  have w1 := g.w1
  have w4 := g.w4
  have h1 := g.h1
  have h4 := g.h4
  have e0 : wrap64 (h + 1) = h + 1 := by unfold wrap64; omega
  have e1 : wrap64 (w + 1) = w + 1 := by unfold wrap64; omega
  have e2 : wrap64 (w * (h + 1)) = w * (h + 1) := by unfold wrap64; omega
  have e3 : wrap64 (y * (w + 1)) = y * (w + 1) := by unfold wrap64; omega
  have e4 : wrap64 (w * (h + 1) + y * (w + 1)) = w * (h + 1) + y * (w + 1) := by unfold wrap64; omega
  have e5 : wrap64 (w * (h + 1) + y * (w + 1) + x) = (((w * (h + 1)).toNat + (y * (w + 1) + x).toNat : Nat) : Int) := by unfold wrap64; omega
  unfold impl_grid_upright.f impl_grid_levels.f
  rw [Option.bind_some, e0, e1, e2, e3, e4, e5, if_pos (Int.natCast_nonneg _), shl_u64 _ (by omega)]
theorem l1Has_l0 (l : List Int) (n : Int) (hL : l.length ≤ 4000000) : ∀ (d k i : Nat), l.length - i = d → i ≤ l.length → d < k → spec_l1Has.l0 k n l (l.length : Int) (i : Int) = some (decide (n ∈ l.drop i)) := by
  intro d
  induction d with
  | zero =>
    intro k i h1 h3 h4
    obtain ⟨k, rfl⟩ : ∃ m, k = m + 1 := ⟨k - 1, by omega⟩
    simp only [spec_l1Has.l0]
    rw [if_neg (by omega), List.drop_of_length_le (by omega)]
    rfl
  | succ d ih =>
    intro k i h1 h3 h4
    obtain ⟨k, rfl⟩ : ∃ m, k = m + 1 := ⟨k - 1, by omega⟩
    have e2 : wrap64 ((i : Int) + 1) = ((i + 1 : Nat) : Int) := by unfold wrap64; omega
    simp only [spec_l1Has.l0]
    rw [if_pos (by omega), if_pos (by omega), if_pos (by omega), rd_nat l i (by omega), e2, ih k (i + 1) (by omega) (by omega) (by omega), List.drop_eq_getElem_cons (show i < l.length by omega)]
    by_cases hn : l[i] = n
    · rw [if_pos hn, decide_eq_true (show n ∈ l[i] :: l.drop (i + 1) by rw [hn]; exact List.mem_cons_self)]
    · rw [if_neg hn]
      congr 1
      rw [decide_eq_decide, List.mem_cons]
      constructor
      · exact Or.inr
      · rintro (h | h)
        · exact absurd h.symm hn
        · exact h
theorem l1Has_f (l : List Int) (n : Int) (hL : l.length ≤ 4000000) (k : Nat) (hk : l.length < k) : spec_l1Has.f k l n = some (decide (n ∈ l)) := by
  unfold spec_l1Has.f
  exact l1Has_l0 l n hL l.length k 0 (by omega) (by omega) hk
theorem fiHas_level {w h : Int} {a u : List Int} (g : GridOK w h) (hf : figB w h a u = true) (ha : a.length ≤ 1000000) (k : Nat) (hk : 1000000 < k) (x y : Int) (hx0 : 0 ≤ x) (hx1 : x < w) (hy0 : 0 ≤ y) (hy1 : y ≤ h) :
    spec_fiHas.f k w h a u false x y = some ((figMask w h a u).testBit (y * w + x).toNat) := by
  have w1 := g.w1
  have w4 := g.w4
  have h1 := g.h1
  have h4 := g.h4
  obtain ⟨p1, p2⟩ := prod_b (w := w) (y := y) w1 (by omega) hy0 (by omega)
  have e0 : wrap64 (w - 1) = w - 1 := by unfold wrap64; omega
  have e1 : wrap64 (y * w) = y * w := by unfold wrap64; omega
  have e2 : wrap64 (y * w + x) = y * w + x := by unfold wrap64; omega
  have hlt : ((y * w + x).toNat : Int) < w * (h + 1) := by
    have c1 : y = 0 ∨ y = 1 ∨ y = 2 ∨ y = 3 ∨ y = 4 := by omega
    have c2 : h = 1 ∨ h = 2 ∨ h = 3 ∨ h = 4 := by omega
    clear e0 e1 e2 hf
    rcases c2 with rfl | rfl | rfl | rfl <;> rcases c1 with rfl | rfl | rfl | rfl | rfl <;> omega
  have ht : ((y * w + x).toNat : Int) = y * w + x := by omega
  unfold spec_fiHas.f spec_fiEdge.f
  rw [if_neg (by decide), l1In_f, Option.bind_some, e0, decide_eq_true hx0, decide_eq_true (show x ≤ w - 1 by omega), if_pos (show (true && true) = true from rfl), l1In_f, Option.bind_some, decide_eq_true hy0, decide_eq_true hy1, Option.bind_some, if_neg (show ¬ false = true by decide), e1, e2, l1Has_f a _ (by omega) k (by omega), Option.bind_some, figMask_level hf _ hlt, ht]
theorem fiHas_upright {w h : Int} {a u : List Int} (g : GridOK w h) (hf : figB w h a u = true) (hu : u.length ≤ 1000000) (k : Nat) (hk : 1000000 < k) (x y : Int) (hx0 : 0 ≤ x) (hx1 : x ≤ w) (hy0 : 0 ≤ y) (hy1 : y < h) :
    spec_fiHas.f k w h a u true x y = some ((figMask w h a u).testBit ((w * (h + 1)).toNat + (y * (w + 1) + x).toNat)) := by
  have w1 := g.w1
  have w4 := g.w4
  have h1 := g.h1
  have h4 := g.h4
  obtain ⟨p1, p2⟩ := prod_b (w := w + 1) (y := y) (by omega) (by omega) hy0 (by omega)
  have e0 : wrap64 (h - 1) = h - 1 := by unfold wrap64; omega
  have e3 : wrap64 (w + 1) = w + 1 := by unfold wrap64; omega
  have e1 : wrap64 (y * (w + 1)) = y * (w + 1) := by unfold wrap64; omega
  have e2 : wrap64 (y * (w + 1) + x) = y * (w + 1) + x := by unfold wrap64; omega
  have ht : ((y * (w + 1) + x).toNat : Int) = y * (w + 1) + x := by omega
  unfold spec_fiHas.f spec_fiEdge.f
  rw [if_pos rfl, l1In_f, Option.bind_some, e0, e3, decide_eq_true hx0, decide_eq_true hx1, if_pos (show (true && true) = true from rfl), l1In_f, Option.bind_some, Option.bind_some, if_pos rfl, e1, e2, l1Has_f u _ (by omega) k (by omega), Option.bind_some, figMask_upright hf, ht]
theorem and_two (e m : Nat) : 2 ^ e &&& m = if m.testBit e = true then 2 ^ e else 0 := by
  apply Nat.eq_of_testBit_eq
  intro i
  rw [Nat.testBit_and, Nat.testBit_two_pow]
  by_cases h : m.testBit e = true
  · rw [if_pos h, Nat.testBit_two_pow]
    by_cases hi : e = i
    · subst hi; simp [h]
    · simp [hi]
  · rw [if_neg h, Nat.zero_testBit]
    by_cases hi : e = i
    · subst hi; simpa using h
    · simp [hi]


def inC (w h x y : Int) : Prop := (0 ≤ x ∧ x ≤ w) ∧ (0 ≤ y ∧ y ≤ h)
instance (w h x y : Int) : Decidable (inC w h x y) := by unfold inC; infer_instance
theorem isCorner_f (w h x y : Int) : impl_grid_isCorner.f w h x y = some (decide (inC w h x y)) := by
  unfold impl_grid_isCorner.f inC
  rw [within_f, within_f, Option.bind_some, Option.bind_some]
  by_cases h1 : 0 ≤ x ∧ x ≤ w
  · rw [decide_eq_true h1.1, decide_eq_true h1.2]
    simp [h1]
  · rw [show (decide (0 ≤ x) && decide (x ≤ w)) = false by rw [Bool.eq_false_iff]; intro hh; simp at hh; exact h1 hh]
    simp [h1]
def btwE (w h x y d : Int) : Option Nat :=
  if inC w h x y then
    if d = 110 then (if 1 ≤ y then some ((w * (h + 1)).toNat + ((y - 1) * (w + 1) + x).toNat) else none)
    else if d = 101 then (if x < w then some (y * w + x).toNat else none)
    else if d = 115 then (if y < h then some ((w * (h + 1)).toNat + (y * (w + 1) + x).toNat) else none)
    else (if 1 ≤ x then some (y * w + (x - 1)).toNat else none)
  else none
def maskE : Option Nat → Nat | none => 0 | some e => 2 ^ e
theorem between_f {w h x y d : Int} (g : GridOK w h) (hd : d = 110 ∨ d = 101 ∨ d = 115 ∨ d = 119) (k : Nat) (hk : 0 < k) : impl_grid_between.f k w h x y d = some ((maskE (btwE w h x y d) : Nat) : Int) := by
  obtain ⟨k, rfl⟩ : ∃ q, k = q + 1 := ⟨k - 1, by omega⟩
  have w1 := g.w1
  have w4 := g.w4
  have h1 := g.h1
  have h4 := g.h4
  by_cases hc : inC w h x y
  · obtain ⟨⟨hx0, hx1⟩, hy0, hy1⟩ := id hc
    have wy1 : wrap64 (y - 1) = y - 1 := by unfold wrap64; omega
    have wy2 : wrap64 (y + 1) = y + 1 := by unfold wrap64; omega
    have wx1 : wrap64 (x - 1) = x - 1 := by unfold wrap64; omega
    have wx2 : wrap64 (x + 1) = x + 1 := by unfold wrap64; omega
    rcases hd with rfl | rfl | rfl | rfl
    · unfold impl_grid_between.f impl_Corner_next.f btwE
      rw [if_pos rfl, if_pos hc, if_pos rfl, Option.bind_some, isCorner_f, isCorner_f, Option.bind_some, Option.bind_some, decide_eq_true hc, if_pos rfl, wy1]
      simp only [impl_grid_between.j0]
      by_cases hy : 1 ≤ y
      · rw [decide_eq_true (show inC w h x (y - 1) from ⟨⟨hx0, hx1⟩, by omega, by omega⟩), if_neg (by simp), if_neg (by omega), if_pos hy, show mn y (y - 1) = y - 1 by unfold mn; omega, upright_f g hx0 (by omega) (by omega) (by omega)]
        rfl
      · rw [decide_eq_false (show ¬ inC w h x (y - 1) from fun hh => by have := hh.2.1; omega), if_pos (by simp), if_neg hy]
        rfl
    · unfold impl_grid_between.f impl_Corner_next.f btwE
      rw [if_neg (by decide), if_pos rfl, if_pos hc, if_neg (by decide), if_pos rfl, Option.bind_some, isCorner_f, isCorner_f, Option.bind_some, Option.bind_some, decide_eq_true hc, if_pos rfl, wx2]
      simp only [impl_grid_between.j0]
      by_cases hx : x < w
      · rw [decide_eq_true (show inC w h (x + 1) y from ⟨⟨by omega, by omega⟩, hy0, hy1⟩), if_neg (by simp), if_pos (by trivial), if_pos hx, show mn x (x + 1) = x by unfold mn; omega, level_f g hx0 (by omega) hy0 (by omega)]
        rfl
      · rw [decide_eq_false (show ¬ inC w h (x + 1) y from fun hh => by have := hh.1.2; omega), if_pos (by simp), if_neg hx]
        rfl
    · unfold impl_grid_between.f impl_Corner_next.f btwE
      rw [if_neg (by decide), if_neg (by decide), if_pos rfl, if_pos hc, if_neg (by decide), if_neg (by decide), if_pos rfl, Option.bind_some, isCorner_f, isCorner_f, Option.bind_some, Option.bind_some, decide_eq_true hc, if_pos rfl, wy2]
      simp only [impl_grid_between.j0]
      by_cases hy : y < h
      · rw [decide_eq_true (show inC w h x (y + 1) from ⟨⟨hx0, hx1⟩, by omega, by omega⟩), if_neg (by simp), if_neg (by omega), if_pos hy, show mn y (y + 1) = y by unfold mn; omega, upright_f g hx0 (by omega) hy0 (by omega)]
        rfl
      · rw [decide_eq_false (show ¬ inC w h x (y + 1) from fun hh => by have := hh.2.2; omega), if_pos (by simp), if_neg hy]
        rfl
    · unfold impl_grid_between.f impl_Corner_next.f btwE
      rw [if_neg (by decide), if_neg (by decide), if_neg (by decide), if_pos hc, if_neg (by decide), if_neg (by decide), if_neg (by decide), Option.bind_some, isCorner_f, isCorner_f, Option.bind_some, Option.bind_some, decide_eq_true hc, if_pos rfl, wx1]
      simp only [impl_grid_between.j0]
      by_cases hx : 1 ≤ x
      · rw [decide_eq_true (show inC w h (x - 1) y from ⟨⟨by omega, by omega⟩, hy0, hy1⟩), if_neg (by simp), if_pos (by trivial), if_pos hx, show mn x (x - 1) = x - 1 by unfold mn; omega, level_f g (by omega) (by omega) hy0 (by omega)]
        rfl
      · rw [decide_eq_false (show ¬ inC w h (x - 1) y from fun hh => by have := hh.1.1; omega), if_pos (by simp), if_neg hx]
        rfl
  · have hn : ∃ p, impl_Corner_next.f x y d = some p := by
      unfold impl_Corner_next.f
      rcases hd with rfl | rfl | rfl | rfl <;> exact ⟨_, rfl⟩
    obtain ⟨p, hp⟩ := hn
    unfold impl_grid_between.f btwE
    rw [hp, Option.bind_some, isCorner_f, Option.bind_some, decide_eq_false hc, if_neg (by simp), if_neg hc]
    simp only [impl_grid_between.j0]
    rfl
def bitE (m : Nat) (o : Option Nat) : Int := if (match o with | none => false | some e => m.testBit e) = true then 1 else 0
theorem btwE_lt {w h x y d : Int} (g : GridOK w h) (e : Nat) (he : btwE w h x y d = some e) : e < 60 := by
  have w1 := g.w1
  have w4 := g.w4
  have h1 := g.h1
  have h4 := g.h4
  unfold btwE at he
  obtain ⟨c1, c2, -, -⟩ := area_bounds w1 w4 h1 h4
  by_cases hc : inC w h x y
  · rw [if_pos hc] at he
    obtain ⟨⟨hx0, hx1⟩, hy0, hy1⟩ := hc
    have q1 := prod_b (w := w) w1 (by omega) hy0 (by omega)
    have q2 := prod_b (w := w + 1) (by omega) (by omega) hy0 (by omega)
    split at he
    · split at he
      · have q3 := prod_b (w := w + 1) (y := y - 1) (by omega) (by omega) (by omega) (by omega)
        injection he with he; omega
      · cases he
    · split at he
      · split at he
        · injection he with he; omega
        · cases he
      · split at he
        · split at he
          · injection he with he; omega
          · cases he
        · split at he
          · injection he with he; omega
          · cases he
  · rw [if_neg hc] at he; cases he
theorem bit_f (m : Nat) (hm : m < 2 ^ 60) (o : Option Nat) (ho : ∀ e, o = some e → e < 60) : impl_bit.f ((Go.bits .and .u64 ((maskE o : Nat) : Int) (m : Int)) != 0) = some (bitE m o) := by
  unfold impl_bit.f bitE
  cases o with
  | none =>
    rw [show (maskE none) = 0 from rfl, and_u64 0 m (by decide) hm, Nat.zero_and]
    rfl
  | some e =>
    rw [show (maskE (some e)) = 2 ^ e from rfl, and_u64 _ m (pow_lt60 (ho e rfl)) hm, and_two e m]
    by_cases hb : m.testBit e = true
    · have : 0 < 2 ^ e := Nat.two_pow_pos e
      have h2 : (((2 ^ e : Nat) : Int) != 0) = true := by
        rw [bne_iff_ne]; intro hh; omega
      rw [if_pos hb, h2]
      show (if true = true then some (1 : Int) else some 0) = some (if m.testBit e = true then 1 else 0)
      rw [if_pos rfl, if_pos hb]
    · rw [if_neg hb]
      show _ = some (if m.testBit e = true then (1 : Int) else 0)
      rw [if_neg hb]
      rfl
def meetE (w h : Int) (m : Nat) (x y : Int) : Int := bitE m (btwE w h x y 110) + bitE m (btwE w h x y 101) + bitE m (btwE w h x y 115) + bitE m (btwE w h x y 119)
theorem bitE_01 (m : Nat) (o : Option Nat) : 0 ≤ bitE m o ∧ bitE m o ≤ 1 := by unfold bitE; split <;> omega


def spec_liNext.f (k : Nat) (a0_0 : Int) (a0_1 : Int) (l0_2 : List Int) (l0_3 : List Int) (a1_0 : Int) (a1_1 : Int) (a2 : Int) : Option (Int × Int × Bool) := if a2 = 0 then (if a1_1 > 0 then ((spec_fiHas.f k a0_0 a0_1 l0_2 l0_3 true a1_0 (wrap64 (a1_1 - 1))).bind fun t425 => (some (a1_0, wrap64 (a1_1 - 1), t425))) else (some (a1_0, wrap64 (a1_1 - 1), false))) else (if a2 = 1 then (if a1_0 < a0_0 then ((spec_fiHas.f k a0_0 a0_1 l0_2 l0_3 false a1_0 a1_1).bind fun t426 => (some (wrap64 (a1_0 + 1), a1_1, t426))) else (some (wrap64 (a1_0 + 1), a1_1, false))) else (if a2 = 2 then (if a1_1 < a0_1 then ((spec_fiHas.f k a0_0 a0_1 l0_2 l0_3 true a1_0 a1_1).bind fun t427 => (some (a1_0, wrap64 (a1_1 + 1), t427))) else (some (a1_0, wrap64 (a1_1 + 1), false))) else (if a1_0 > 0 then ((spec_fiHas.f k a0_0 a0_1 l0_2 l0_3 false (wrap64 (a1_0 - 1)) a1_1).bind fun t428 => (some (wrap64 (a1_0 - 1), a1_1, t428))) else (some (wrap64 (a1_0 - 1), a1_1, false)))))
theorem spec_liNext.mono : ∀ a0 a1 a2 a3 a4 a5 a6 k, LeO (spec_liNext.f k a0 a1 a2 a3 a4 a5 a6) (spec_liNext.f (k + 1) a0 a1 a2 a3 a4 a5 a6) := by
  intro a0 a1 a2 a3 a4 a5 a6 k
  unfold spec_liNext.f
  repeat' first
      | (with_reducible exact spec_fiHas.mono _ _ _ _ _ _ _ _)
      | (with_reducible exact LeO.refl _)
      | (with_reducible exact LeO.none _)
      | (with_reducible refine LeO.ite ?_ ?_)
      | (with_reducible refine LeO.bind ?_ (fun _ => ?_))
      | exact spec_fiHas.mono _ _ _ _ _ _ _ _
      | exact LeO.none _
      | refine LeO.ite ?_ ?_
      | refine LeO.bind ?_ (fun _ => ?_)
def spec_liNext.T3 : Bool × List (List Nat × List Nat) := (true, [([], []), ([0], [0]), ([], []), ([2], [2]), ([3], [3]), ([1, 4], [1, 4]), ([], []), ([6], [6]), ([7], [7]), ([8], [8]), ([9], [9]), ([9], [9]), ([11, 9], [9, 11]), ([9], [9]), ([13, 9], [9, 13]), ([14, 9], [9, 14]), ([10, 12, 15, 9, 9], [9, 10, 12, 15]), ([9, 16], [9, 16]), ([5, 16, 0, 1, 2, 3, 4, 5], [5]), ([17, 18, 0, 1, 2, 3, 4, 5, 6, 7, 8, 9, 10, 11, 12, 13, 14, 15, 16, 17, 18], [17])])
def spec_liNext.B3 : List Nat := [0, 1, 0, 4, 12, 31, 0, 64, 192, 448, 960, 960, 3008, 960, 9152, 25536, 65472, 131008, 131071, 524287]
def spec_liNext.T8 : Bool × List (List Nat × List Nat) := (true, [([], []), ([0], [0]), ([1], [1]), ([], []), ([3], [3]), ([2, 4], [2, 4]), ([], []), ([6], [6]), ([7], [7]), ([8], [8]), ([9], [9]), ([9], [9]), ([11, 9], [9, 11]), ([12, 9], [9, 12]), ([9], [9]), ([14, 9], [9, 14]), ([10, 13, 15, 9, 9], [9, 10, 13, 15]), ([9, 16], [9, 16]), ([5, 16, 0, 1, 2, 3, 4, 5], [5]), ([17, 18, 0, 1, 2, 3, 4, 5, 6, 7, 8, 9, 10, 11, 12, 13, 14, 15, 16, 17, 18], [17])])
def spec_liNext.B8 : List Nat := [0, 1, 3, 0, 8, 31, 0, 64, 192, 448, 960, 960, 3008, 7104, 960, 17344, 65472, 131008, 131071, 524287]
theorem spec_liNext.tab8 : rtab .any (opsOf Try.f51 8) = spec_liNext.T8 := by kernel_rfl
theorem spec_liNext.bits8 : waitsOk spec_liNext.T8.2 spec_liNext.B8 = true := by kernel_rfl

mutual
def spec_liAll.l0 : Nat → List (S41) → Int → Int → Int → List Int → List Int → Option ((List (S41)))
  | 0, _, _, _, _, _, _ => none
  | k + 1, x3, x4, x582000, x582001, x582002, x582003 => if x4 ≤ x582001 then (spec_liAll.l1 k x3 x4 0 x582000 x582001 x582002 x582003) else (some x3)
def spec_liAll.l1 : Nat → List (S41) → Int → Int → Int → Int → List Int → List Int → Option ((List (S41)))
  | 0, _, _, _, _, _, _, _ => none
  | k + 1, x3, x4, x5, x582000, x582001, x582002, x582003 => if x5 ≤ x582000 then (if x3.length < 8796093022208 then (spec_liAll.l1 k (x3 ++ [(⟨x5, x4⟩ : S41)]) x4 (wrap64 (x5 + 1)) x582000 x582001 x582002 x582003) else (none)) else (spec_liAll.l0 k x3 (wrap64 (x4 + 1)) x582000 x582001 x582002 x582003)
end
def spec_liAll.f (k : Nat) (a0_0 : Int) (a0_1 : Int) (l0_2 : List Int) (l0_3 : List Int) : Option ((List (S41))) := spec_liAll.l0 k ([] : List (S41)) 0 a0_0 a0_1 l0_2 l0_3
theorem spec_liAll.mono_l : ∀ k, (∀ y0 y1 y2 y3 y4 y5, LeO (spec_liAll.l0 k y0 y1 y2 y3 y4 y5) (spec_liAll.l0 (k + 1) y0 y1 y2 y3 y4 y5)) ∧ (∀ y0 y1 y2 y3 y4 y5 y6, LeO (spec_liAll.l1 k y0 y1 y2 y3 y4 y5 y6) (spec_liAll.l1 (k + 1) y0 y1 y2 y3 y4 y5 y6))
  | 0 => ⟨fun _ _ _ _ _ _ r h => by simp [spec_liAll.l0] at h, fun _ _ _ _ _ _ _ r h => by simp [spec_liAll.l1] at h⟩
  | k + 1 => by
    obtain ⟨ih0, ih1⟩ := spec_liAll.mono_l k
    refine ⟨?_, ?_⟩
    · intro y0 y1 y2 y3 y4 y5
      unfold spec_liAll.l0
      repeat' first
      | (with_reducible exact ih0 _ _ _ _ _ _)
      | (with_reducible exact ih1 _ _ _ _ _ _ _)
      | (with_reducible exact LeO.refl _)
      | (with_reducible exact LeO.none _)
      | (with_reducible refine LeO.ite ?_ ?_)
      | (with_reducible refine LeO.bind ?_ (fun _ => ?_))
      | exact ih0 _ _ _ _ _ _
      | exact ih1 _ _ _ _ _ _ _
      | exact LeO.none _
      | refine LeO.ite ?_ ?_
      | refine LeO.bind ?_ (fun _ => ?_)
    · intro y0 y1 y2 y3 y4 y5 y6
      unfold spec_liAll.l1
      repeat' first
      | (with_reducible exact ih0 _ _ _ _ _ _)
      | (with_reducible exact ih1 _ _ _ _ _ _ _)
      | (with_reducible exact LeO.refl _)
      | (with_reducible exact LeO.none _)
      | (with_reducible refine LeO.ite ?_ ?_)
      | (with_reducible refine LeO.bind ?_ (fun _ => ?_))
      | exact ih0 _ _ _ _ _ _
      | exact ih1 _ _ _ _ _ _ _
      | exact LeO.none _
      | refine LeO.ite ?_ ?_
      | refine LeO.bind ?_ (fun _ => ?_)
theorem spec_liAll.mono : ∀ a0 a1 a2 a3 k, LeO (spec_liAll.f k a0 a1 a2 a3) (spec_liAll.f (k + 1) a0 a1 a2 a3) := by
  intro a0 a1 a2 a3 k
  obtain ⟨ih0, ih1⟩ := spec_liAll.mono_l k
  unfold spec_liAll.f
  repeat' first
      | (with_reducible exact ih0 _ _ _ _ _ _)
      | (with_reducible exact ih1 _ _ _ _ _ _ _)
      | (with_reducible exact LeO.refl _)
      | (with_reducible exact LeO.none _)
      | (with_reducible refine LeO.ite ?_ ?_)
      | (with_reducible refine LeO.bind ?_ (fun _ => ?_))
      | exact ih0 _ _ _ _ _ _
      | exact ih1 _ _ _ _ _ _ _
      | exact LeO.none _
      | refine LeO.ite ?_ ?_
      | refine LeO.bind ?_ (fun _ => ?_)

def spec_liMeet.l0 : Nat → Int → Int → Int → Int → List Int → List Int → Int → Int → Option (Int)
  | 0, _, _, _, _, _, _, _, _ => none
  | k + 1, x5, x6, x587000, x587001, x587002, x587003, x588000, x588001 => if x6 < 4 then ((spec_liNext.f k x587000 x587001 x587002 x587003 x588000 x588001 x6).bind fun bt588 => (if bt588.2.2 = true then (spec_liMeet.l0 k (wrap64 (x5 + 1)) (wrap64 (x6 + 1)) x587000 x587001 x587002 x587003 x588000 x588001) else (spec_liMeet.l0 k x5 (wrap64 (x6 + 1)) x587000 x587001 x587002 x587003 x588000 x588001))) else (some x5)
def spec_liMeet.f (k : Nat) (a0_0 : Int) (a0_1 : Int) (l0_2 : List Int) (l0_3 : List Int) (a1_0 : Int) (a1_1 : Int) : Option (Int) := spec_liMeet.l0 k 0 0 a0_0 a0_1 l0_2 l0_3 a1_0 a1_1
theorem spec_liMeet.mono_l : ∀ k, (∀ y0 y1 y2 y3 y4 y5 y6 y7, LeO (spec_liMeet.l0 k y0 y1 y2 y3 y4 y5 y6 y7) (spec_liMeet.l0 (k + 1) y0 y1 y2 y3 y4 y5 y6 y7))
  | 0 => fun _ _ _ _ _ _ _ _ r h => by simp [spec_liMeet.l0] at h
  | k + 1 => by
    have ih0 := spec_liMeet.mono_l k
    · intro y0 y1 y2 y3 y4 y5 y6 y7
      unfold spec_liMeet.l0
      repeat' first
      | (with_reducible exact ih0 _ _ _ _ _ _ _ _)
      | (with_reducible exact spec_liNext.mono _ _ _ _ _ _ _ _)
      | (with_reducible exact LeO.refl _)
      | (with_reducible exact LeO.none _)
      | (with_reducible refine LeO.ite ?_ ?_)
      | (with_reducible refine LeO.bind ?_ (fun _ => ?_))
      | exact ih0 _ _ _ _ _ _ _ _
      | exact spec_liNext.mono _ _ _ _ _ _ _ _
      | exact LeO.none _
      | refine LeO.ite ?_ ?_
      | refine LeO.bind ?_ (fun _ => ?_)
theorem spec_liMeet.mono : ∀ a0 a1 a2 a3 a4 a5 k, LeO (spec_liMeet.f k a0 a1 a2 a3 a4 a5) (spec_liMeet.f (k + 1) a0 a1 a2 a3 a4 a5) := by
  intro a0 a1 a2 a3 a4 a5 k
  have ih0 := spec_liMeet.mono_l k
  unfold spec_liMeet.f
  repeat' first
      | (with_reducible exact ih0 _ _ _ _ _ _ _ _)
      | (with_reducible exact spec_liNext.mono _ _ _ _ _ _ _ _)
      | (with_reducible exact LeO.refl _)
      | (with_reducible exact LeO.none _)
      | (with_reducible refine LeO.ite ?_ ?_)
      | (with_reducible refine LeO.bind ?_ (fun _ => ?_))
      | exact ih0 _ _ _ _ _ _ _ _
      | exact spec_liNext.mono _ _ _ _ _ _ _ _
      | exact LeO.none _
      | refine LeO.ite ?_ ?_
      | refine LeO.bind ?_ (fun _ => ?_)

def stepB (w h : Int) (m : Nat) (x y d : Int) : Bool := match btwE w h x y d with | none => false | some e => m.testBit e
theorem bitE_step (w h : Int) (m : Nat) (x y d : Int) : bitE m (btwE w h x y d) = if stepB w h m x y d = true then 1 else 0 := rfl
def cornL (w h : Int) : List S41 := (List.range (h + 1).toNat).flatMap fun (y : Nat) => (List.range (w + 1).toNat).map fun (x : Nat) => (⟨(x : Int), (y : Int)⟩ : S41)
theorem cornL_in {w h : Int} (g : GridOK w h) : ∀ c ∈ cornL w h, inC w h c.f0 c.f1 := by
  intro c hc
  have w1 := g.w1
  have h1 := g.h1
  unfold cornL at hc
  rw [List.mem_flatMap] at hc
  obtain ⟨y, hy, hc⟩ := hc
  rw [List.mem_map] at hc
  obtain ⟨x, hx, rfl⟩ := hc
  rw [List.mem_range] at hx hy
  exact ⟨⟨Int.natCast_nonneg _, by show (x : Int) ≤ w; omega⟩, Int.natCast_nonneg _, by show (y : Int) ≤ h; omega⟩
theorem grid_cases {w h : Int} (g : GridOK w h) : (w = 1 ∨ w = 2 ∨ w = 3 ∨ w = 4) ∧ (h = 1 ∨ h = 2 ∨ h = 3 ∨ h = 4) := by
  have w1 := g.w1
  have w4 := g.w4
  have h1 := g.h1
  have h4 := g.h4
  constructor <;> omega
theorem cornL_len {w h : Int} (g : GridOK w h) : (cornL w h).length ≤ 25 := by
  obtain ⟨cw, ch⟩ := grid_cases g
  clear g
  rcases cw with rfl | rfl | rfl | rfl <;> rcases ch with rfl | rfl | rfl | rfl <;> decide
theorem corners_f {w h : Int} (g : GridOK w h) (k : Nat) (hk : 60 < k) : impl_grid_corners.f k w h = some (cornL w h) := by
  obtain ⟨cw, ch⟩ := grid_cases g
  clear g
  rcases cw with rfl | rfl | rfl | rfl <;> rcases ch with rfl | rfl | rfl | rfl <;> exact up_rounds (fun k => impl_grid_corners.mono _ _ k) (Nat.le_of_lt hk) (by kernel_rfl)
theorem rd36_nat (l : List S41) (i : Nat) (h : i < l.length) : rd_T41 l (i : Int) = l[i] := by
  unfold rd_T41
  rw [Int.toNat_natCast, List.getD_eq_getElem?_getD, List.getElem?_eq_getElem h]
  rfl


theorem meeting_f {w h : Int} (g : GridOK w h) (m : Nat) (hm : m < 2 ^ 60) (x y : Int) (k : Nat) (hk : 10 < k) : impl_grid_meeting.f k w h (m : Int) x y = some (meetE w h m x y) := by
  obtain ⟨k, rfl⟩ : ∃ q, k = q + 5 := ⟨k - 5, by omega⟩
  have b0 := bitE_01 m (btwE w h x y 110)
  have b1 := bitE_01 m (btwE w h x y 101)
  have b2 := bitE_01 m (btwE w h x y 115)
  have b3 := bitE_01 m (btwE w h x y 119)
  have r0 : rd ([110, 101, 115, 119] : List Int) 0 = 110 := rfl
  have r1 : rd ([110, 101, 115, 119] : List Int) 1 = 101 := rfl
  have r2 : rd ([110, 101, 115, 119] : List Int) 2 = 115 := rfl
  have r3 : rd ([110, 101, 115, 119] : List Int) 3 = 119 := rfl
  have i1 : wrap64 ((0 : Int) + 1) = 1 := by unfold wrap64; omega
  have i2 : wrap64 ((1 : Int) + 1) = 2 := by unfold wrap64; omega
  have i3 : wrap64 ((2 : Int) + 1) = 3 := by unfold wrap64; omega
  have i4 : wrap64 ((3 : Int) + 1) = 4 := by unfold wrap64; omega
  have hB : ∀ d, d = 110 ∨ d = 101 ∨ d = 115 ∨ d = 119 → ∀ k, 0 < k → (impl_grid_between.f k w h x y d).bind (fun t => (impl_bit.f ((Go.bits .and .u64 t (m : Int)) != 0))) = some (bitE m (btwE w h x y d)) := fun d hd k hk => by
    rw [between_f g hd k hk, Option.bind_some, bit_f m hm _ (fun e he => btwE_lt g e he)]
  have step : ∀ (k : Nat) (i acc d : Int), 0 < k → 0 ≤ i → i < 4 → rd ([110, 101, 115, 119] : List Int) i = d → (d = 110 ∨ d = 101 ∨ d = 115 ∨ d = 119) →
      impl_grid_meeting.l0 (k + 1) (m : Int) acc [110, 101, 115, 119] 4 i w h x y = impl_grid_meeting.l0 k (m : Int) (wrap64 (acc + bitE m (btwE w h x y d))) [110, 101, 115, 119] 4 (wrap64 (i + 1)) w h x y := fun k i acc d hk h0 h4 hr hd => by
    simp only [impl_grid_meeting.l0]
    rw [if_pos h4, if_pos h0, if_pos (show i < (([110, 101, 115, 119] : List Int).length : Int) from h4), hr, between_f g hd k hk, Option.bind_some, bit_f m hm _ (fun e he => btwE_lt g e he), Option.bind_some]
  unfold impl_grid_meeting.f meetE
  rw [Option.bind_some]
  show impl_grid_meeting.l0 (k + 5) (m : Int) 0 [110, 101, 115, 119] 4 0 w h x y = _
  rw [step (k + 4) 0 0 110 (by omega) (by omega) (by omega) r0 (by simp), i1, step (k + 3) 1 _ 101 (by omega) (by omega) (by omega) r1 (by simp), i2, step (k + 2) 2 _ 115 (by omega) (by omega) (by omega) r2 (by simp), i3, step (k + 1) 3 _ 119 (by omega) (by omega) (by omega) r3 (by simp), i4]
  simp only [impl_grid_meeting.l0]
  rw [if_neg (by omega)]
  congr 1
  generalize bitE m (btwE w h x y 110) = p at *
  generalize bitE m (btwE w h x y 101) = q at *
  generalize bitE m (btwE w h x y 115) = r at *
  generalize bitE m (btwE w h x y 119) = s at *
  have e0 : wrap64 (0 + p) = p := by unfold wrap64; omega
  have e1 : wrap64 (p + q) = p + q := by unfold wrap64; omega
  have e2 : wrap64 (p + q + r) = p + q + r := by unfold wrap64; omega
  have e3 : wrap64 (p + q + r + s) = p + q + r + s := by unfold wrap64; omega
  rw [e0, e1, e2, e3]


theorem cornersOf_f (q : Int → Bool) {w h : Int} {a u : List Int} (hf : figB w h a u = true) (ha : a.length ≤ 1000000) (hu : u.length ≤ 1000000) (k : Nat) (hk : 2000010 < k) :
    impl_cornersOf.f q k w h a u = some ((cornL w h).filter fun c => q (meetE w h (figMask w h a u) c.f0 c.f1), true) := by
  have g := gridOK_of hf
  unfold impl_cornersOf.f impl_cornersWith.f
  rw [IsFigure_f w h a u ha hu k (by omega), Option.bind_some, hf, if_pos rfl, set_f hf ha hu k hk, Option.bind_some, corners_f g k (by omega), Option.bind_some,
    nsOf_mk (ns := fun c => meetE w h (figMask w h a u) c.f0 c.f1) (fun c => meeting_f g _ (figMask_lt hf) c.f0 c.f1 k (by omega)), Option.bind_some, Option.bind_some]
theorem cornersOf_no (q : Int → Bool) {w h : Int} {a u : List Int} (hf : figB w h a u = false) (ha : a.length ≤ 1000000) (hu : u.length ≤ 1000000) (k : Nat) (hk : 2000010 < k) :
    impl_cornersOf.f q k w h a u = some ([], false) := by
  unfold impl_cornersOf.f
  rw [IsFigure_f w h a u ha hu k (by omega), Option.bind_some, hf, if_neg (by decide)]


theorem rising_ext : ∀ {l m : List Int}, l.Pairwise (· < ·) → m.Pairwise (· < ·) → (∀ x, x ∈ l ↔ x ∈ m) → l = m
  | [], [], _, _, _ => rfl
  | [], b :: m, _, _, h => by have := (h b).2 List.mem_cons_self; cases this
  | a :: l, [], _, _, h => by have := (h a).1 List.mem_cons_self; cases this
  | a :: l, b :: m, h1, h2, h => by
    rw [List.pairwise_cons] at h1 h2
    have e : a = b := by
      rcases List.mem_cons.1 ((h a).1 List.mem_cons_self) with e | e
      · exact e
      · rcases List.mem_cons.1 ((h b).2 List.mem_cons_self) with e2 | e2
        · exact e2.symm
        · have := h2.1 a e; have := h1.1 b e2; omega
    subst e
    rw [rising_ext h1.2 h2.2 (fun x => ?_)]
    constructor
    · intro hx
      rcases List.mem_cons.1 ((h x).1 (List.mem_cons_of_mem _ hx)) with e | e
      · have := h1.1 x hx; omega
      · exact e
    · intro hx
      rcases List.mem_cons.1 ((h x).2 (List.mem_cons_of_mem _ hx)) with e | e
      · have := h2.1 x hx; omega
      · exact e
def setL (n : Nat) (p : Nat → Bool) : List Int := ((List.range n).filter p).map fun n : Nat => (n : Int)
theorem setL_pw (n : Nat) (p : Nat → Bool) : (setL n p).Pairwise (· < ·) := by
  unfold setL
  rw [List.pairwise_map]
  exact (List.Pairwise.filter p List.pairwise_lt_range).imp (fun h => by omega)
theorem setL_mem (n : Nat) (p : Nat → Bool) (x : Int) : x ∈ setL n p ↔ ∃ i : Nat, (i : Int) = x ∧ i < n ∧ p i = true := by
  unfold setL
  rw [List.mem_map]
  constructor
  · rintro ⟨i, hi, rfl⟩
    rw [List.mem_filter, List.mem_range] at hi
    exact ⟨i, rfl, hi⟩
  · rintro ⟨i, rfl, hi⟩
    exact ⟨i, by rw [List.mem_filter, List.mem_range]; exact hi, rfl⟩
theorem setL_len (n : Nat) (p : Nat → Bool) : (setL n p).length ≤ n := by
  unfold setL
  rw [List.length_map]
  have := List.length_filter_le p (List.range n)
  rw [List.length_range] at this
  exact this
theorem setL_congr {n : Nat} {p q : Nat → Bool} (h : ∀ i, i < n → p i = q i) : setL n p = setL n q := by
  unfold setL
  congr 1
  exact List.filter_congr (fun i hi => h i (List.mem_range.1 hi))
theorem rising_setL {l : List Int} {n : Nat} (h : l.Pairwise (· < ·)) (hb : ∀ x ∈ l, 0 ≤ x ∧ x < (n : Int)) {p : Nat → Bool} (hp : ∀ i : Nat, i < n → (p i = true ↔ (i : Int) ∈ l)) : l = setL n p := by
  refine rising_ext h (setL_pw n p) (fun x => ?_)
  rw [setL_mem]
  constructor
  · intro hx
    have hx2 := hb x hx
    obtain ⟨i, rfl⟩ := Int.eq_ofNat_of_zero_le hx2.1
    exact ⟨i, rfl, by omega, (hp i (by omega)).2 hx⟩
  · rintro ⟨i, rfl, hi, hpi⟩
    exact (hp i hi).1 hpi
theorem setL_in (n : Nat) (p : Nat → Bool) (i : Nat) : (i : Int) ∈ setL n p ↔ i < n ∧ p i = true := by
  rw [setL_mem]
  constructor
  · rintro ⟨j, hj, h⟩
    have : j = i := by omega
    subst this
    exact h
  · intro h; exact ⟨i, rfl, h⟩
end Go.Proofs.Yteaglkpplgbpaaa.P
namespace Go.Proofs.Yteaglkpplgbpaaa.P
open Go.RowKit Go.Proofs.YteaglkpplgbpaaaW.PrintWords Go.Proofs.YteaglkpplgbpaaaW.PrintLast Go.Proofs.YteaglkpplgbpaaaW.PrintMore
attribute [local go_sem] max2_int min2_int max_two min_two max_three min_three max_four min_four   -- for this text's walks alone
set_option linter.unusedVariables false
set_option linter.unusedSimpArgs false

inductive Conn (R : Nat → Nat → Prop) (a : Nat) : Nat → Prop
 | refl : Conn R a a
 | step {b c : Nat} : Conn R a b → R b c → Conn R a c
theorem Conn.trans {R : Nat → Nat → Prop} {a b c : Nat} (h : Conn R a b) (h2 : Conn R b c) : Conn R a c := by
 induction h2 with
 | refl => exact h
 | step _ h4 ih => exact ih.step h4
theorem Conn.symm {R : Nat → Nat → Prop} (hs : ∀ a b, R a b → R b a) {a b : Nat} (h : Conn R a b) : Conn R b a := by
 induction h with
 | refl => exact .refl
 | step _ h4 ih => exact Conn.trans (.step .refl (hs _ _ h4)) ih
theorem Conn.mono {R S : Nat → Nat → Prop} (hs : ∀ a b, R a b → S a b) {a b : Nat} (h : Conn R a b) : Conn S a b := by
 induction h with
 | refl => exact .refl
 | step _ h4 ih => exact ih.step (hs _ _ h4)
def AdjM (B : Nat → Nat × Nat) (m M : Nat) (a b : Nat) : Prop := ∃ k, k < M ∧ m.testBit k = false ∧ (B k = (a, b) ∨ B k = (b, a))
theorem AdjM.symm {B : Nat → Nat × Nat} {m M a b : Nat} (h : AdjM B m M a b) : AdjM B m M b a := by
 obtain ⟨k, h1, h2, h3⟩ := h
 exact ⟨k, h1, h2, h3.symm⟩
def stepF (B : Nat → Nat × Nat) (m : Nat) (f : Nat → Nat) (k : Nat) : Nat → Nat :=
 if m.testBit k = true then f else fun v => if v = (B k).2 then min (f (B k).1) (f (B k).2) else if v = (B k).1 then min (f (B k).1) (f (B k).2) else f v
def rndF (B : Nat → Nat × Nat) (m : Nat) (f : Nat → Nat) : Nat → Nat → Nat
 | 0 => f
 | k + 1 => stepF B m (rndF B m f k) k
def labF (B : Nat → Nat × Nat) (m M : Nat) : Nat → Nat → Nat
 | 0 => fun v => v
 | i + 1 => rndF B m (labF B m M i) M
theorem exists_least {P : Nat → Prop} {x : Nat} (h : P x) : ∃ y, P y ∧ ∀ z, P z → y ≤ z := by
 induction x using Nat.strongRecOn with
 | ind x ih =>
  by_cases hc : ∃ z, z < x ∧ P z
  ·obtain ⟨z, h1, h2⟩ := hc
   exact ih z h1 h2
  ·exact ⟨x, h, fun z hz => by
    rcases Nat.lt_or_ge z x with h3 | h3
    ·exact absurd ⟨z, h3, hz⟩ hc
    ·exact h3⟩
theorem countP_more {l : List Nat} {p q : Nat → Bool} (h : ∀ x ∈ l, p x = true → q x = true) {y : Nat} (hy : y ∈ l) (h1 : p y = false) (h2 : q y = true) : l.countP p < l.countP q := by
 induction l with
 | nil => cases hy
 | cons z r ih =>
  rw [List.countP_cons, List.countP_cons]
  have hr : r.countP p ≤ r.countP q := List.countP_mono_left (fun x hx hp => h x (List.mem_cons_of_mem _ hx) hp)
  rcases List.mem_cons.1 hy with rfl | hy
  ·rw [h1, h2]
   simp
   omega
  ·have := ih (fun x hx => h x (List.mem_cons_of_mem _ hx)) hy
   by_cases hp : p z = true
   ·rw [hp, h z List.mem_cons_self hp]
    simp
    omega
   ·rw [if_neg hp]
    split <;> omega
section
variable {B : Nat → Nat × Nat} {m M n : Nat}
def LabJ (B : Nat → Nat × Nat) (m M n : Nat) (f : Nat → Nat) : Prop := ∀ v, v ≤ n → f v ≤ v ∧ Conn (AdjM B m M) v (f v)
theorem stepJ (hB : ∀ k, k < M → (B k).1 ≤ n ∧ (B k).2 ≤ n) {f : Nat → Nat} (J : LabJ B m M n f) {k : Nat} (hk : k < M) : LabJ B m M n (stepF B m f k) := by
 intro v hv
 unfold stepF
 by_cases hm : m.testBit k = true
 ·rw [if_pos hm]
  exact J v hv
 ·rw [if_neg hm]
  have hm2 : m.testBit k = false := by simpa using hm
  have hA := J _ (hB k hk).1
  have hC := J _ (hB k hk).2
  have ad : AdjM B m M (B k).1 (B k).2 := ⟨k, hk, hm2, .inl rfl⟩
  have c1 : Conn (AdjM B m M) (B k).1 (min (f (B k).1) (f (B k).2)) := by
   rcases Nat.le_total (f (B k).1) (f (B k).2) with h | h
   ·rw [Nat.min_eq_left h]; exact hA.2
   ·rw [Nat.min_eq_right h]; exact Conn.trans (.step .refl ad) hC.2
  (try dsimp only)
  by_cases h2 : v = (B k).2
  ·rw [if_pos h2, h2]
   exact ⟨Nat.le_trans (Nat.min_le_right _ _) hC.1, Conn.trans (.step .refl ad.symm) c1⟩
  ·rw [if_neg h2]
   by_cases h1 : v = (B k).1
   ·rw [if_pos h1, h1]
    exact ⟨Nat.le_trans (Nat.min_le_left _ _) hA.1, c1⟩
   ·rw [if_neg h1]
    exact J v hv
theorem rndJ (hB : ∀ k, k < M → (B k).1 ≤ n ∧ (B k).2 ≤ n) {f : Nat → Nat} (J : LabJ B m M n f) : ∀ k, k ≤ M → LabJ B m M n (rndF B m f k)
 | 0, _ => J
 | k + 1, hk => stepJ hB (rndJ hB J k (by omega)) (by omega)
theorem labJ (hB : ∀ k, k < M → (B k).1 ≤ n ∧ (B k).2 ≤ n) : ∀ i, LabJ B m M n (labF B m M i)
 | 0 => fun v _ => ⟨Nat.le_refl _, .refl⟩
 | i + 1 => rndJ hB (labJ hB i) M (Nat.le_refl _)
def Root (B : Nat → Nat × Nat) (m M : Nat) (r : Nat) : Prop := ∀ u, Conn (AdjM B m M) r u → r ≤ u
theorem keepF (hB : ∀ k, k < M → (B k).1 ≤ n ∧ (B k).2 ≤ n) {f : Nat → Nat} (J : LabJ B m M n f) {r : Nat} (hr : Root B m M r) {k : Nat} (hk : k < M) {v : Nat} (hv : v ≤ n) (h : f v = r) : stepF B m f k v = r := by
 unfold stepF
 by_cases hm : m.testBit k = true
 ·rw [if_pos hm]; exact h
 ·rw [if_neg hm]
  have hm2 : m.testBit k = false := by simpa using hm
  have hA := J _ (hB k hk).1
  have hC := J _ (hB k hk).2
  have ad : AdjM B m M (B k).1 (B k).2 := ⟨k, hk, hm2, .inl rfl⟩
  (try dsimp only)
  by_cases h2 : v = (B k).2
  ·rw [if_pos h2]
   rw [h2] at h
   rw [h] at hC ⊢
   have c := (hC.2.symm fun _ _ => AdjM.symm).trans (Conn.trans (.step .refl ad.symm) hA.2)
   exact Nat.min_eq_right (hr _ c)
  ·rw [if_neg h2]
   by_cases h1 : v = (B k).1
   ·rw [if_pos h1]
    rw [h1] at h
    rw [h] at hA ⊢
    have c := (hA.2.symm fun _ _ => AdjM.symm).trans (Conn.trans (.step .refl ad) hC.2)
    exact Nat.min_eq_left (hr _ c)
   ·rw [if_neg h1]; exact h
theorem keepR (hB : ∀ k, k < M → (B k).1 ≤ n ∧ (B k).2 ≤ n) {f : Nat → Nat} (J : LabJ B m M n f) {r : Nat} (hr : Root B m M r) {v : Nat} (hv : v ≤ n) (h : f v = r) : ∀ k, k ≤ M → rndF B m f k v = r
 | 0, _ => h
 | k + 1, hk => keepF hB (rndJ hB J k (by omega)) hr (by omega) hv (keepR hB J hr hv h k (by omega))
theorem growR (hB : ∀ k, k < M → (B k).1 ≤ n ∧ (B k).2 ≤ n) {f : Nat → Nat} (J : LabJ B m M n f) {r : Nat} (hr : Root B m M r) {j : Nat} (hm : m.testBit j = false) (h : f (B j).1 = r ∨ f (B j).2 = r) : ∀ k, k ≤ M → j < k → rndF B m f k (B j).1 = r ∧ rndF B m f k (B j).2 = r := by
 intro k
 induction k with
 | zero => intro _ h2; omega
 | succ k ih =>
  intro hk hj
  have J2 := rndJ hB J k (by omega)
  have hbj := hB j (by omega)
  by_cases hjk : j = k
  ·subst hjk
   have hA := J2 _ hbj.1
   have hC := J2 _ hbj.2
   have ad : AdjM B m M (B j).1 (B j).2 := ⟨j, by omega, hm, .inl rfl⟩
   have hmin : min (rndF B m f j (B j).1) (rndF B m f j (B j).2) = r := by
    rcases h with h | h
    ·have h' := keepR hB J hr hbj.1 h j (by omega)
     rw [h'] at hA ⊢
     have c := (hA.2.symm fun _ _ => AdjM.symm).trans (Conn.trans (.step .refl ad) hC.2)
     exact Nat.min_eq_left (hr _ c)
    ·have h' := keepR hB J hr hbj.2 h j (by omega)
     rw [h'] at hC ⊢
     have c := (hC.2.symm fun _ _ => AdjM.symm).trans (Conn.trans (.step .refl ad.symm) hA.2)
     exact Nat.min_eq_right (hr _ c)
   show stepF B m (rndF B m f j) j (B j).1 = r ∧ stepF B m (rndF B m f j) j (B j).2 = r
   unfold stepF
   rw [if_neg (by rw [hm]; simp)]
   (try dsimp only)
   rw [if_pos rfl, if_pos rfl, hmin]
   refine ⟨?_, rfl⟩
   split <;> rfl
  ·obtain ⟨h1, h2⟩ := ih (by omega) (by omega)
   exact ⟨keepF hB J2 hr (by omega) hbj.1 h1, keepF hB J2 hr (by omega) hbj.2 h2⟩
theorem conn_le (hB : ∀ k, k < M → (B k).1 ≤ n ∧ (B k).2 ≤ n) {a b : Nat} (ha : a ≤ n) (h : Conn (AdjM B m M) a b) : b ≤ n := by
 cases h with
 | refl => exact ha
 | step _ h2 =>
  obtain ⟨k, h1, -, h3⟩ := h2
  have := hB k h1
  rcases h3 with h3 | h3 <;> rw [h3] at this <;> simp only at this <;> omega
theorem edge_out {R : Nat → Nat → Prop} {P : Nat → Prop} {a b : Nat} (h : Conn R a b) (ha : P a) (hb : ¬ P b) : ∃ p q, Conn R a p ∧ R p q ∧ P p ∧ ¬ P q := by
 induction h with
 | refl => exact absurd ha hb
 | step h1 h2 ih =>
  rename_i p q
  by_cases hp : P p
  ·exact ⟨p, q, h1, h2, hp, hb⟩
  ·exact ih hp
theorem fullOr (hB : ∀ k, k < M → (B k).1 ≤ n ∧ (B k).2 ≤ n) {r : Nat} (hrn : r ≤ n) (hr : Root B m M r) : ∀ i, (∀ v, Conn (AdjM B m M) r v → labF B m M i v = r) ∨ i + 1 ≤ (List.range (n + 1)).countP fun v => labF B m M i v == r := by
 have self : ∀ i, labF B m M i r = r := fun i => by
  have := labJ (m := m) hB i r hrn
  have := hr _ this.2
  omega
 intro i
 induction i with
 | zero =>
  right
  have : 0 < (List.range (n + 1)).countP fun v => labF B m M 0 v == r := List.countP_pos_iff.2 ⟨r, List.mem_range.2 (by omega), by simp [labF]⟩
  omega
 | succ i ih =>
  have J := labJ (m := m) (M := M) (B := B) hB i
  rcases ih with ih | ih
  ·exact .inl fun v hv => keepR hB J hr (conn_le hB hrn hv) (ih v hv) M (Nat.le_refl _)
  ·by_cases hf : ∀ v, Conn (AdjM B m M) r v → labF B m M i v = r
   ·exact .inl fun v hv => keepR hB J hr (conn_le hB hrn hv) (hf v hv) M (Nat.le_refl _)
   ·right
    obtain ⟨v, hv⟩ := Classical.not_forall.1 hf
    obtain ⟨hv1, hv2⟩ := Classical.not_imp.1 hv
    obtain ⟨p, q, h1, h2, h3, h4⟩ := edge_out (P := fun x => labF B m M i x = r) hv1 (self i) hv2
    have hq : q ≤ n := conn_le hB hrn (h1.step h2)
    obtain ⟨k, hk, hm, hBk⟩ := h2
    have hg := growR hB J hr hm (by
     rcases hBk with e | e <;> rw [e]
     ·exact .inl h3
     ·exact .inr h3) M (Nat.le_refl _) hk
    have hq2 : labF B m M (i + 1) q = r := by
     show rndF B m (labF B m M i) M q = r
     rcases hBk with e | e <;> rw [e] at hg
     ·exact hg.2
     ·exact hg.1
    have := countP_more (l := List.range (n + 1)) (p := fun v => labF B m M i v == r) (q := fun v => labF B m M (i + 1) v == r) (fun x hx hp => by
     rw [beq_iff_eq] at hp ⊢
     exact keepR hB J hr (by have := List.mem_range.1 hx; omega) hp M (Nat.le_refl _)) (y := q) (List.mem_range.2 (by omega)) (by simpa using h4) (by simpa using hq2)
    omega
structure Lab (B : Nat → Nat × Nat) (m M n : Nat) (f : Nat → Nat) : Prop where
 low : ∀ v, v ≤ n → f v ≤ v
 conn : ∀ v, v ≤ n → Conn (AdjM B m M) v (f v)
 same : ∀ u v, u ≤ n → Conn (AdjM B m M) u v → f u = f v
theorem lab_done (hB : ∀ k, k < M → (B k).1 ≤ n ∧ (B k).2 ≤ n) : Lab B m M n (labF B m M (n + 1)) where
 low v hv := (labJ hB _ v hv).1
 conn v hv := (labJ hB _ v hv).2
 same u v hu huv := by
  obtain ⟨r, h1, h2⟩ := exists_least (P := fun x => Conn (AdjM B m M) u x) .refl
  have hr : Root B m M r := fun x hx => h2 x (h1.trans hx)
  have hrn : r ≤ n := conn_le hB hu h1
  have hfull : ∀ v, Conn (AdjM B m M) r v → labF B m M (n + 1) v = r := by
   rcases fullOr hB hrn hr (n + 1) with h | h
   ·exact h
   ·have := List.countP_le_length (p := fun v => labF B m M (n + 1) v == r) (l := List.range (n + 1))
    rw [List.length_range] at this
    omega
  have c := h1.symm fun _ _ => AdjM.symm
  rw [hfull u c, hfull v (c.trans huv)]
end
def labOut (f : Nat → Nat) (n : Nat) : List (List Int) := ((List.range n).filter fun v => f v == v && f n != v).map fun v => setL n fun u => f u == v

end Go.Proofs.Yteaglkpplgbpaaa.P
namespace Go.Proofs.Yteaglkpplgbpaaa.P
open Go.RowKit Go.Proofs.YteaglkpplgbpaaaW.PrintWords Go.Proofs.YteaglkpplgbpaaaW.PrintLast Go.Proofs.YteaglkpplgbpaaaW.PrintMore
attribute [local go_sem] max2_int min2_int max_two min_two max_three min_three max_four min_four   -- for this text's walks alone
set_option linter.unusedVariables false
set_option linter.unusedSimpArgs false

def xsN (p : Nat → Bool) : Nat → Bool
  | 0 => false
  | i + 1 => xor (xsN p i) (p i)
theorem xsN_congr {p q : Nat → Bool} : ∀ n, (∀ i, i < n → p i = q i) → xsN p n = xsN q n
  | 0, _ => rfl
  | n + 1, h => by
    unfold xsN
    rw [xsN_congr n (fun i hi => h i (by omega)), h n (by omega)]
theorem xsN_xor (p q : Nat → Bool) : ∀ n, xsN (fun i => xor (p i) (q i)) n = xor (xsN p n) (xsN q n)
  | 0 => rfl
  | n + 1 => by
    unfold xsN
    rw [xsN_xor p q n]
    cases xsN p n <;> cases xsN q n <;> cases p n <;> cases q n <;> rfl
theorem xsN_none {p : Nat → Bool} : ∀ n, (∀ i, i < n → p i = false) → xsN p n = false
  | 0, _ => rfl
  | n + 1, h => by
    unfold xsN
    rw [xsN_none n (fun i hi => h i (by omega)), h n (by omega)]
    rfl
theorem xsN_and (a : Bool) (p : Nat → Bool) : ∀ n, xsN (fun i => a && p i) n = (a && xsN p n)
  | 0 => by cases a <;> rfl
  | n + 1 => by
    unfold xsN
    rw [xsN_and a p n]
    cases a <;> cases xsN p n <;> cases p n <;> rfl
theorem xsN_swap (f : Nat → Nat → Bool) : ∀ n m, xsN (fun i => xsN (fun j => f i j) m) n = xsN (fun j => xsN (fun i => f i j) n) m
  | 0, m => (xsN_none m (fun _ _ => rfl)).symm
  | n + 1, m => by
    show xor (xsN (fun i => xsN (fun j => f i j) m) n) (xsN (fun j => f n j) m) = _
    rw [xsN_swap f n m, ← xsN_xor]
    rfl
theorem xsN_at {p : Nat → Bool} : ∀ {n k : Nat}, k < n → (∀ i, i < n → i ≠ k → p i = false) → xsN p n = p k
  | 0, k, hk, _ => absurd hk (by omega)
  | n + 1, k, hk, h => by
    unfold xsN
    by_cases hn : k = n
    · subst hn
      rw [xsN_none k (fun i hi => h i (by omega) (by omega))]
      cases p k <;> rfl
    · rw [xsN_at (n := n) (by omega) (fun i hi hne => h i (by omega) hne), h n (by omega) (fun e => hn e.symm)]
      cases p k <;> rfl
theorem xsN_pick (A : Nat → Bool) {n x : Nat} (hx : x < n) : xsN (fun c => A c && (x == c)) n = A x := by
  rw [xsN_at hx (fun i _ hne => by rw [show (x == i) = false by simpa using fun e : x = i => hne e.symm, Bool.and_false])]
  simp
def RelE (x1 x2 : Nat → Nat) (M : Nat) (S : Nat → Bool) (a b : Nat) : Prop := ∃ k, k < M ∧ S k = true ∧ ((x1 k = a ∧ x2 k = b) ∨ (x1 k = b ∧ x2 k = a))
theorem RelE.symm {x1 x2 : Nat → Nat} {M : Nat} {S : Nat → Bool} (a b : Nat) (h : RelE x1 x2 M S a b) : RelE x1 x2 M S b a := by
  obtain ⟨k, h1, h2, h3⟩ := h
  exact ⟨k, h1, h2, h3.symm⟩
def incE (e1 e2 : Nat → Nat) (k p : Nat) : Bool := xor (e1 k == p) (e2 k == p)
def degE (e1 e2 : Nat → Nat) (M : Nat) (Z : Nat → Bool) (p : Nat) : Bool := xsN (fun k => Z k && incE e1 e2 k p) M
structure Net (e1 e2 b1 b2 : Nat → Nat) (M nv nf : Nat) (Fm V : Nat → Nat → Bool) : Prop where
  v1 : ∀ k, k < M → e1 k < nv
  v2 : ∀ k, k < M → e2 k < nv
  f1 : ∀ k, k < M → b1 k < nf
  f2 : ∀ k, k < M → b2 k < nf
  pos : 0 < nf
  L0 : ∀ c, 0 < c → c < nf → ∃ k, k < M ∧ ((b1 k = c ∧ b2 k < c) ∨ (b2 k = c ∧ b1 k < c))
  L1 : ∀ c p, c < nf → p < nv → xsN (fun k => incE b1 b2 k c && incE e1 e2 k p) M = false
  L2 : ∀ k j, k < M → j < M → xor (k == j) (xor (Fm (b1 k) j) (Fm (b2 k) j)) = xsN (fun p => V k p && incE e1 e2 j p) nv
section
variable {e1 e2 b1 b2 : Nat → Nat} {M nv nf : Nat} {Fm V : Nat → Nat → Bool}
theorem degE_xor (Z Y : Nat → Bool) (p : Nat) : degE e1 e2 M (fun k => xor (Z k) (Y k)) p = xor (degE e1 e2 M Z p) (degE e1 e2 M Y p) := by
  unfold degE
  rw [← xsN_xor]
  exact xsN_congr M fun i _ => by
    show (xor (Z i) (Y i) && incE e1 e2 i p) = xor (Z i && incE e1 e2 i p) (Y i && incE e1 e2 i p)
    cases Z i <;> cases Y i <;> cases incE e1 e2 i p <;> rfl
theorem degE_one {k p : Nat} (hk : k < M) : degE e1 e2 M (fun j => k == j) p = incE e1 e2 k p := by
  unfold degE
  rw [xsN_at hk (fun i _ hne => by
    show (k == i && incE e1 e2 i p) = false
    rw [show (k == i) = false by simpa using fun e : k = i => hne e.symm, Bool.false_and])]
  simp
theorem Net.rim (N : Net e1 e2 b1 b2 M nv nf Fm V) (A : Nat → Bool) {p : Nat} (hp : p < nv) : degE e1 e2 M (fun k => xor (A (b1 k)) (A (b2 k))) p = false := by
  have h1 : degE e1 e2 M (fun k => xor (A (b1 k)) (A (b2 k))) p = xsN (fun k => xsN (fun c => A c && (incE b1 b2 k c && incE e1 e2 k p)) nf) M := by
    unfold degE
    refine xsN_congr M fun k hk => ?_
    have q1 := xsN_pick A (N.f1 k hk)
    have q2 := xsN_pick A (N.f2 k hk)
    show (xor (A (b1 k)) (A (b2 k)) && incE e1 e2 k p) = _
    rw [← q1, ← q2, ← xsN_xor, Bool.and_comm, ← xsN_and]
    refine xsN_congr nf fun c _ => ?_
    unfold incE
    cases A c <;> cases (b1 k == c) <;> cases (b2 k == c) <;> cases (xor (e1 k == p) (e2 k == p)) <;> rfl
  rw [h1, xsN_swap]
  refine xsN_none nf fun c hc => ?_
  rw [xsN_and, N.L1 c p hc hp, Bool.and_false]
theorem Net.shake (N : Net e1 e2 b1 b2 M nv nf Fm V) (Z U : Nat → Bool) : xsN (fun p => U p && degE e1 e2 M Z p) nv = xsN (fun k => Z k && xor (U (e1 k)) (U (e2 k))) M := by
  have h1 : xsN (fun p => U p && degE e1 e2 M Z p) nv = xsN (fun p => xsN (fun k => U p && (Z k && incE e1 e2 k p)) M) nv := by
    refine xsN_congr nv fun p _ => ?_
    unfold degE
    rw [xsN_and]
  rw [h1, xsN_swap]
  refine xsN_congr M fun k hk => ?_
  have q1 := xsN_pick U (N.v1 k hk)
  have q2 := xsN_pick U (N.v2 k hk)
  rw [← q1, ← q2, ← xsN_xor, ← xsN_and]
  refine xsN_congr nv fun p _ => ?_
  unfold incE
  cases U p <;> cases (e1 k == p) <;> cases (e2 k == p) <;> cases Z k <;> rfl
theorem conn_keep {R : Nat → Nat → Prop} {U : Nat → Bool} (h : ∀ a b, R a b → U a = U b) {a b : Nat} (hc : Conn R a b) : U a = U b := by
  induction hc with
  | refl => rfl
  | step _ h2 ih => rw [ih, h _ _ h2]
theorem Net.dual1 (N : Net e1 e2 b1 b2 M nv nf Fm V) {S : Nat → Bool} {e : Nat} (he : e < M) (hn : ¬ Conn (RelE b1 b2 M fun k => !S k && !(e == k)) (b1 e) (b2 e)) : Conn (RelE e1 e2 M S) (e1 e) (e2 e) := by
  refine Classical.byContradiction fun hU => ?_
  let A : Nat → Bool := fun c => @decide (Conn (RelE b1 b2 M fun k => !S k && !(e == k)) (b1 e) c) (Classical.propDecidable _)
  let U : Nat → Bool := fun p => @decide (Conn (RelE e1 e2 M S) (e1 e) p) (Classical.propDecidable _)
  have hA1 : A (b1 e) = true := @decide_eq_true _ (Classical.propDecidable _) .refl
  have hA2 : A (b2 e) = false := @decide_eq_false _ (Classical.propDecidable _) hn
  have hU1 : U (e1 e) = true := @decide_eq_true _ (Classical.propDecidable _) .refl
  have hU2 : U (e2 e) = false := @decide_eq_false _ (Classical.propDecidable _) hU
  have hAiff : ∀ c, A c = true ↔ Conn (RelE b1 b2 M fun k => !S k && !(e == k)) (b1 e) c := fun c => @decide_eq_true_iff _ (Classical.propDecidable _)
  have hUiff : ∀ c, U c = true ↔ Conn (RelE e1 e2 M S) (e1 e) c := fun c => @decide_eq_true_iff _ (Classical.propDecidable _)
  generalize A = A at *
  generalize U = U at *
  let Z : Nat → Bool := fun k => xor (xor (A (b1 k)) (A (b2 k))) (e == k)
  have hZ : ∀ k, k < M → Z k = true → S k = true := by
    intro k hk hz
    cases hs : S k with
    | true => rfl
    | false =>
      exfalso
      by_cases hek : e = k
      · subst hek
        have : Z e = false := by show xor (xor (A (b1 e)) (A (b2 e))) (e == e) = false; rw [hA1, hA2]; simp
        rw [this] at hz; cases hz
      · have hR : RelE b1 b2 M (fun k => !S k && !(e == k)) (b1 k) (b2 k) := ⟨k, hk, by simp [hs, hek], .inl ⟨rfl, rfl⟩⟩
        have hsame : A (b1 k) = A (b2 k) := by
          rw [Bool.eq_iff_iff, hAiff, hAiff]
          exact ⟨fun q => q.step hR, fun q => q.step (RelE.symm _ _ hR)⟩
        have : Z k = false := by
          show xor (xor (A (b1 k)) (A (b2 k))) (e == k) = false
          rw [hsame, show (e == k) = false by simpa using hek]
          cases A (b2 k) <;> rfl
        rw [this] at hz; cases hz
  have hdeg : ∀ p, p < nv → degE e1 e2 M Z p = incE e1 e2 e p := by
    intro p hp
    rw [show degE e1 e2 M Z p = _ from degE_xor _ _ p, N.rim A hp, degE_one he, Bool.false_xor]
  have h1 := N.shake Z U
  have h2 : xsN (fun k => Z k && xor (U (e1 k)) (U (e2 k))) M = false := by
    refine xsN_none M fun k hk => ?_
    cases hz : Z k with
    | false => rfl
    | true =>
      have hR : RelE e1 e2 M S (e1 k) (e2 k) := ⟨k, hk, hZ k hk hz, .inl ⟨rfl, rfl⟩⟩
      have hsame : U (e1 k) = U (e2 k) := by
        rw [Bool.eq_iff_iff, hUiff, hUiff]
        exact ⟨fun q => q.step hR, fun q => q.step (RelE.symm _ _ hR)⟩
      rw [hsame]
      cases U (e2 k) <;> rfl
  have h3 : xsN (fun p => U p && degE e1 e2 M Z p) nv = xsN (fun p => U p && degE e1 e2 M (fun j => e == j) p) nv := by
    refine xsN_congr nv fun p hp => ?_
    rw [hdeg p hp, degE_one he]
  rw [h3, N.shake] at h1
  have h4 : xsN (fun k => (e == k) && xor (U (e1 k)) (U (e2 k))) M = true := by
    rw [xsN_at he (fun i _ hne => by rw [show (e == i) = false by simpa using fun q : e = i => hne q.symm, Bool.false_and]), hU1, hU2]
    simp
  rw [h4, h2] at h1
  cases h1
theorem Net.chain (N : Net e1 e2 b1 b2 M nv nf Fm V) {S : Nat → Bool} {u v : Nat} (h : Conn (RelE e1 e2 M S) u v) : ∃ Z : Nat → Bool, (∀ k, Z k = true → S k = true) ∧ ∀ p, degE e1 e2 M Z p = xor (u == p) (v == p) := by
  induction h with
  | refl =>
    refine ⟨fun _ => false, fun _ q => Bool.noConfusion q, fun p => ?_⟩
    rw [show degE e1 e2 M (fun _ => false) p = false from xsN_none M fun _ _ => rfl]
    cases (u == p) <;> rfl
  | step _ h2 ih =>
    rename_i b0 c0 hb0
    obtain ⟨Z, z1, z2⟩ := ih
    obtain ⟨k, hk, hs, hends⟩ := h2
    refine ⟨fun j => xor (Z j) (k == j), fun j hj => ?_, fun p => ?_⟩
    · by_cases hkj : k = j
      · subst hkj; exact hs
      · have hj : xor (Z j) (k == j) = true := hj
        rw [show (k == j) = false by simpa using hkj, Bool.xor_false] at hj
        exact z1 j hj
    · rw [degE_xor, z2, degE_one hk]
      unfold incE
      rcases hends with ⟨q1, q2⟩ | ⟨q1, q2⟩ <;> rw [q1, q2] <;> generalize (u == p) = A1 <;> generalize (b0 == p) = A2 <;> generalize (c0 == p) = A3 <;> revert A1 A2 A3 <;> decide
theorem Net.dual2 (N : Net e1 e2 b1 b2 M nv nf Fm V) {S : Nat → Bool} {e : Nat} (he : e < M) (hS : S e = false) (h : Conn (RelE e1 e2 M S) (e1 e) (e2 e)) : ¬ Conn (RelE b1 b2 M fun k => !S k && !(e == k)) (b1 e) (b2 e) := by
  intro hc
  obtain ⟨Z, z1, z2⟩ := N.chain h
  have hZe : Z e = false := by
    cases hz : Z e with
    | false => rfl
    | true => rw [z1 e hz] at hS; cases hS
  let Y : Nat → Bool := fun j => xor (Z j) (e == j)
  have hY : ∀ p, degE e1 e2 M Y p = false := by
    intro p
    rw [show degE e1 e2 M Y p = _ from degE_xor _ _ p, z2, degE_one he]
    unfold incE
    cases (e1 e == p) <;> cases (e2 e == p) <;> rfl
  let F : Nat → Bool := fun c => xsN (fun j => Y j && Fm c j) M
  have hF : ∀ k, k < M → xor (Y k) (xor (F (b1 k)) (F (b2 k))) = false := by
    intro k hk
    have q0 : xsN (fun j => Y j && (k == j)) M = Y k := xsN_pick Y hk
    have q1 : xor (Y k) (xor (F (b1 k)) (F (b2 k))) = xsN (fun j => Y j && xor (k == j) (xor (Fm (b1 k) j) (Fm (b2 k) j))) M := by
      rw [← q0]
      show xor _ (xor (xsN _ M) (xsN _ M)) = _
      rw [← xsN_xor, ← xsN_xor]
      refine xsN_congr M fun j _ => ?_
      cases Y j <;> rfl
    rw [q1, xsN_congr M (q := fun j => xsN (fun p => V k p && (Y j && incE e1 e2 j p)) nv) (fun j hj => by
      rw [N.L2 k j hk hj, ← xsN_and]
      exact xsN_congr nv fun p _ => by cases Y j <;> cases V k p <;> rfl), xsN_swap]
    refine xsN_none nv fun p _ => ?_
    rw [xsN_and, show xsN (fun j => Y j && incE e1 e2 j p) M = false from hY p, Bool.and_false]
  have hsame : F (b1 e) = F (b2 e) := conn_keep (U := F) (fun a b ⟨k, hk, hs, hends⟩ => by
    have hk2 := hF k hk
    rw [Bool.and_eq_true, Bool.not_eq_true', Bool.not_eq_true'] at hs
    have hYk : Y k = false := by
      show xor (Z k) (e == k) = false
      rw [hs.2, Bool.xor_false]
      cases hz : Z k with
      | false => rfl
      | true => rw [z1 k hz] at hs; cases hs.1
    rw [hYk] at hk2
    rcases hends with ⟨q1, q2⟩ | ⟨q1, q2⟩ <;> rw [q1, q2] at hk2 <;> revert hk2 <;> cases F a <;> cases F b <;> simp) hc
  have he2 := hF e he
  have hYe : Y e = true := by show xor (Z e) (e == e) = true; rw [hZe]; simp
  rw [hYe, hsame] at he2
  revert he2
  cases F (b2 e) <;> simp
end
noncomputable def ncN (R : Nat → Nat → Prop) (n : Nat) : Nat := (List.range n).countP fun v => @decide (∀ u, u < v → ¬ Conn R u v) (Classical.propDecidable _)
theorem ncN_congr {R S : Nat → Nat → Prop} (n : Nat) (h : ∀ u v, v < n → u < v → (Conn R u v ↔ Conn S u v)) : ncN R n = ncN S n := by
  unfold ncN
  refine List.countP_congr fun v hv => ?_
  rw [@decide_eq_true_iff _ (Classical.propDecidable _), @decide_eq_true_iff _ (Classical.propDecidable _)]
  have hv := List.mem_range.1 hv
  exact ⟨fun q u hu hc => q u hu ((h u v hv hu).2 hc), fun q u hu hc => q u hu ((h u v hv hu).1 hc)⟩
theorem countP_less {p : Nat → Bool} {r : Nat} (hr : p r = true) : ∀ n, (List.range n).countP p = (List.range n).countP (fun x => p x && !(x == r)) + if r < n then 1 else 0
  | 0 => rfl
  | n + 1 => by
    have ih := countP_less hr n
    rw [List.range_succ, List.countP_append, List.countP_append, ih, List.countP_cons, List.countP_cons, List.countP_nil, List.countP_nil]
    by_cases hn : n = r
    · subst hn
      have z1 : (if n < n then 1 else 0) = 0 := if_neg (Nat.lt_irrefl n)
      have z2 : (if n < n + 1 then 1 else 0) = 1 := if_pos (Nat.lt_succ_self n)
      rw [z1, z2, hr]
      simp
    · rw [show (p n && !(n == r)) = p n by rw [show (n == r) = false by simpa using hn]; simp]
      have z : (if r < n + 1 then 1 else 0) = if r < n then 1 else 0 := by
        by_cases h2 : r < n
        · rw [if_pos h2, if_pos (show r < n + 1 by omega)]
        · rw [if_neg h2, if_neg (show ¬ r < n + 1 by omega)]
      rw [z]
      omega
def JoinR (R : Nat → Nat → Prop) (u v a b : Nat) : Prop := R a b ∨ (a = u ∧ b = v) ∨ (a = v ∧ b = u)
theorem join_conn {R : Nat → Nat → Prop} {u v a b : Nat} : Conn (JoinR R u v) a b ↔ Conn R a b ∨ (Conn R a u ∧ Conn R v b) ∨ (Conn R a v ∧ Conn R u b) := by
  constructor
  · intro h
    induction h with
    | refl => exact .inl .refl
    | step _ h2 ih =>
      rename_i p q
      rcases h2 with h2 | ⟨rfl, rfl⟩ | ⟨rfl, rfl⟩
      · rcases ih with ih | ⟨i1, i2⟩ | ⟨i1, i2⟩
        · exact .inl (ih.step h2)
        · exact .inr (.inl ⟨i1, i2.step h2⟩)
        · exact .inr (.inr ⟨i1, i2.step h2⟩)
      · rcases ih with ih | ⟨i1, i2⟩ | ⟨i1, i2⟩
        · exact .inr (.inl ⟨ih, .refl⟩)
        · exact .inr (.inl ⟨i1, .refl⟩)
        · exact .inl i1
      · rcases ih with ih | ⟨i1, i2⟩ | ⟨i1, i2⟩
        · exact .inr (.inr ⟨ih, .refl⟩)
        · exact .inl i1
        · exact .inr (.inr ⟨i1, .refl⟩)
  · have m : ∀ {x y}, Conn R x y → Conn (JoinR R u v) x y := fun q => q.mono fun _ _ r => .inl r
    rintro (h | ⟨h1, h2⟩ | ⟨h1, h2⟩)
    · exact m h
    · exact ((m h1).step (.inr (.inl ⟨rfl, rfl⟩))).trans (m h2)
    · exact ((m h1).step (.inr (.inr ⟨rfl, rfl⟩))).trans (m h2)
theorem ncN_same {R : Nat → Nat → Prop} (hs : ∀ a b, R a b → R b a) {u v n : Nat} (h : Conn R u v) : ncN (JoinR R u v) n = ncN R n := by
  refine ncN_congr n fun a b _ _ => ?_
  rw [join_conn]
  constructor
  · rintro (q | ⟨q1, q2⟩ | ⟨q1, q2⟩)
    · exact q
    · exact (q1.trans h).trans q2
    · exact (q1.trans (h.symm hs)).trans q2
  · exact .inl
theorem ncN_less {R : Nat → Nat → Prop} (hs : ∀ a b, R a b → R b a) {u v n : Nat} (hu : u < n) (hv : v < n) (h : ¬ Conn R u v) : ncN R n = ncN (JoinR R u v) n + 1 := by
  obtain ⟨ru, a1, a2⟩ := exists_least (P := fun x => Conn R u x) (x := u) .refl
  obtain ⟨rv, c1, c2⟩ := exists_least (P := fun x => Conn R v x) (x := v) .refl
  have key : ∀ {u v ru rv : Nat}, u < n → v < n → ¬ Conn R u v → Conn R u ru → (∀ z, Conn R u z → ru ≤ z) → Conn R v rv → (∀ z, Conn R v z → rv ≤ z) → ru < rv → ncN R n = ncN (JoinR R u v) n + 1 := by
    intro u v ru rv hu hv h a1 a2 c1 c2 hlt
    have hroot : ∀ u, u < rv → ¬ Conn R u rv := fun y hy hc => by
      have := c2 y (c1.trans (hc.symm hs))
      omega
    have hrv : rv < n := Nat.lt_of_le_of_lt (c2 v .refl) hv
    unfold ncN
    rw [countP_less (p := fun v => @decide (∀ u, u < v → ¬ Conn R u v) (Classical.propDecidable _)) (r := rv) (@decide_eq_true _ (Classical.propDecidable _) hroot), if_pos hrv]
    congr 1
    refine List.countP_congr fun x _ => ?_
    rw [Bool.and_eq_true, @decide_eq_true_iff _ (Classical.propDecidable _), @decide_eq_true_iff _ (Classical.propDecidable _)]
    simp only [Bool.not_eq_true', beq_eq_false_iff_ne]
    constructor
    · rintro ⟨q1, q2⟩ y hy hc
      rcases join_conn.1 hc with hc | ⟨h1, h2⟩ | ⟨h1, h2⟩
      · exact q1 y hy hc
      · have h3 := c2 x h2
        have h4 : ¬ rv < x := fun h5 => q1 rv h5 ((c1.symm hs).trans h2)
        exact q2 (by omega)
      · have h3 := a2 x h2
        have h4 : ¬ ru < x := fun h5 => q1 ru h5 ((a1.symm hs).trans h2)
        have h6 := c2 y (h1.symm hs)
        omega
    · intro q
      refine ⟨fun y hy hc => q y hy (join_conn.2 (.inl hc)), fun e => ?_⟩
      subst e
      exact q ru hlt (join_conn.2 (.inr (.inl ⟨a1.symm hs, c1⟩)))
  rcases Nat.lt_trichotomy ru rv with h1 | h1 | h1
  · exact key hu hv h a1 a2 c1 c2 h1
  · subst h1
    exact absurd (a1.trans (c1.symm hs)) h
  · rw [key hv hu (fun q => h (q.symm hs)) c1 c2 a1 a2 h1]
    congr 1
    refine ncN_congr n fun a b _ _ => ?_
    rw [join_conn, join_conn]
    exact ⟨fun q => q.elim .inl (fun q => .inr q.symm), fun q => q.elim .inl (fun q => .inr q.symm)⟩
theorem ncN_noR {R : Nat → Nat → Prop} (h : ∀ a b, ¬ R a b) (n : Nat) : ncN R n = n := by
  unfold ncN
  rw [List.countP_eq_length.2 (fun v _ => @decide_eq_true _ (Classical.propDecidable _) (fun u hu hc => by
    cases hc with
    | refl => omega
    | step _ h2 => exact h _ _ h2)), List.length_range]
theorem ncN_allR {R : Nat → Nat → Prop} {n : Nat} (hn : 0 < n) (h : ∀ v, v < n → Conn R 0 v) : ncN R n = 1 := by
  unfold ncN
  rw [countP_less (r := 0) (@decide_eq_true _ (Classical.propDecidable _) (fun u hu _ => by omega)), if_pos hn, List.countP_eq_zero.2 (fun v hv q => by
    rw [Bool.and_eq_true, @decide_eq_true_iff _ (Classical.propDecidable _)] at q
    have h0 : v ≠ 0 := by simpa using q.2
    exact q.1 0 (by omega) (h v (List.mem_range.1 hv)))]
def popT (m : Nat) : Nat → Nat
  | 0 => 0
  | t + 1 => popT m t + if m.testBit t = true then 1 else 0
section
variable {e1 e2 b1 b2 : Nat → Nat} {M nv nf : Nat} {Fm V : Nat → Nat → Bool}
def upT (m t k : Nat) : Bool := decide (k < t) && m.testBit k
theorem relE_join {x1 x2 : Nat → Nat} {S T : Nat → Bool} {t : Nat} (ht : t < M) (hT : T t = true) (hS : S t = false) (h : ∀ k, k < M → k ≠ t → S k = T k) (a b : Nat) : RelE x1 x2 M T a b ↔ JoinR (RelE x1 x2 M S) (x1 t) (x2 t) a b := by
  constructor
  · rintro ⟨k, hk, hs, he⟩
    by_cases hkt : k = t
    · subst hkt
      rcases he with ⟨q1, q2⟩ | ⟨q1, q2⟩
      · exact .inr (.inl ⟨q1.symm, q2.symm⟩)
      · exact .inr (.inr ⟨q2.symm, q1.symm⟩)
    · exact .inl ⟨k, hk, by rw [h k hk hkt]; exact hs, he⟩
  · rintro (⟨k, hk, hs, he⟩ | ⟨q1, q2⟩ | ⟨q1, q2⟩)
    · by_cases hkt : k = t
      · subst hkt; rw [hS] at hs; cases hs
      · exact ⟨k, hk, by rw [← h k hk hkt]; exact hs, he⟩
    · exact ⟨t, ht, hT, .inl ⟨q1.symm, q2.symm⟩⟩
    · exact ⟨t, ht, hT, .inr ⟨q2.symm, q1.symm⟩⟩
theorem conn_iff {R S : Nat → Nat → Prop} (h : ∀ a b, R a b ↔ S a b) {a b : Nat} : Conn R a b ↔ Conn S a b := ⟨fun q => q.mono fun _ _ => (h _ _).1, fun q => q.mono fun _ _ => (h _ _).2⟩
theorem Net.euler (N : Net e1 e2 b1 b2 M nv nf Fm V) (m : Nat) : ∀ t, t ≤ M → popT m t + ncN (RelE e1 e2 M (upT m t)) nv + 1 = nv + ncN (RelE b1 b2 M fun k => !upT m t k) nf
  | 0, _ => by
    have h1 : ncN (RelE e1 e2 M (upT m 0)) nv = nv := ncN_noR (fun a b ⟨k, _, hs, _⟩ => by unfold upT at hs; simp at hs) nv
    have h2 : ∀ d v, v ≤ d → v < nf → Conn (RelE b1 b2 M fun k => !upT m 0 k) 0 v := by
      intro d
      induction d with
      | zero => intro v hv _; obtain rfl : v = 0 := by omega
                exact .refl
      | succ d ih =>
        intro v hv hvn
        by_cases h0 : v = 0
        · subst h0; exact .refl
        · obtain ⟨k, hk, he⟩ := N.L0 v (by omega) hvn
          have hup : (!upT m 0 k) = true := by unfold upT; simp
          rcases he with ⟨q1, q2⟩ | ⟨q1, q2⟩
          · exact (ih (b2 k) (by omega) (by omega)).step ⟨k, hk, hup, .inr ⟨q1, rfl⟩⟩
          · exact (ih (b1 k) (by omega) (by omega)).step ⟨k, hk, hup, .inl ⟨rfl, q1⟩⟩
    rw [h1, ncN_allR N.pos (fun v hv => h2 v v (Nat.le_refl _) hv)]
    show 0 + nv + 1 = _
    omega
  | t + 1, ht => by
    have ih := N.euler m t (by omega)
    unfold popT
    by_cases hb : m.testBit t = true
    · rw [if_pos hb]
      have u1 : upT m t t = false := by unfold upT; simp
      have u2 : upT m (t + 1) t = true := by unfold upT; rw [hb]; simp
      have u3 : ∀ k, k < M → k ≠ t → upT m t k = upT m (t + 1) k := fun k _ hk => by
        unfold upT
        rw [decide_eq_decide.2 (show k < t ↔ k < t + 1 by omega)]
      have jP := fun a b => relE_join (x1 := e1) (x2 := e2) (S := upT m t) (T := upT m (t + 1)) (show t < M by omega) u2 u1 u3 a b
      have jD := fun a b => relE_join (x1 := b1) (x2 := b2) (S := fun k => !upT m (t + 1) k) (T := fun k => !upT m t k) (show t < M by omega) (by rw [u1]; rfl) (by rw [u2]; rfl) (fun k h1 h2 => by rw [u3 k h1 h2]) a b
      have cD : ∀ a b, RelE b1 b2 M (fun k => !upT m t k && !(t == k)) a b ↔ RelE b1 b2 M (fun k => !upT m (t + 1) k) a b := by
        have hh : ∀ k, k < M → (!upT m t k && !(t == k)) = !upT m (t + 1) k := fun k hk => by
          by_cases hkt : k = t
          · subst hkt; rw [u2]; simp
          · rw [u3 k hk hkt, show (t == k) = false by simpa using fun e : t = k => hkt e.symm]; simp
        intro a b
        exact ⟨fun ⟨k, h1, h2, h3⟩ => ⟨k, h1, (hh k h1).symm.trans h2, h3⟩, fun ⟨k, h1, h2, h3⟩ => ⟨k, h1, (hh k h1).trans h2, h3⟩⟩
      rw [ncN_congr nv (fun u v _ _ => conn_iff jP)]
      rw [ncN_congr nf (fun u v _ _ => conn_iff jD)] at ih
      by_cases hc : Conn (RelE e1 e2 M (upT m t)) (e1 t) (e2 t)
      · have hd := N.dual2 (show t < M by omega) u1 hc
        rw [conn_iff cD] at hd
        have := ncN_less (R := RelE b1 b2 M fun k => !upT m (t + 1) k) RelE.symm (N.f1 t (by omega)) (N.f2 t (by omega)) hd
        rw [ncN_same RelE.symm hc]
        omega
      · have hd : Conn (RelE b1 b2 M fun k => !upT m (t + 1) k) (b1 t) (b2 t) := by
          rw [← conn_iff cD]
          exact Classical.byContradiction fun q => hc (N.dual1 (show t < M by omega) q)
        rw [ncN_same RelE.symm hd] at ih
        have := ncN_less (R := RelE e1 e2 M (upT m t)) RelE.symm (N.v1 t (by omega)) (N.v2 t (by omega)) hc
        omega
    · rw [if_neg hb]
      have hb2 : m.testBit t = false := by simpa using hb
      have u3 : upT m (t + 1) = upT m t := funext fun k => by
        unfold upT
        by_cases hk : k = t
        · subst hk; rw [hb2]; simp
        · rw [decide_eq_decide.2 (show k < t + 1 ↔ k < t by omega)]
      rw [u3]
      exact ih
end

end Go.Proofs.Yteaglkpplgbpaaa.P
namespace Go.Proofs.Yteaglkpplgbpaaa.P
open Go.RowKit Go.Proofs.YteaglkpplgbpaaaW.PrintWords Go.Proofs.YteaglkpplgbpaaaW.PrintLast Go.Proofs.YteaglkpplgbpaaaW.PrintMore
attribute [local go_sem] max2_int min2_int max_two min_two max_three min_three max_four min_four   -- for this text's walks alone
set_option linter.unusedVariables false
set_option linter.unusedSimpArgs false

def diffN (s g : Nat) : Nat := s ^^^ (s &&& g)
theorem diffN_test (s g i : Nat) : (diffN s g).testBit i = (s.testBit i && !g.testBit i) := by
  unfold diffN; rw [Nat.testBit_xor, Nat.testBit_and]; cases s.testBit i <;> cases g.testBit i <;> rfl
theorem diffN_lt {s : Nat} (g : Nat) {n : Nat} (h : s < 2 ^ n) : diffN s g < 2 ^ n := Nat.xor_lt_two_pow h (Nat.lt_of_le_of_lt Nat.and_le_left h)
theorem andNot_u64 (s g : Nat) (hs : s < 2 ^ 60) (hg : g < 2 ^ 60) : bits .andNot .u64 (s : Int) (g : Int) = ((diffN s g : Nat) : Int) := by
  have h1 : (BitVec.ofInt 64 (s : Int)).toNat = s := by
    rw [BitVec.ofInt_natCast, BitVec.toNat_ofNat]; exact Nat.mod_eq_of_lt (by omega)
  have h2 : (BitVec.ofInt 64 (g : Int)).toNat = g := by
    rw [BitVec.ofInt_natCast, BitVec.toNat_ofNat]; exact Nat.mod_eq_of_lt (by omega)
  have h3 : s &&& (2 ^ 64 - (g + 1)) = diffN s g := by
    apply Nat.eq_of_testBit_eq
    intro i
    rw [Nat.testBit_and, Nat.testBit_two_pow_sub_succ (by omega), diffN_test]
    rcases Nat.lt_or_ge i 64 with h | h
    · simp [h]
    · rw [Nat.testBit_lt_two_pow (Nat.lt_of_lt_of_le hs (Nat.pow_le_pow_right (by omega) (by omega)))]; simp
  have hd := diffN_lt g hs
  show IntKind.u64.wrap ((BitVec.ofInt 64 (s : Int) &&& ~~~ BitVec.ofInt 64 (g : Int)).toNat : Int) = _
  rw [BitVec.toNat_and, BitVec.toNat_not, h1, h2, show 2 ^ 64 - 1 - g = 2 ^ 64 - (g + 1) by omega, h3]
  exact u64_small _ (Int.natCast_nonneg _) (by exact_mod_cast hd)

def figN (w h : Int) : Nat := (w * (h + 1)).toNat + (h * (w + 1)).toNat
theorem figN_le {w h : Int} (g : GridOK w h) : figN w h ≤ 40 ∧ (w * (h + 1)).toNat ≤ 20 ∧ (h * (w + 1)).toNat ≤ 20 := by
  obtain ⟨c1, c2, c3, c4⟩ := area_bounds g.w1 g.w4 g.h1 g.h4
  unfold figN
  omega
theorem pow_figN {w h : Int} (g : GridOK w h) {M : Nat} (hM : M < 2 ^ figN w h) : M < 2 ^ 60 := Nat.lt_of_lt_of_le hM (Nat.pow_le_pow_right (by omega) (by have := (figN_le g).1; omega))
theorem figMask_figN {w h : Int} {a u : List Int} (hf : figB w h a u = true) : figMask w h a u < 2 ^ figN w h := by
  have g := gridOK_of hf
  obtain ⟨c1, c2, c3, c4⟩ := area_bounds g.w1 g.w4 g.h1 g.h4
  unfold figB at hf
  simp only [Bool.and_eq_true] at hf
  obtain ⟨hg, -, -, hi1, hi2⟩ := hf
  apply Nat.lt_pow_two_of_testBit
  intro i hi
  unfold figN at hi
  unfold figMask
  rw [bitsFrom_test, bitsFrom_test, Nat.zero_testBit, Bool.false_or, Bool.or_eq_false_iff]
  constructor
  · rw [List.any_eq_false]
    intro x hx
    have hb := inB_mem hi1 x hx
    simp
    omega
  · rw [List.any_eq_false]
    intro x hx
    have hb := inB_mem hi2 x hx
    simp
    omega

def nxC (c : S41) (d : Int) : S41 := if d = 110 then ⟨c.f0, c.f1 - 1⟩ else if d = 101 then ⟨c.f0 + 1, c.f1⟩ else if d = 115 then ⟨c.f0, c.f1 + 1⟩ else ⟨c.f0 - 1, c.f1⟩
def four4 (d : Int) : Prop := d = 110 ∨ d = 101 ∨ d = 115 ∨ d = 119
def edC (w h : Int) (c : S41) (d : Int) : Option Nat := btwE w h c.f0 c.f1 d
inductive Reach (w h : Int) (m : Nat) (c : S41) : S41 → Prop
 | refl : Reach w h m c c
 | step {p : S41} {d : Int} {e : Nat} : Reach w h m c p → four4 d → edC w h p d = some e → m.testBit e = true → Reach w h m c (nxC p d)
theorem grid_in {w h : Int} {c : S41} {d : Int} {e : Nat} (he : edC w h c d = some e) : inC w h c.f0 c.f1 := by
 unfold edC btwE at he
 split at he
 ·assumption
 ·cases he
theorem next_in {w h : Int} {c : S41} {d : Int} {e : Nat} (hd : four4 d) (he : edC w h c d = some e) : inC w h (nxC c d).f0 (nxC c d).f1 := by
 have hc := grid_in he
 unfold edC btwE at he
 rw [if_pos hc] at he
 obtain ⟨⟨h1, h2⟩, h3, h4⟩ := hc
 unfold nxC inC
 rcases hd with rfl | rfl | rfl | rfl
 ·simp only [if_pos] at he ⊢
  split at he
  ·(try simp only); omega
  ·cases he
 ·simp only [if_pos, show ¬ (101 : Int) = 110 by decide, if_neg, if_false] at he ⊢
  split at he
  ·(try simp only); omega
  ·cases he
 ·simp only [if_pos, show ¬ (115 : Int) = 110 by decide, show ¬ (115 : Int) = 101 by decide, if_false] at he ⊢
  split at he
  ·(try simp only); omega
  ·cases he
 ·simp only [show ¬ (119 : Int) = 110 by decide, show ¬ (119 : Int) = 101 by decide, show ¬ (119 : Int) = 115 by decide, if_false] at he ⊢
  split at he
  ·(try simp only); omega
  ·cases he
theorem ed_place {w h : Int} {c : S41} {d : Int} {e : Nat} (hd : four4 d) (he : edC w h c d = some e) :
  (∃ x y : Int, 0 ≤ x ∧ x < w ∧ 0 ≤ y ∧ y ≤ h ∧ e = (y * w + x).toNat ∧ ((c = ⟨x, y⟩ ∧ d = 101) ∨ (c = ⟨x + 1, y⟩ ∧ d = 119))) ∨
  (∃ x y : Int, 0 ≤ x ∧ x ≤ w ∧ 0 ≤ y ∧ y < h ∧ e = (w * (h + 1)).toNat + (y * (w + 1) + x).toNat ∧ ((c = ⟨x, y⟩ ∧ d = 115) ∨ (c = ⟨x, y + 1⟩ ∧ d = 110))) := by
 have hc := grid_in he
 unfold edC btwE at he
 rw [if_pos hc] at he
 obtain ⟨⟨h1, h2⟩, h3, h4⟩ := hc
 obtain ⟨x, y⟩ := c
 simp only at *
 rcases hd with rfl | rfl | rfl | rfl
 ·simp only [if_pos] at he
  split at he
  ·injection he with he
   exact .inr ⟨x, y - 1, h1, h2, by omega, by omega, he.symm, .inr ⟨by rw [show y - 1 + 1 = y by omega], rfl⟩⟩
  ·cases he
 ·simp only [if_pos, show ¬ (101 : Int) = 110 by decide, if_false] at he
  split at he
  ·injection he with he
   exact .inl ⟨x, y, h1, by assumption, h3, h4, he.symm, .inl ⟨rfl, rfl⟩⟩
  ·cases he
 ·simp only [if_pos, show ¬ (115 : Int) = 110 by decide, show ¬ (115 : Int) = 101 by decide, if_false] at he
  split at he
  ·injection he with he
   exact .inr ⟨x, y, h1, h2, h3, by assumption, he.symm, .inl ⟨rfl, rfl⟩⟩
  ·cases he
 ·simp only [show ¬ (119 : Int) = 110 by decide, show ¬ (119 : Int) = 101 by decide, show ¬ (119 : Int) = 115 by decide, if_false] at he
  split at he
  ·injection he with he
   exact .inl ⟨x - 1, y, by omega, by omega, h3, h4, he.symm, .inr ⟨by rw [show x - 1 + 1 = x by omega], rfl⟩⟩
  ·cases he
theorem lev_uniq {w x y x' y' : Int} (hw : w = 1 ∨ w = 2 ∨ w = 3 ∨ w = 4 ∨ w = 5) (h1 : 0 ≤ x) (h2 : x < w) (h3 : 0 ≤ y) (h1' : 0 ≤ x') (h2' : x' < w) (h3' : 0 ≤ y') (he : (y * w + x).toNat = (y' * w + x').toNat) : x = x' ∧ y = y' := by
 rcases hw with rfl | rfl | rfl | rfl | rfl <;> omega
theorem lev_lt {w h x y : Int} (hw : w = 1 ∨ w = 2 ∨ w = 3 ∨ w = 4 ∨ w = 5) (h2 : x < w) (h3 : 0 ≤ y) (h4 : y ≤ h) (h1 : 0 ≤ x) : (y * w + x).toNat < (w * (h + 1)).toNat := by
 rcases hw with rfl | rfl | rfl | rfl | rfl <;> omega
theorem ends_two {w h : Int} (g : GridOK w h) {p q : S41} {d d' : Int} {e : Nat} (hd : four4 d) (hd' : four4 d') (hp : edC w h p d = some e) (hq : edC w h q d' = some e) : q = p ∨ q = nxC p d := by
 have cw := (grid_cases g).1
 have a1 : ¬ (119 : Int) = 110 := by decide
 have a2 : ¬ (119 : Int) = 101 := by decide
 have a3 : ¬ (119 : Int) = 115 := by decide
 have a4 : ¬ (101 : Int) = 110 := by decide
 have a5 : ¬ (115 : Int) = 110 := by decide
 have a6 : ¬ (115 : Int) = 101 := by decide
 rcases ed_place hd hp with ⟨x, y, h1, h2, h3, h4, h5, h6⟩ | ⟨x, y, h1, h2, h3, h4, h5, h6⟩ <;> rcases ed_place hd' hq with ⟨x', y', h1', h2', h3', h4', h5', h6'⟩ | ⟨x', y', h1', h2', h3', h4', h5', h6'⟩
 ·obtain ⟨rfl, rfl⟩ := lev_uniq (by omega) h1 h2 h3 h1' h2' h3' (h5.symm.trans h5')
  rcases h6 with ⟨rfl, rfl⟩ | ⟨rfl, rfl⟩ <;> rcases h6' with ⟨rfl, rfl⟩ | ⟨rfl, rfl⟩ <;> simp [nxC] <;> omega
 ·have := lev_lt (h := h) (by omega) h2 h3 h4 h1
  omega
 ·have := lev_lt (h := h) (by omega) h2' h3' h4' h1'
  omega
 ·obtain ⟨rfl, rfl⟩ := lev_uniq (w := w + 1) (by omega) h1 (by omega) h3 h1' (by omega) h3' (by omega)
  rcases h6 with ⟨rfl, rfl⟩ | ⟨rfl, rfl⟩ <;> rcases h6' with ⟨rfl, rfl⟩ | ⟨rfl, rfl⟩ <;> simp [nxC] <;> omega
theorem ed_back {w h : Int} {p : S41} {d : Int} {e : Nat} (hd : four4 d) (hp : edC w h p d = some e) : ∃ d', four4 d' ∧ edC w h (nxC p d) d' = some e := by
 have hn := next_in hd hp
 have a1 : ¬ (119 : Int) = 110 := by decide
 have a2 : ¬ (119 : Int) = 101 := by decide
 have a3 : ¬ (119 : Int) = 115 := by decide
 have a4 : ¬ (101 : Int) = 110 := by decide
 have a5 : ¬ (115 : Int) = 110 := by decide
 have a6 : ¬ (115 : Int) = 101 := by decide
 have hp2 := grid_in hp
 rcases ed_place hd hp with ⟨x, y, h1, h2, h3, h4, h5, h6⟩ | ⟨x, y, h1, h2, h3, h4, h5, h6⟩
 ·rcases h6 with ⟨rfl, rfl⟩ | ⟨rfl, rfl⟩
  ·refine ⟨119, .inr (.inr (.inr rfl)), ?_⟩
   unfold edC btwE
   rw [if_pos hn]
   simp only [nxC, a4, a1, a2, a3, if_false, if_true]
   rw [if_pos (by omega), h5]
   congr 2
   omega
  ·refine ⟨101, .inr (.inl rfl), ?_⟩
   unfold edC btwE
   rw [if_pos hn]
   simp only [nxC, a4, a1, a2, a3, if_false, if_true]
   rw [if_pos (by omega), h5]
   congr 2
   omega
 ·rcases h6 with ⟨rfl, rfl⟩ | ⟨rfl, rfl⟩
  ·refine ⟨110, .inl rfl, ?_⟩
   unfold edC btwE
   rw [if_pos hn]
   simp only [nxC, a5, a6, if_false, if_true]
   rw [if_pos (by omega), h5, show y + 1 - 1 = y by omega]
  ·refine ⟨115, .inr (.inr (.inl rfl)), ?_⟩
   unfold edC btwE
   rw [if_pos hn]
   simp only [nxC, a5, a6, if_false, if_true]
   rw [if_pos (by omega), h5, show y + 1 - 1 = y by omega]
theorem ed_lt {w h : Int} (g : GridOK w h) {p : S41} {d : Int} {e : Nat} (hd : four4 d) (hp : edC w h p d = some e) : e < figN w h := by
 have cw := (grid_cases g).1
 unfold figN
 rcases ed_place hd hp with ⟨x, y, h1, h2, h3, h4, h5, h6⟩ | ⟨x, y, h1, h2, h3, h4, h5, h6⟩
 ·have := lev_lt (h := h) (by omega) h2 h3 h4 h1
  omega
 ·have := lev_lt (w := w + 1) (h := h - 1) (by omega) (by omega : x < w + 1) h3 (by omega) h1
  rw [show h - 1 + 1 = h by omega, Int.mul_comm (w + 1) h] at this
  omega
theorem reach_in {w h : Int} {m : Nat} {c p : S41} (hc : inC w h c.f0 c.f1) (hr : Reach w h m c p) : inC w h p.f0 p.f1 := by
 cases hr with
 | refl => exact hc
 | step _ hd he _ => exact next_in hd he
def Inc (w h : Int) (m : Nat) (c : S41) (e : Nat) : Prop := m.testBit e = true ∧ ∃ p d, Reach w h m c p ∧ four4 d ∧ edC w h p d = some e
def maskOf (p : Nat → Bool) : Nat → Nat
 | 0 => 0
 | n + 1 => if p n then maskOf p n ||| 2 ^ n else maskOf p n
theorem maskOf_test (p : Nat → Bool) : ∀ n i, (maskOf p n).testBit i = (decide (i < n) && p i)
 | 0, i => by simp [maskOf]
 | n + 1, i => by
  unfold maskOf
  by_cases hp : p n = true
  ·rw [if_pos hp, Nat.testBit_or, maskOf_test p n i, Nat.testBit_two_pow]
   by_cases hi : n = i
   ·subst hi; simp [hp]
   ·by_cases h2 : i < n
    ·simp [h2, hi, show i < n + 1 by omega]
    ·simp [h2, hi, show ¬ i < n + 1 by omega]
  ·rw [if_neg hp, maskOf_test p n i]
   by_cases hi : n = i
   ·subst hi; simp [hp]
   ·by_cases h2 : i < n
    ·simp [h2, show i < n + 1 by omega]
    ·simp [h2, show ¬ i < n + 1 by omega]
theorem maskOf_lt (p : Nat → Bool) : ∀ n, maskOf p n < 2 ^ n
 | 0 => by simp [maskOf]
 | n + 1 => by
  have ih := maskOf_lt p n
  have h2 : 2 ^ n < 2 ^ (n + 1) := Nat.pow_lt_pow_right (by omega) (by omega)
  unfold maskOf
  split
  ·exact Nat.or_lt_two_pow (by omega) h2
  ·omega
noncomputable def partN (w h : Int) (m : Nat) (c : S41) : Nat := maskOf (fun e => @decide (Inc w h m c e) (Classical.propDecidable _)) (figN w h)
theorem partN_test {w h : Int} (g : GridOK w h) (m : Nat) (c : S41) (e : Nat) : (partN w h m c).testBit e = true ↔ Inc w h m c e := by
 unfold partN
 rw [maskOf_test, Bool.and_eq_true, decide_eq_true_iff, @decide_eq_true_iff _ (Classical.propDecidable _)]
 exact ⟨fun h => h.2, fun h => ⟨by obtain ⟨_, p, d, _, hd, he⟩ := h; exact ed_lt g hd he, h⟩⟩
theorem partN_lt (w h : Int) (m : Nat) (c : S41) : partN w h m c < 2 ^ figN w h := maskOf_lt _ _
theorem part_eq {w h : Int} (g : GridOK w h) {m F : Nat} {c : S41} (hF : ∀ e, F.testBit e = true ↔ Inc w h m c e) : F = partN w h m c := by
 apply Nat.eq_of_testBit_eq
 intro e
 rw [Bool.eq_iff_iff, hF, partN_test g]
theorem nodup_lt : ∀ (n : Nat) (l : List Nat), l.Nodup → (∀ x ∈ l, x < n) → l.length ≤ n
 | 0, l, _, hb => by
  cases l with
  | nil => simp
  | cons a t => exact absurd (hb a List.mem_cons_self) (by omega)
 | n + 1, l, hn, hb => by
  have h1 := nodup_lt n (l.filter fun x => decide (x < n)) (List.Pairwise.filter _ hn) (fun x hx => by simpa using (List.mem_filter.1 hx).2)
  have h2 : (l.filter fun x => !decide (x < n)).length ≤ 1 := by
   have h3 : ∀ x ∈ l.filter fun x => !decide (x < n), x = n := fun x hx => by
    have := List.mem_filter.1 hx
    have h4 := hb x this.1
    have h5 : ¬ x < n := by simpa using this.2
    omega
   have h4 : (l.filter fun x => !decide (x < n)).Nodup := List.Pairwise.filter _ hn
   generalize l.filter (fun x => !decide (x < n)) = q at h3 h4
   match q with
   | [] => simp
   | [a] => simp
   | a :: b :: t =>
    exfalso
    have e1 := h3 a List.mem_cons_self
    have e2 := h3 b (List.mem_cons_of_mem _ List.mem_cons_self)
    rw [e1, e2] at h4
    simp at h4
  have h3 : l.length = (l.filter fun x => decide (x < n)).length + (l.filter fun x => !decide (x < n)).length := by
   clear h1 h2 hn hb
   induction l with
   | nil => rfl
   | cons a t ih =>
    by_cases ha : a < n
    ·rw [List.filter_cons_of_pos (by simpa using ha), List.filter_cons_of_neg (by simpa using ha), List.length_cons, List.length_cons, ih]; omega
    ·rw [List.filter_cons_of_neg (by simpa using ha), List.filter_cons_of_pos (by simpa using ha), List.length_cons, List.length_cons, ih]; omega
  omega
structure FromInv (w h : Int) (m : Nat) (c : S41) (out : Nat) (L : List S41) (E : List Nat) : Prop where
 reach : ∀ p ∈ L, Reach w h m c p
 first : c ∈ L
 bits : ∀ e, out.testBit e = true ↔ e ∈ E
 sub : ∀ e ∈ E, m.testBit e = true ∧ ∃ p ∈ L, ∃ d, four4 d ∧ edC w h p d = some e
 ends : ∀ e ∈ E, ∀ p d, four4 d → edC w h p d = some e → p ∈ L
 nod : E.Nodup
 len : L.length = E.length + 1
 small : out < 2 ^ figN w h
def Done (w h : Int) (m : Nat) (E : List Nat) (p : S41) (D : List Int) : Prop := ∀ d ∈ D, ∀ e, edC w h p d = some e → m.testBit e = true → e ∈ E
theorem FromInv.bound {w h : Int} (g : GridOK w h) {m : Nat} {c : S41} {out : Nat} {L : List S41} {E : List Nat} (I : FromInv w h m c out L E) : L.length ≤ 41 := by
 have h1 := nodup_lt (figN w h) E I.nod (fun e he => by
  obtain ⟨_, p, _, d, hd, hp⟩ := I.sub e he
  exact ed_lt g hd hp)
 have h2 := (figN_le g).1
 have := I.len
 omega
theorem FromInv.add {w h : Int} (g : GridOK w h) {m : Nat} {c : S41} {out : Nat} {L : List S41} {E : List Nat} (I : FromInv w h m c out L E) {p : S41} {d : Int} {e : Nat} (hp : p ∈ L) (hd : four4 d) (he : edC w h p d = some e) (hm : m.testBit e = true) (hn : e ∉ E) : FromInv w h m c (out ||| 2 ^ e) (L ++ [nxC p d]) (e :: E) where
 reach := fun q hq => by
  rcases List.mem_append.1 hq with hq | hq
  ·exact I.reach q hq
  ·rw [List.mem_singleton] at hq
   subst hq
   exact .step (I.reach p hp) hd he hm
 first := List.mem_append_left _ I.first
 bits := fun i => by
  rw [Nat.testBit_or, Nat.testBit_two_pow, Bool.or_eq_true, decide_eq_true_iff, I.bits, List.mem_cons]
  constructor
  ·rintro (h | h)
   ·exact .inr h
   ·exact .inl h.symm
  ·rintro (h | h)
   ·exact .inr h.symm
   ·exact .inl h
 sub := fun i hi => by
  rcases List.mem_cons.1 hi with rfl | hi
  ·exact ⟨hm, p, List.mem_append_left _ hp, d, hd, he⟩
  ·obtain ⟨h1, q, hq, d', h2⟩ := I.sub i hi
   exact ⟨h1, q, List.mem_append_left _ hq, d', h2⟩
 ends := fun i hi q d' hd' hq => by
  rcases List.mem_cons.1 hi with rfl | hi
  ·rcases ends_two g hd hd' he hq with rfl | rfl
   ·exact List.mem_append_left _ hp
   ·exact List.mem_append_right _ List.mem_cons_self
  ·exact List.mem_append_left _ (I.ends i hi q d' hd' hq)
 nod := List.nodup_cons.2 ⟨hn, I.nod⟩
 len := by rw [List.length_append, List.length_singleton, List.length_cons, I.len]
 small := Nat.or_lt_two_pow I.small (Nat.pow_lt_pow_right (by omega) (ed_lt g hd he))
theorem Done.more {w h : Int} {m : Nat} {E E' : List Nat} {p : S41} {D : List Int} (H : Done w h m E p D) (hE : ∀ e ∈ E, e ∈ E') : Done w h m E' p D := fun d hd e he hm => hE e (H d hd e he hm)
theorem FromInv.close {w h : Int} {m : Nat} {c : S41} {out : Nat} {L : List S41} {E : List Nat} (I : FromInv w h m c out L E) (H : ∀ p ∈ L, Done w h m E p [110, 101, 115, 119]) : ∀ e, out.testBit e = true ↔ Inc w h m c e := by
 have d4 : ∀ d, four4 d → d ∈ ([110, 101, 115, 119] : List Int) := fun d hd => by rcases hd with rfl | rfl | rfl | rfl <;> simp
 have hcl : ∀ p, Reach w h m c p → p ∈ L := fun p hr => by
  induction hr with
  | refl => exact I.first
  | step _ hd he hm ih =>
   obtain ⟨d', hd', he'⟩ := ed_back hd he
   exact I.ends _ (H _ ih _ (d4 _ hd) _ he hm) _ d' hd' he'
 intro e
 rw [I.bits]
 constructor
 ·intro he
  obtain ⟨h1, p, hp, d, hd, h2⟩ := I.sub e he
  exact ⟨h1, p, d, I.reach p hp, hd, h2⟩
 ·rintro ⟨h1, p, d, hr, hd, h2⟩
  exact H p (hcl p hr) d (d4 d hd) e h2 h1


theorem next4_f {w h : Int} {c : S41} {d : Int} {e : Nat} (g : GridOK w h) (hd : four4 d) (he : edC w h c d = some e) : impl_Corner_next.f c.f0 c.f1 d = some ((nxC c d).f0, (nxC c d).f1) := by
 have hc := grid_in he
 have w4 := g.w4
 have h4 := g.h4
 obtain ⟨⟨h1, h2⟩, h3, h5⟩ := hc
 unfold impl_Corner_next.f nxC
 have e1 : wrap64 (c.f1 - 1) = c.f1 - 1 := by unfold wrap64; omega
 have e2 : wrap64 (c.f0 + 1) = c.f0 + 1 := by unfold wrap64; omega
 have e3 : wrap64 (c.f1 + 1) = c.f1 + 1 := by unfold wrap64; omega
 have e4 : wrap64 (c.f0 - 1) = c.f0 - 1 := by unfold wrap64; omega
 rw [e1, e2, e3, e4]
 rcases hd with rfl | rfl | rfl | rfl <;> rfl
theorem maskE_new (o : Option Nat) (m out : Nat) (hm : m < 2 ^ 60) (ho : out < 2 ^ 60) (hl : ∀ e, o = some e → e < 60) :
  (Go.bits .andNot .u64 (Go.bits .and .u64 ((maskE o : Nat) : Int) (m : Int)) (out : Int) = 0) ↔ ¬ ∃ e, o = some e ∧ m.testBit e = true ∧ out.testBit e = false := by
 cases o with
 | none =>
  rw [show maskE none = 0 from rfl, and_u64 0 m (by decide) hm, Nat.zero_and, andNot_u64 0 out (by decide) ho]
  exact ⟨fun _ ⟨e, h, _⟩ => (by cases h), fun _ => (by unfold diffN; simp)⟩
 | some e =>
  have he := hl e rfl
  rw [show maskE (some e) = 2 ^ e from rfl, and_u64 _ m (pow_lt60 he) hm, and_two e m]
  by_cases hb : m.testBit e = true
  ·rw [if_pos hb, andNot_u64 _ out (pow_lt60 he) ho]
   constructor
   ·rintro hz ⟨e', h1, _, h3⟩
    injection h1 with h1
    subst h1
    have : (diffN (2 ^ e) out).testBit e = true := by rw [diffN_test, Nat.testBit_two_pow, h3]; simp
    have h0 : diffN (2 ^ e) out = 0 := by exact_mod_cast hz
    rw [h0] at this
    simp at this
   ·intro hn
    have h0 : diffN (2 ^ e) out = 0 := by
     apply Nat.eq_of_testBit_eq
     intro i
     rw [diffN_test, Nat.testBit_two_pow, Nat.zero_testBit]
     by_cases hi : e = i
     ·subst hi
      cases ho2 : out.testBit e with
      | true => simp
      | false => exact absurd ⟨e, rfl, hb, ho2⟩ hn
     ·simp [hi]
    rw [h0]; rfl
  ·rw [if_neg hb, andNot_u64 0 out (by decide) ho]
   exact ⟨fun _ ⟨e', h1, h2, _⟩ => (by injection h1 with h1; subst h1; exact hb h2), fun _ => (by unfold diffN; simp)⟩
def dirs4 : List Int := [110, 101, 115, 119]
theorem dirs4_four : ∀ d ∈ dirs4, four4 d := fun d hd => by
 simp only [dirs4, List.mem_cons, List.not_mem_nil, or_false] at hd
 exact hd
theorem from_l1 {w h : Int} (g : GridOK w h) {m : Nat} (hm : m < 2 ^ figN w h) (c : S41) : ∀ (r f i j : Nat) (out : Nat) (L : List S41) (E : List Nat), 4 - i = r → i ≤ 4 → 10 < f → FromInv w h m c out L E → (hj : j < L.length) → Done w h m E L[j] (dirs4.take i) →
  ∃ (out' : Nat) (L' : List S41) (E' : List Nat), impl_grid_from.l1 (f + r + 1) (m : Int) (out : Int) L (j : Int) dirs4 (dirs4.length : Int) (i : Int) w h = impl_grid_from.l0 f (m : Int) (out' : Int) L' (wrap64 ((j : Int) + 1)) w h ∧ FromInv w h m c out' L' E' ∧ (∀ e ∈ E, e ∈ E') ∧ (∃ M, L' = L ++ M) ∧ Done w h m E' L[j] dirs4 := by
 have HMM := Aside0.mk hm
 clear hm
 intro r
 induction r with
 | zero =>
  intro f i j out L E h1 h2 hf I hj D
  obtain rfl : i = 4 := by omega
  refine ⟨out, L, E, ?_, I, fun e he => he, ⟨[], by simp⟩, D⟩
  rw [impl_grid_from.l1, if_neg (by simp [dirs4])]
 | succ r ih =>
  intro f i j out L E h1 h2 hf I hj D
  have hi : i < dirs4.length := by show i < 4; omega
  have hL := I.bound g
  have hrd : rd dirs4 (i : Int) = dirs4[i] := by unfold rd; rw [Int.toNat_natCast, List.getD_eq_getElem?_getD, List.getElem?_eq_getElem hi]; rfl
  have hd := dirs4_four dirs4[i] (List.getElem_mem hi)
  have HM6 := Aside0.mk (pow_figN g HMM.out)
  have HO6 := Aside0.mk (pow_figN g I.small)
  have hw : wrap64 ((i : Int) + 1) = ((i + 1 : Nat) : Int) := by unfold wrap64; omega
  have htk : dirs4.take (i + 1) = dirs4.take i ++ [dirs4[i]] := List.take_succ_eq_append_getElem hi
  have hlt : (i : Int) < (dirs4.length : Int) := by omega
  have hjz : (j : Int) < (L.length : Int) := by omega
  have hbl : ∀ e, btwE w h L[j].f0 L[j].f1 dirs4[i] = some e → e < 60 := fun e he => btwE_lt g e he
  have hcr : rd_T41 L (j : Int) = L[j] := by unfold rd_T41; rw [Int.toNat_natCast, List.getD_eq_getElem?_getD, List.getElem?_eq_getElem hj]; rfl
  have hnw := maskE_new (btwE w h L[j].f0 L[j].f1 dirs4[i]) m out HM6.out HO6.out hbl
  by_cases hn : ∃ e, btwE w h L[j].f0 L[j].f1 dirs4[i] = some e ∧ m.testBit e = true ∧ out.testBit e = false
  ·obtain ⟨e, he, hme, hoe⟩ := hn
   have hnE : e ∉ E := fun hE => by rw [(I.bits e).2 hE] at hoe; cases hoe
   have I2 := I.add g (List.getElem_mem hj) hd he hme hnE
   have hj2 : j < (L ++ [nxC L[j] dirs4[i]]).length := by rw [List.length_append]; omega
   have hjj : (L ++ [nxC L[j] dirs4[i]])[j] = L[j] := List.getElem_append_left hj
   obtain ⟨out', L', E', q1, q2, q3, ⟨M, q4⟩, q5⟩ := ih f (i + 1) j (out ||| 2 ^ e) (L ++ [nxC L[j] dirs4[i]]) (e :: E) (by omega) (by omega) hf I2 hj2 (by
    rw [hjj, htk]
    intro d hd' e' he' hm'
    rcases List.mem_append.1 hd' with hd' | hd'
    ·exact List.mem_cons_of_mem _ (D d hd' e' he' hm')
    ·rw [List.mem_singleton] at hd'
     subst hd'
     have h9 : some e' = some e := he'.symm.trans he
     injection h9 with h9
     rw [h9]; exact List.mem_cons_self)
   rw [hjj] at q5
   refine ⟨out', L', E', ?_, q2, fun x hx => q3 x (List.mem_cons_of_mem _ hx), ⟨[nxC L[j] dirs4[i]] ++ M, by rw [q4, List.append_assoc]⟩, q5⟩
   rw [← q1, show f + (r + 1) + 1 = (f + r + 1) + 1 by omega, impl_grid_from.l1]
   rw [if_pos hlt, if_pos (Int.natCast_nonneg _), if_pos hlt, if_pos (Int.natCast_nonneg _), if_pos hjz, hcr, hrd, between_f g hd _ (by omega), Option.bind_some]
   rw [if_neg (fun hz => (hnw.1 hz) ⟨e, he, hme, hoe⟩), next4_f g hd he, Option.bind_some, if_pos (by omega), hw]
   have hE : btwE w h L[j].f0 L[j].f1 dirs4[i] = some e := he
   rw [hE, show maskE (some e) = 2 ^ e from rfl, or_u64 out (2 ^ e) HO6.out (pow_lt60 (hbl e hE))]
  ·obtain ⟨out', L', E', q1, q2, q3, q4, q5⟩ := ih f (i + 1) j out L E (by omega) (by omega) hf I hj (by
    rw [htk]
    intro d hd' e' he' hm'
    rcases List.mem_append.1 hd' with hd' | hd'
    ·exact D d hd' e' he' hm'
    ·rw [List.mem_singleton] at hd'
     subst hd'
     rw [← I.bits]
     cases ho2 : out.testBit e' with
     | true => rfl
     | false => exact absurd ⟨e', he', hm', ho2⟩ hn)
   refine ⟨out', L', E', ?_, q2, q3, q4, q5⟩
   rw [← q1, show f + (r + 1) + 1 = (f + r + 1) + 1 by omega, impl_grid_from.l1]
   rw [if_pos hlt, if_pos (Int.natCast_nonneg _), if_pos hlt, if_pos (Int.natCast_nonneg _), if_pos hjz, hcr, hrd, between_f g hd _ (by omega), Option.bind_some]
   rw [if_pos (hnw.2 hn), hw]
theorem from_l0 {w h : Int} (g : GridOK w h) {m : Nat} (hm : m < 2 ^ figN w h) (c : S41) : ∀ (r f j : Nat) (out : Nat) (L : List S41) (E : List Nat), 42 - j = r → j ≤ L.length → r * 6 + 20 < f → FromInv w h m c out L E → (∀ (i : Nat) (hi : i < L.length), i < j → Done w h m E L[i] dirs4) →
  ∃ F : Nat, impl_grid_from.l0 f (m : Int) (out : Int) L (j : Int) w h = some (F : Int) ∧ (∀ e, F.testBit e = true ↔ Inc w h m c e) := by
 have HMM := Aside0.mk hm
 clear hm
 intro r
 induction r with
 | zero =>
  intro f j out L E h1 h2 hf I D
  have hL := I.bound g
  omega
 | succ r ih =>
  intro f j out L E h1 h2 hf I D
  have hL := I.bound g
  obtain ⟨f, rfl⟩ : ∃ z, f = z + 4 + 1 + 1 := ⟨f - 6, by omega⟩
  by_cases hj : j < L.length
  ·obtain ⟨out', L', E', q1, q2, q3, ⟨M, q4⟩, q5⟩ := from_l1 g HMM.out c 4 f 0 j out L E (by omega) (by omega) (by omega) I hj (fun d hd => by simp at hd)
   rw [impl_grid_from.l0, if_pos (by omega), Option.bind_some]
   have q1' : impl_grid_from.l1 (f + 4 + 1) (m : Int) (out : Int) L (j : Int) dirs4 (dirs4.length : Int) 0 w h = impl_grid_from.l0 f (m : Int) (out' : Int) L' (wrap64 ((j : Int) + 1)) w h := q1
   have e4 : impl_grid_from.l1 (f + 4 + 1) (m : Int) (out : Int) L (j : Int) ([110, 101, 115, 119] : List Int) ((([110, 101, 115, 119] : List Int)).length : Int) 0 w h = impl_grid_from.l0 f (m : Int) (out' : Int) L' (wrap64 ((j : Int) + 1)) w h := q1'
   rw [e4, show wrap64 ((j : Int) + 1) = ((j + 1 : Nat) : Int) from by unfold wrap64; omega]
   refine ih f (j + 1) out' L' E' (by omega) (by rw [q4, List.length_append]; omega) (by omega) q2 (fun i hi hij => ?_)
   have hiL : i < L.length := by omega
   have hgi : L'[i] = L[i] := by
    subst q4
    exact List.getElem_append_left hiL
   rw [hgi]
   by_cases hij2 : i = j
   ·subst hij2
    exact q5
   ·exact (D i hiL (by omega)).more q3
  ·refine ⟨out, ?_, I.close (fun p hp => ?_)⟩
   ·rw [impl_grid_from.l0, if_neg (by omega)]
   ·obtain ⟨i, hi, rfl⟩ := List.mem_iff_getElem.1 hp
    exact D i hi (by omega)
theorem from_f {w h : Int} (g : GridOK w h) {m : Nat} (hm : m < 2 ^ figN w h) (c : S41) (k : Nat) (hk : 300 < k) : impl_grid_from.f k w h (m : Int) c.f0 c.f1 = some ((partN w h m c : Nat) : Int) := by
 have I0 : FromInv w h m c 0 [c] [] := ⟨fun p hp => (by rw [List.mem_singleton] at hp; subst hp; exact .refl), List.mem_cons_self, fun e => (by simp), fun e he => (by cases he), fun e he => (by cases he), List.nodup_nil, rfl, Nat.two_pow_pos _⟩
 obtain ⟨F, h1, h2⟩ := from_l0 g hm c 42 k 0 0 [c] [] (by omega) (by simp) (by omega) I0 (fun i hi h => absurd h (by omega))
 unfold impl_grid_from.f
 rw [← part_eq g h2]
 exact h1


def spec_liUsed.l0 : Nat → List (S41) → List (S41) → Int → Int → Int → Int → List Int → List Int → Option ((List (S41)))
  | 0, _, _, _, _, _, _, _, _ => none
  | k + 1, x3, x7, x8, x9, x838000, x838001, x838002, x838003 => if x9 < x8 then (if 0 ≤ x9 then (if x9 < (x7.length : Int) then ((spec_liMeet.f k x838000 x838001 x838002 x838003 ((rd_T41 x7 x9).f0) ((rd_T41 x7 x9).f1)).bind fun t843 => (if t843 > 0 then (if x3.length < 8796093022208 then (spec_liUsed.l0 k (x3 ++ [(⟨(rd_T41 x7 x9).f0, (rd_T41 x7 x9).f1⟩ : S41)]) x7 x8 (wrap64 (x9 + 1)) x838000 x838001 x838002 x838003) else (none)) else (spec_liUsed.l0 k x3 x7 x8 (wrap64 (x9 + 1)) x838000 x838001 x838002 x838003))) else (none)) else (none)) else (some x3)
def spec_liUsed.f (k : Nat) (a0_0 : Int) (a0_1 : Int) (l0_2 : List Int) (l0_3 : List Int) : Option ((List (S41))) := (spec_liAll.f k a0_0 a0_1 l0_2 l0_3).bind fun t838 => (spec_liUsed.l0 k ([] : List (S41)) t838 (t838.length : Int) 0 a0_0 a0_1 l0_2 l0_3)
theorem spec_liUsed.mono_l : ∀ k, (∀ y0 y1 y2 y3 y4 y5 y6 y7, LeO (spec_liUsed.l0 k y0 y1 y2 y3 y4 y5 y6 y7) (spec_liUsed.l0 (k + 1) y0 y1 y2 y3 y4 y5 y6 y7))
  | 0 => fun _ _ _ _ _ _ _ _ r h => by simp [spec_liUsed.l0] at h
  | k + 1 => by
    have ih0 := spec_liUsed.mono_l k
    · intro y0 y1 y2 y3 y4 y5 y6 y7
      unfold spec_liUsed.l0
      repeat' first
      | (with_reducible exact ih0 _ _ _ _ _ _ _ _)
      | (with_reducible exact spec_liAll.mono _ _ _ _ _)
      | (with_reducible exact spec_liMeet.mono _ _ _ _ _ _ _)
      | (with_reducible exact LeO.refl _)
      | (with_reducible exact LeO.none _)
      | (with_reducible refine LeO.ite ?_ ?_)
      | (with_reducible refine LeO.bind ?_ (fun _ => ?_))
      | exact ih0 _ _ _ _ _ _ _ _
      | exact spec_liAll.mono _ _ _ _ _
      | exact spec_liMeet.mono _ _ _ _ _ _ _
      | exact LeO.none _
      | refine LeO.ite ?_ ?_
      | refine LeO.bind ?_ (fun _ => ?_)
theorem spec_liUsed.mono : ∀ a0 a1 a2 a3 k, LeO (spec_liUsed.f k a0 a1 a2 a3) (spec_liUsed.f (k + 1) a0 a1 a2 a3) := by
  intro a0 a1 a2 a3 k
  have ih0 := spec_liUsed.mono_l k
  unfold spec_liUsed.f
  repeat' first
      | (with_reducible exact ih0 _ _ _ _ _ _ _ _)
      | (with_reducible exact spec_liAll.mono _ _ _ _ _)
      | (with_reducible exact spec_liMeet.mono _ _ _ _ _ _ _)
      | (with_reducible exact LeO.refl _)
      | (with_reducible exact LeO.none _)
      | (with_reducible refine LeO.ite ?_ ?_)
      | (with_reducible refine LeO.bind ?_ (fun _ => ?_))
      | exact ih0 _ _ _ _ _ _ _ _
      | exact spec_liAll.mono _ _ _ _ _
      | exact spec_liMeet.mono _ _ _ _ _ _ _
      | exact LeO.none _
      | refine LeO.ite ?_ ?_
      | refine LeO.bind ?_ (fun _ => ?_)


def spec_l1Own.f (l0 : List Int) : Option (List Int) := (some (([] : List Int) : List Int)).bind fun y602 => (if y602.length + l0.length < 17592186044416 then (some (y602 ++ l0)) else (none))

def spec_fiOwn.f (a0_0 : Int) (a0_1 : Int) (l0_2 : List Int) (l0_3 : List Int) : Option (Int × Int × List Int × List Int) := (spec_l1Own.f l0_2).bind fun t610 => ((spec_l1Own.f l0_3).bind fun t613 => (some (a0_0, a0_1, t610, t613)))

def spec_fiPut.f (k : Nat) (a0_0 : Int) (a0_1 : Int) (l0_2 : List Int) (l0_3 : List Int) (a1 : Bool) (a2 : Int) (a3 : Int) : Option (Int × Int × List Int × List Int) := (spec_fiOwn.f a0_0 a0_1 l0_2 l0_3).bind fun bt618 => ((spec_fiEdge.f a0_0 a0_1 l0_2 l0_3 a1 a2 a3).bind fun bt627 => ((spec_fiHas.f k a0_0 a0_1 l0_2 l0_3 a1 a2 a3).bind fun t629 => (if t629 = true then (some (bt618.1, bt618.2.1, bt618.2.2.1, bt618.2.2.2)) else (if a1 = true then ((spec_l1Put.f k bt618.2.2.2 bt627.1).bind fun t630 => (some (bt618.1, bt618.2.1, bt618.2.2.1, t630))) else ((spec_l1Put.f k bt618.2.2.1 bt627.1).bind fun t633 => (some (bt618.1, bt618.2.1, t633, bt618.2.2.2)))))))
theorem spec_fiPut.mono : ∀ a0 a1 a2 a3 a4 a5 a6 k, LeO (spec_fiPut.f k a0 a1 a2 a3 a4 a5 a6) (spec_fiPut.f (k + 1) a0 a1 a2 a3 a4 a5 a6) := by
  intro a0 a1 a2 a3 a4 a5 a6 k
  unfold spec_fiPut.f
  repeat' first
      | (with_reducible exact spec_fiHas.mono _ _ _ _ _ _ _ _)
      | (with_reducible exact spec_l1Put.mono _ _ _)
      | (with_reducible exact LeO.refl _)
      | (with_reducible exact LeO.none _)
      | (with_reducible refine LeO.ite ?_ ?_)
      | (with_reducible refine LeO.bind ?_ (fun _ => ?_))
      | exact spec_fiHas.mono _ _ _ _ _ _ _ _
      | exact spec_l1Put.mono _ _ _
      | exact LeO.none _
      | refine LeO.ite ?_ ?_
      | refine LeO.bind ?_ (fun _ => ?_)

def spec_fiThose.l0 : Nat → List Int → Bool → List Int → List Int → Int → Int → Option (List Int)
  | 0, _, _, _, _, _, _ => none
  | k + 1, x1, x2, x7, x10, x11, x12 => if x12 < x11 then (if 0 ≤ x12 then (if x12 < (x10.length : Int) then ((spec_l1Has.f k x1 (rd x10 x12)).bind fun t701 => (if (t701 == x2) = true then (if x7.length < 17592186044416 then (spec_fiThose.l0 k x1 x2 (x7 ++ [rd x10 x12]) x10 x11 (wrap64 (x12 + 1))) else (none)) else (spec_fiThose.l0 k x1 x2 x7 x10 x11 (wrap64 (x12 + 1))))) else (none)) else (none)) else (some x7)
def spec_fiThose.f (k : Nat) (l0 : List Int) (l1 : List Int) (a2 : Bool) : Option (List Int) := spec_fiThose.l0 k l1 a2 ([] : List Int) l0 (l0.length : Int) 0
theorem spec_fiThose.mono_l : ∀ k, (∀ y0 y1 y2 y3 y4 y5, LeO (spec_fiThose.l0 k y0 y1 y2 y3 y4 y5) (spec_fiThose.l0 (k + 1) y0 y1 y2 y3 y4 y5))
  | 0 => fun _ _ _ _ _ _ r h => by simp [spec_fiThose.l0] at h
  | k + 1 => by
    have ih0 := spec_fiThose.mono_l k
    · intro y0 y1 y2 y3 y4 y5
      unfold spec_fiThose.l0
      repeat' first
      | (with_reducible exact ih0 _ _ _ _ _ _)
      | (with_reducible exact spec_l1Has.mono _ _ _)
      | (with_reducible exact LeO.refl _)
      | (with_reducible exact LeO.none _)
      | (with_reducible refine LeO.ite ?_ ?_)
      | (with_reducible refine LeO.bind ?_ (fun _ => ?_))
      | exact ih0 _ _ _ _ _ _
      | exact spec_l1Has.mono _ _ _
      | exact LeO.none _
      | refine LeO.ite ?_ ?_
      | refine LeO.bind ?_ (fun _ => ?_)
theorem spec_fiThose.mono : ∀ a0 a1 a2 k, LeO (spec_fiThose.f k a0 a1 a2) (spec_fiThose.f (k + 1) a0 a1 a2) := by
  intro a0 a1 a2 k
  have ih0 := spec_fiThose.mono_l k
  unfold spec_fiThose.f
  repeat' first
      | (with_reducible exact ih0 _ _ _ _ _ _)
      | (with_reducible exact spec_l1Has.mono _ _ _)
      | (with_reducible exact LeO.refl _)
      | (with_reducible exact LeO.none _)
      | (with_reducible refine LeO.ite ?_ ?_)
      | (with_reducible refine LeO.bind ?_ (fun _ => ?_))
      | exact ih0 _ _ _ _ _ _
      | exact spec_l1Has.mono _ _ _
      | exact LeO.none _
      | refine LeO.ite ?_ ?_
      | refine LeO.bind ?_ (fun _ => ?_)

def spec_fiLess.f (k : Nat) (a0_0 : Int) (a0_1 : Int) (l0_2 : List Int) (l0_3 : List Int) (a1_0 : Int) (a1_1 : Int) (l1_2 : List Int) (l1_3 : List Int) : Option (Int × Int × List Int × List Int) := (spec_fiThose.f k l0_2 l1_2 false).bind fun t708 => ((spec_fiThose.f k l0_3 l1_3 false).bind fun t711 => (some (a0_0, a0_1, t708, t711)))
theorem spec_fiLess.mono : ∀ a0 a1 a2 a3 a4 a5 a6 a7 k, LeO (spec_fiLess.f k a0 a1 a2 a3 a4 a5 a6 a7) (spec_fiLess.f (k + 1) a0 a1 a2 a3 a4 a5 a6 a7) := by
  intro a0 a1 a2 a3 a4 a5 a6 a7 k
  unfold spec_fiLess.f
  repeat' first
      | (with_reducible exact spec_fiThose.mono _ _ _ _)
      | (with_reducible exact LeO.refl _)
      | (with_reducible exact LeO.none _)
      | (with_reducible refine LeO.ite ?_ ?_)
      | (with_reducible refine LeO.bind ?_ (fun _ => ?_))
      | exact spec_fiThose.mono _ _ _ _
      | exact LeO.none _
      | refine LeO.ite ?_ ?_
      | refine LeO.bind ?_ (fun _ => ?_)
def spec_fiLess.T1 : Bool × List (List Nat × List Nat) := (true, [([], []), ([0], [0]), ([], []), ([2], [2]), ([], []), ([4], [4]), ([], []), ([6], [6]), ([5, 7], [5, 7]), ([], []), ([9], [9]), ([], []), ([11], [11]), ([10, 12, 8], [10, 12]), ([1, 3, 8, 13], [1, 3, 8, 13]), ([14, 13, 0, 1, 2, 3, 4, 5, 6, 7, 8, 9, 10, 11, 12, 13, 14], [14])])
def spec_fiLess.B1 : List Nat := [0, 1, 0, 4, 0, 16, 0, 64, 240, 0, 512, 0, 2048, 8176, 16383, 32767]
theorem spec_fiLess.tab1 : rtab .any (opsOf Try.f63 1) = spec_fiLess.T1 := by kernel_rfl
theorem spec_fiLess.bits1 : waitsOk spec_fiLess.T1.2 spec_fiLess.B1 = true := by kernel_rfl

theorem ins_ok {l : List Int} {x : Int} {i : Nat} (hp : l.Pairwise (· < ·)) (h1 : ∀ y ∈ l.take i, y < x) (h2 : ∀ y ∈ l.drop i, x < y) : (l.take i ++ [x] ++ l.drop i).Pairwise (· < ·) ∧ (∀ y, y ∈ l.take i ++ [x] ++ l.drop i ↔ y ∈ l ∨ y = x) ∧ (l.take i ++ [x] ++ l.drop i).length ≤ l.length + 1 := by
  have hp2 := hp
  rw [← List.take_append_drop i l, List.pairwise_append] at hp2
  obtain ⟨p1, p2, p3⟩ := hp2
  refine ⟨?_, fun y => ?_, ?_⟩
  · rw [List.pairwise_append, List.pairwise_append]
    refine ⟨⟨p1, List.pairwise_singleton _ _, fun a ha b hb => ?_⟩, p2, fun a ha b hb => ?_⟩
    · rw [List.mem_singleton] at hb
      subst hb
      exact h1 a ha
    · rw [List.mem_append, List.mem_singleton] at ha
      rcases ha with ha | rfl
      · exact p3 a ha b hb
      · exact h2 b hb
  · rw [List.mem_append, List.mem_append, List.mem_singleton]
    have : y ∈ l ↔ y ∈ l.take i ∨ y ∈ l.drop i := by rw [← List.mem_append, List.take_append_drop]
    rw [this]
    constructor
    · rintro ((h | h) | h)
      · exact .inl (.inl h)
      · exact .inr h
      · exact .inl (.inr h)
    · rintro ((h | h) | h)
      · exact .inl (.inl h)
      · exact .inr h
      · exact .inl (.inr h)
  · rw [List.length_append, List.length_append, List.length_take, List.length_drop, List.length_singleton]
    omega
theorem l1Put_l0 (l : List Int) (x : Int) (hp : l.Pairwise (· < ·)) (hL : l.length ≤ 4000000) : ∀ (d k i : Nat), l.length - i = d → i ≤ l.length → d < k → (∀ y ∈ l.take i, y < x) → ∃ r, spec_l1Put.l0 k l x (i : Int) = some r ∧ r.Pairwise (· < ·) ∧ (∀ y, y ∈ r ↔ y ∈ l ∨ y = x) ∧ r.length ≤ l.length + 1 := by
  intro d
  induction d with
  | zero =>
    intro k i h1 h2 h3 h4
    obtain ⟨k, rfl⟩ : ∃ m, k = m + 1 := ⟨k - 1, by omega⟩
    obtain rfl : i = l.length := by omega
    refine ⟨_, ?_, ins_ok hp h4 (fun y hy => by rw [List.drop_length] at hy; cases hy)⟩
    simp only [spec_l1Put.l0, Option.bind_some, Int.toNat_natCast, List.nil_append, List.length_nil]
    rw [if_neg (by omega), if_pos (by omega), if_pos (by omega), if_pos (by rw [List.length_take]; omega), if_pos (by rw [List.length_take]; omega), if_pos (by rw [List.length_append, List.length_take, List.length_drop, List.length_singleton]; omega)]
  | succ d ih =>
    intro k i h1 h2 h3 h4
    obtain ⟨k, rfl⟩ : ∃ m, k = m + 1 := ⟨k - 1, by omega⟩
    have hi : i < l.length := by omega
    have e2 : wrap64 ((i : Int) + 1) = ((i + 1 : Nat) : Int) := by unfold wrap64; omega
    simp only [spec_l1Put.l0, Option.bind_some, Int.toNat_natCast, List.nil_append, List.length_nil]
    rw [if_pos (by omega), if_pos (by omega), rd_nat l i hi, e2]
    by_cases hlt : l[i] < x
    · rw [if_pos hlt]
      refine ih k (i + 1) (by omega) (by omega) (by omega) (fun y hy => ?_)
      rw [List.take_succ_eq_append_getElem hi, List.mem_append, List.mem_singleton] at hy
      rcases hy with hy | rfl
      · exact h4 y hy
      · exact hlt
    · rw [if_neg hlt]
      by_cases he : l[i] = x
      · rw [if_pos he]
        refine ⟨l, rfl, hp, fun y => ⟨fun h => .inl h, ?_⟩, by omega⟩
        rintro (h | rfl)
        · exact h
        · rw [← he]; exact List.getElem_mem hi
      · have hd : ∀ y ∈ l.drop i, x < y := fun y hy => by
          rw [List.drop_eq_getElem_cons hi] at hy
          have hp2 := hp
          rw [← List.take_append_drop i l, List.pairwise_append] at hp2
          have p2 := hp2.2.1
          rw [List.drop_eq_getElem_cons hi, List.pairwise_cons] at p2
          rcases List.mem_cons.1 hy with rfl | hy
          · omega
          · have := p2.1 y hy; omega
        refine ⟨_, ?_, ins_ok hp h4 hd⟩
        rw [if_neg he, if_pos (by omega), if_pos (by rw [List.length_take]; omega), if_pos (by rw [List.length_take]; omega), if_pos (by rw [List.length_append, List.length_take, List.length_drop, List.length_singleton]; omega)]
theorem l1Put_f (l : List Int) (x : Int) (hp : l.Pairwise (· < ·)) (hL : l.length ≤ 4000000) (k : Nat) (hk : l.length < k) : ∃ r, spec_l1Put.f k l x = some r ∧ r.Pairwise (· < ·) ∧ (∀ y, y ∈ r ↔ y ∈ l ∨ y = x) ∧ r.length ≤ l.length + 1 := by
  unfold spec_l1Put.f
  exact l1Put_l0 l x hp hL l.length k 0 (by omega) (by omega) hk (fun y hy => by rw [List.take_zero] at hy; cases hy)

theorem eqA41 (d : Nat) (w : World) (x0 y0 : Int) (x1 y1 : Int) :
    (Op.equalIn (d + 2) 41 (.agg #[.int .i64 x0, .int .i64 x1]) (.agg #[.int .i64 y0, .int .i64 y1])).run Try.prog w = .ok (x0 == y0 && (x1 == y1)) w := by
  refine eqA_of Try.underlying41 (by kernel_rfl) ?_
  refine eqf_cons (by rfl) (by go_simp; rfl) (by go_simp; rfl) (by go_simp) ?_
  exact eqf_last (by rfl) (by go_simp; rfl) (by go_simp; rfl) (by go_simp)
end Go.Proofs.Yteaglkpplgbpaaa.P
namespace Go.Proofs.Yteaglkpplgbpaaa.P
open Go.RowKit Go.Proofs.YteaglkpplgbpaaaW.PrintWords Go.Proofs.YteaglkpplgbpaaaW.PrintLast Go.Proofs.YteaglkpplgbpaaaW.PrintMore
attribute [local go_sem] max2_int min2_int max_two min_two max_three min_three max_four min_four   -- for this text's walks alone
set_option linter.unusedVariables false
set_option linter.unusedSimpArgs false

attribute [local go_sem high] eqA41
def spec_liHas.l0 : Nat → List (S41) → Int → Int → Int → Int → Option (Bool)
  | 0, _, _, _, _, _ => none
  | k + 1, x7, x8, x9, x430000, x430001 => if x9 < x8 then (if 0 ≤ x9 then (if x9 < (x7.length : Int) then (if (((rd_T41 x7 x9).f0) == x430000 && (((rd_T41 x7 x9).f1) == x430001)) = true then (some true) else (spec_liHas.l0 k x7 x8 (wrap64 (x9 + 1)) x430000 x430001)) else (none)) else (none)) else (some false)
def spec_liHas.f (k : Nat) (l0 : List (S41)) (a1_0 : Int) (a1_1 : Int) : Option (Bool) := spec_liHas.l0 k l0 (l0.length : Int) 0 a1_0 a1_1
theorem spec_liHas.mono_l : ∀ k, (∀ y0 y1 y2 y3 y4, LeO (spec_liHas.l0 k y0 y1 y2 y3 y4) (spec_liHas.l0 (k + 1) y0 y1 y2 y3 y4))
  | 0 => fun _ _ _ _ _ r h => by simp [spec_liHas.l0] at h
  | k + 1 => by
    have ih0 := spec_liHas.mono_l k
    · intro y0 y1 y2 y3 y4
      unfold spec_liHas.l0
      repeat' first
      | (with_reducible exact ih0 _ _ _ _ _)
      | (with_reducible exact LeO.refl _)
      | (with_reducible exact LeO.none _)
      | (with_reducible refine LeO.ite ?_ ?_)
      | (with_reducible refine LeO.bind ?_ (fun _ => ?_))
      | exact ih0 _ _ _ _ _
      | exact LeO.none _
      | refine LeO.ite ?_ ?_
      | refine LeO.bind ?_ (fun _ => ?_)
theorem spec_liHas.mono : ∀ a0 a1 a2 k, LeO (spec_liHas.f k a0 a1 a2) (spec_liHas.f (k + 1) a0 a1 a2) := by
  intro a0 a1 a2 k
  have ih0 := spec_liHas.mono_l k
  unfold spec_liHas.f
  repeat' first
      | (with_reducible exact ih0 _ _ _ _ _)
      | (with_reducible exact LeO.refl _)
      | (with_reducible exact LeO.none _)
      | (with_reducible refine LeO.ite ?_ ?_)
      | (with_reducible refine LeO.bind ?_ (fun _ => ?_))
      | exact ih0 _ _ _ _ _
      | exact LeO.none _
      | refine LeO.ite ?_ ?_
      | refine LeO.bind ?_ (fun _ => ?_)
end Go.Proofs.Yteaglkpplgbpaaa.P
namespace Go.Proofs.Yteaglkpplgbpaaa.P
open Go.RowKit Go.Proofs.YteaglkpplgbpaaaW.PrintWords Go.Proofs.YteaglkpplgbpaaaW.PrintLast Go.Proofs.YteaglkpplgbpaaaW.PrintMore
attribute [local go_sem] max2_int min2_int max_two min_two max_three min_three max_four min_four   -- for this text's walks alone
set_option linter.unusedVariables false
set_option linter.unusedSimpArgs false

mutual
def spec_liReach.l0 : Nat → List (S41) → Int → Int → Int → List Int → List Int → Option ((List (S41)))
  | 0, _, _, _, _, _, _ => none
  | k + 1, x5, x6, x637000, x637001, x637002, x637003 => if x6 < (x5.length : Int) then (spec_liReach.l1 k x5 x6 0 x637000 x637001 x637002 x637003) else (some x5)
def spec_liReach.l1 : Nat → List (S41) → Int → Int → Int → Int → List Int → List Int → Option ((List (S41)))
  | 0, _, _, _, _, _, _, _ => none
  | k + 1, x5, x6, x7, x637000, x637001, x637002, x637003 => if x7 < 4 then (if 0 ≤ x6 then (if x6 < (x5.length : Int) then ((spec_liNext.f k x637000 x637001 x637002 x637003 ((rd_T41 x5 x6).f0) ((rd_T41 x5 x6).f1) x7).bind fun bt642 => (if bt642.2.2 = true then ((spec_liHas.f k x5 bt642.1 bt642.2.1).bind fun t646 => (if t646 = true then (spec_liReach.l1 k x5 x6 (wrap64 (x7 + 1)) x637000 x637001 x637002 x637003) else (if x5.length < 8796093022208 then (spec_liReach.l1 k (x5 ++ [(⟨bt642.1, bt642.2.1⟩ : S41)]) x6 (wrap64 (x7 + 1)) x637000 x637001 x637002 x637003) else (none)))) else (spec_liReach.l1 k x5 x6 (wrap64 (x7 + 1)) x637000 x637001 x637002 x637003))) else (none)) else (none)) else (spec_liReach.l0 k x5 (wrap64 (x6 + 1)) x637000 x637001 x637002 x637003)
end
def spec_liReach.f (k : Nat) (a0_0 : Int) (a0_1 : Int) (l0_2 : List Int) (l0_3 : List Int) (a1_0 : Int) (a1_1 : Int) : Option ((List (S41))) := spec_liReach.l0 k (([(⟨a1_0, a1_1⟩ : S41)] : List (S41))) 0 a0_0 a0_1 l0_2 l0_3
theorem spec_liReach.mono_l : ∀ k, (∀ y0 y1 y2 y3 y4 y5, LeO (spec_liReach.l0 k y0 y1 y2 y3 y4 y5) (spec_liReach.l0 (k + 1) y0 y1 y2 y3 y4 y5)) ∧ (∀ y0 y1 y2 y3 y4 y5 y6, LeO (spec_liReach.l1 k y0 y1 y2 y3 y4 y5 y6) (spec_liReach.l1 (k + 1) y0 y1 y2 y3 y4 y5 y6))
  | 0 => ⟨fun _ _ _ _ _ _ r h => by simp [spec_liReach.l0] at h, fun _ _ _ _ _ _ _ r h => by simp [spec_liReach.l1] at h⟩
  | k + 1 => by
    obtain ⟨ih0, ih1⟩ := spec_liReach.mono_l k
    refine ⟨?_, ?_⟩
    · intro y0 y1 y2 y3 y4 y5
      unfold spec_liReach.l0
      repeat' first
      | (with_reducible exact ih0 _ _ _ _ _ _)
      | (with_reducible exact ih1 _ _ _ _ _ _ _)
      | (with_reducible exact spec_liHas.mono _ _ _ _)
      | (with_reducible exact spec_liNext.mono _ _ _ _ _ _ _ _)
      | (with_reducible exact LeO.refl _)
      | (with_reducible exact LeO.none _)
      | (with_reducible refine LeO.ite ?_ ?_)
      | (with_reducible refine LeO.bind ?_ (fun _ => ?_))
      | exact ih0 _ _ _ _ _ _
      | exact ih1 _ _ _ _ _ _ _
      | exact spec_liHas.mono _ _ _ _
      | exact spec_liNext.mono _ _ _ _ _ _ _ _
      | exact LeO.none _
      | refine LeO.ite ?_ ?_
      | refine LeO.bind ?_ (fun _ => ?_)
    · intro y0 y1 y2 y3 y4 y5 y6
      unfold spec_liReach.l1
      repeat' first
      | (with_reducible exact ih0 _ _ _ _ _ _)
      | (with_reducible exact ih1 _ _ _ _ _ _ _)
      | (with_reducible exact spec_liHas.mono _ _ _ _)
      | (with_reducible exact spec_liNext.mono _ _ _ _ _ _ _ _)
      | (with_reducible exact LeO.refl _)
      | (with_reducible exact LeO.none _)
      | (with_reducible refine LeO.ite ?_ ?_)
      | (with_reducible refine LeO.bind ?_ (fun _ => ?_))
      | exact ih0 _ _ _ _ _ _
      | exact ih1 _ _ _ _ _ _ _
      | exact spec_liHas.mono _ _ _ _
      | exact spec_liNext.mono _ _ _ _ _ _ _ _
      | exact LeO.none _
      | refine LeO.ite ?_ ?_
      | refine LeO.bind ?_ (fun _ => ?_)
theorem spec_liReach.mono : ∀ a0 a1 a2 a3 a4 a5 k, LeO (spec_liReach.f k a0 a1 a2 a3 a4 a5) (spec_liReach.f (k + 1) a0 a1 a2 a3 a4 a5) := by
  intro a0 a1 a2 a3 a4 a5 k
  obtain ⟨ih0, ih1⟩ := spec_liReach.mono_l k
  unfold spec_liReach.f
  repeat' first
      | (with_reducible exact ih0 _ _ _ _ _ _)
      | (with_reducible exact ih1 _ _ _ _ _ _ _)
      | (with_reducible exact spec_liHas.mono _ _ _ _)
      | (with_reducible exact spec_liNext.mono _ _ _ _ _ _ _ _)
      | (with_reducible exact LeO.refl _)
      | (with_reducible exact LeO.none _)
      | (with_reducible refine LeO.ite ?_ ?_)
      | (with_reducible refine LeO.bind ?_ (fun _ => ?_))
      | exact ih0 _ _ _ _ _ _
      | exact ih1 _ _ _ _ _ _ _
      | exact spec_liHas.mono _ _ _ _
      | exact spec_liNext.mono _ _ _ _ _ _ _ _
      | exact LeO.none _
      | refine LeO.ite ?_ ?_
      | refine LeO.bind ?_ (fun _ => ?_)
def spec_liReach.T8 : Bool × List (List Nat × List Nat) := (true, [([], []), ([], []), ([], []), ([1, 2], [1, 2]), ([3], [3]), ([], []), ([0, 4, 5], [0, 4, 5]), ([6], [6]), ([7], [7]), ([7], [7]), ([], []), ([10, 8, 6, 0, 1, 2, 3, 4, 5, 6, 7, 8, 10], [8, 10]), ([9, 11, 0, 1, 2, 3, 4, 5, 6, 7, 8, 9, 10, 11], [9])])
def spec_liReach.B8 : List Nat := [0, 0, 0, 6, 14, 0, 63, 127, 255, 255, 0, 1535, 4095]
theorem spec_liReach.tab8 : rtab .any (opsOf Try.f140 8) = spec_liReach.T8 := by kernel_rfl
theorem spec_liReach.bits8 : waitsOk spec_liReach.T8.2 spec_liReach.B8 = true := by kernel_rfl

mutual
def spec_liPart.l0 : Nat → List (S41) → Int → Int → Int → Int → List Int → List Int → Int → Int → List Int → List Int → Option (Int × Int × List Int × List Int)
  | 0, _, _, _, _, _, _, _, _, _, _, _ => none
  | k + 1, x19, x20, x21, x651000, x651001, x651002, x651003, x654000, x654001, x654002, x654003 => if x21 < x20 then (if 0 ≤ x21 then (if x21 < (x19.length : Int) then ((spec_liNext.f k x651000 x651001 x651002 x651003 ((rd_T41 x19 x21).f0) ((rd_T41 x19 x21).f1) 1).bind fun bt659 => (if bt659.2.2 = true then ((spec_fiPut.f k x654000 x654001 x654002 x654003 false ((rd_T41 x19 x21).f0) ((rd_T41 x19 x21).f1)).bind fun bt663 => (spec_liPart.j1 k x19 x20 x21 x651000 x651001 x651002 x651003 bt663.1 bt663.2.1 bt663.2.2.1 bt663.2.2.2 ((rd_T41 x19 x21).f0) ((rd_T41 x19 x21).f1))) else (spec_liPart.j1 k x19 x20 x21 x651000 x651001 x651002 x651003 x654000 x654001 x654002 x654003 ((rd_T41 x19 x21).f0) ((rd_T41 x19 x21).f1)))) else (none)) else (none)) else (some (x654000, x654001, x654002, x654003))
def spec_liPart.j1 : Nat → List (S41) → Int → Int → Int → Int → List Int → List Int → Int → Int → List Int → List Int → Int → Int → Option (Int × Int × List Int × List Int)
  | 0, _, _, _, _, _, _, _, _, _, _, _, _, _ => none
  | k + 1, x19, x20, x21, x651000, x651001, x651002, x651003, x654000, x654001, x654002, x654003, x659000, x659001 => (spec_liNext.f k x651000 x651001 x651002 x651003 x659000 x659001 2).bind fun bt671 => (if bt671.2.2 = true then ((spec_fiPut.f k x654000 x654001 x654002 x654003 true x659000 x659001).bind fun bt675 => (spec_liPart.l0 k x19 x20 (wrap64 (x21 + 1)) x651000 x651001 x651002 x651003 bt675.1 bt675.2.1 bt675.2.2.1 bt675.2.2.2)) else (spec_liPart.l0 k x19 x20 (wrap64 (x21 + 1)) x651000 x651001 x651002 x651003 x654000 x654001 x654002 x654003))
end
def spec_liPart.f (k : Nat) (a0_0 : Int) (a0_1 : Int) (l0_2 : List Int) (l0_3 : List Int) (a1_0 : Int) (a1_1 : Int) : Option (Int × Int × List Int × List Int) := (spec_liReach.f k a0_0 a0_1 l0_2 l0_3 a1_0 a1_1).bind fun t654 => (spec_liPart.l0 k t654 (t654.length : Int) 0 a0_0 a0_1 l0_2 l0_3 a0_0 a0_1 ([] : List Int) ([] : List Int))
theorem spec_liPart.mono_l : ∀ k, (∀ y0 y1 y2 y3 y4 y5 y6 y7 y8 y9 y10, LeO (spec_liPart.l0 k y0 y1 y2 y3 y4 y5 y6 y7 y8 y9 y10) (spec_liPart.l0 (k + 1) y0 y1 y2 y3 y4 y5 y6 y7 y8 y9 y10)) ∧ (∀ y0 y1 y2 y3 y4 y5 y6 y7 y8 y9 y10 y11 y12, LeO (spec_liPart.j1 k y0 y1 y2 y3 y4 y5 y6 y7 y8 y9 y10 y11 y12) (spec_liPart.j1 (k + 1) y0 y1 y2 y3 y4 y5 y6 y7 y8 y9 y10 y11 y12))
  | 0 => ⟨fun _ _ _ _ _ _ _ _ _ _ _ r h => by simp [spec_liPart.l0] at h, fun _ _ _ _ _ _ _ _ _ _ _ _ _ r h => by simp [spec_liPart.j1] at h⟩
  | k + 1 => by
    obtain ⟨ih0, ih1⟩ := spec_liPart.mono_l k
    refine ⟨?_, ?_⟩
    · intro y0 y1 y2 y3 y4 y5 y6 y7 y8 y9 y10
      unfold spec_liPart.l0
      repeat' first
      | (with_reducible exact ih0 _ _ _ _ _ _ _ _ _ _ _)
      | (with_reducible exact ih1 _ _ _ _ _ _ _ _ _ _ _ _ _)
      | (with_reducible exact spec_fiPut.mono _ _ _ _ _ _ _ _)
      | (with_reducible exact spec_liNext.mono _ _ _ _ _ _ _ _)
      | (with_reducible exact spec_liReach.mono _ _ _ _ _ _ _)
      | (with_reducible exact LeO.refl _)
      | (with_reducible exact LeO.none _)
      | (with_reducible refine LeO.ite ?_ ?_)
      | (with_reducible refine LeO.bind ?_ (fun _ => ?_))
      | exact ih0 _ _ _ _ _ _ _ _ _ _ _
      | exact ih1 _ _ _ _ _ _ _ _ _ _ _ _ _
      | exact spec_fiPut.mono _ _ _ _ _ _ _ _
      | exact spec_liNext.mono _ _ _ _ _ _ _ _
      | exact spec_liReach.mono _ _ _ _ _ _ _
      | exact LeO.none _
      | refine LeO.ite ?_ ?_
      | refine LeO.bind ?_ (fun _ => ?_)
    · intro y0 y1 y2 y3 y4 y5 y6 y7 y8 y9 y10 y11 y12
      unfold spec_liPart.j1
      repeat' first
      | (with_reducible exact ih0 _ _ _ _ _ _ _ _ _ _ _)
      | (with_reducible exact ih1 _ _ _ _ _ _ _ _ _ _ _ _ _)
      | (with_reducible exact spec_fiPut.mono _ _ _ _ _ _ _ _)
      | (with_reducible exact spec_liNext.mono _ _ _ _ _ _ _ _)
      | (with_reducible exact spec_liReach.mono _ _ _ _ _ _ _)
      | (with_reducible exact LeO.refl _)
      | (with_reducible exact LeO.none _)
      | (with_reducible refine LeO.ite ?_ ?_)
      | (with_reducible refine LeO.bind ?_ (fun _ => ?_))
      | exact ih0 _ _ _ _ _ _ _ _ _ _ _
      | exact ih1 _ _ _ _ _ _ _ _ _ _ _ _ _
      | exact spec_fiPut.mono _ _ _ _ _ _ _ _
      | exact spec_liNext.mono _ _ _ _ _ _ _ _
      | exact spec_liReach.mono _ _ _ _ _ _ _
      | exact LeO.none _
      | refine LeO.ite ?_ ?_
      | refine LeO.bind ?_ (fun _ => ?_)
theorem spec_liPart.mono : ∀ a0 a1 a2 a3 a4 a5 k, LeO (spec_liPart.f k a0 a1 a2 a3 a4 a5) (spec_liPart.f (k + 1) a0 a1 a2 a3 a4 a5) := by
  intro a0 a1 a2 a3 a4 a5 k
  obtain ⟨ih0, ih1⟩ := spec_liPart.mono_l k
  unfold spec_liPart.f
  repeat' first
      | (with_reducible exact ih0 _ _ _ _ _ _ _ _ _ _ _)
      | (with_reducible exact ih1 _ _ _ _ _ _ _ _ _ _ _ _ _)
      | (with_reducible exact spec_fiPut.mono _ _ _ _ _ _ _ _)
      | (with_reducible exact spec_liNext.mono _ _ _ _ _ _ _ _)
      | (with_reducible exact spec_liReach.mono _ _ _ _ _ _ _)
      | (with_reducible exact LeO.refl _)
      | (with_reducible exact LeO.none _)
      | (with_reducible refine LeO.ite ?_ ?_)
      | (with_reducible refine LeO.bind ?_ (fun _ => ?_))
      | exact ih0 _ _ _ _ _ _ _ _ _ _ _
      | exact ih1 _ _ _ _ _ _ _ _ _ _ _ _ _
      | exact spec_fiPut.mono _ _ _ _ _ _ _ _
      | exact spec_liNext.mono _ _ _ _ _ _ _ _
      | exact spec_liReach.mono _ _ _ _ _ _ _
      | exact LeO.none _
      | refine LeO.ite ?_ ?_
      | refine LeO.bind ?_ (fun _ => ?_)

theorem stepB_iff {w h : Int} {m : Nat} {c : S41} {d : Int} : stepB w h m c.f0 c.f1 d = true ↔ ∃ e, edC w h c d = some e ∧ m.testBit e = true := by
  unfold stepB edC
  cases btwE w h c.f0 c.f1 d with
  | none => exact ⟨fun h => (by cases h), fun ⟨e, h, _⟩ => (by cases h)⟩
  | some e => exact ⟨fun h => ⟨e, rfl, h⟩, fun ⟨e', h, h2⟩ => by injection h with h; rw [h]; exact h2⟩
def numC (c : S41) : Nat := (c.f1 * 5 + c.f0).toNat
theorem numC_inj {w h : Int} (g : GridOK w h) {c d : S41} (hc : inC w h c.f0 c.f1) (hd : inC w h d.f0 d.f1) (he : numC c = numC d) : c = d := by
  have w4 := g.w4
  have h4 := g.h4
  obtain ⟨⟨a1, a2⟩, a3, a4⟩ := hc
  obtain ⟨⟨b1, b2⟩, b3, b4⟩ := hd
  unfold numC at he
  cases c; cases d
  simp only at *
  congr 1 <;> omega
structure RchInv (w h : Int) (m : Nat) (c : S41) (L : List S41) : Prop where
  reach : ∀ p ∈ L, Reach w h m c p
  first : c ∈ L
  nod : (L.map numC).Nodup
theorem RchInv.bound {w h : Int} (g : GridOK w h) {m : Nat} {c : S41} (hc : inC w h c.f0 c.f1) {L : List S41} (I : RchInv w h m c L) : L.length ≤ 25 := by
  have h1 := nodup_lt 25 (L.map numC) I.nod (fun x hx => by
    obtain ⟨p, hp, rfl⟩ := List.mem_map.1 hx
    have w4 := g.w4
    have h4 := g.h4
    obtain ⟨⟨a1, a2⟩, a3, a4⟩ := reach_in hc (I.reach p hp)
    unfold numC
    omega)
  rw [List.length_map] at h1
  exact h1
theorem RchInv.add {w h : Int} (g : GridOK w h) {m : Nat} {c : S41} (hc : inC w h c.f0 c.f1) {L : List S41} (I : RchInv w h m c L) {p : S41} {d : Int} (hp : p ∈ L) (hd : four4 d) (hs : stepB w h m p.f0 p.f1 d = true) (hn : nxC p d ∉ L) : RchInv w h m c (L ++ [nxC p d]) := by
  obtain ⟨e, he, hm⟩ := stepB_iff.1 hs
  have hr := Reach.step (I.reach p hp) hd he hm
  refine ⟨fun q hq => ?_, List.mem_append_left _ I.first, ?_⟩
  · rcases List.mem_append.1 hq with hq | hq
    · exact I.reach q hq
    · rw [List.mem_singleton] at hq
      subst hq
      exact hr
  · rw [List.map_append, List.map_cons, List.map_nil, List.nodup_append]
    refine ⟨I.nod, by simp, fun x hx y hy => ?_⟩
    rw [List.mem_singleton] at hy
    subst hy
    rintro rfl
    obtain ⟨q, hq, he2⟩ := List.mem_map.1 hx
    apply hn
    rw [← numC_inj g (reach_in hc (I.reach q hq)) (reach_in hc hr) he2]
    exact hq

def spec_fiCount.f (a0_0 : Int) (a0_1 : Int) (l0_2 : List Int) (l0_3 : List Int) : Option (Int) := some (wrap64 ((l0_2.length : Int) + (l0_3.length : Int)))

def spec_liParts.l0 : Nat → List S28 → Int → Int → List Int → List Int → Option (List S28)
  | 0, _, _, _, _, _ => none
  | k + 1, out, a, b, l2, l3 => (spec_fiCount.f a b l2 l3).bind fun n => if 0 < n then (spec_liUsed.f k a b l2 l3).bind fun us => if 0 < us.length then (spec_liPart.f k a b l2 l3 (us.getD 0 ⟨0, 0⟩).f0 (us.getD 0 ⟨0, 0⟩).f1).bind fun p => if out.length < 2199023255552 then (spec_fiLess.f k a b l2 l3 p.1 p.2.1 p.2.2.1 p.2.2.2).bind fun g => spec_liParts.l0 k (out ++ [(⟨p.1, p.2.1, p.2.2.1, p.2.2.2⟩ : S28)]) g.1 g.2.1 g.2.2.1 g.2.2.2 else none else none else some out
def spec_liParts.f (k : Nat) (a0_0 : Int) (a0_1 : Int) (l0_2 : List Int) (l0_3 : List Int) : Option (List S28) := spec_liParts.l0 k [] a0_0 a0_1 l0_2 l0_3
theorem spec_liParts.mono_l : ∀ k y0 y1 y2 y3 y4, LeO (spec_liParts.l0 k y0 y1 y2 y3 y4) (spec_liParts.l0 (k + 1) y0 y1 y2 y3 y4)
  | 0 => fun _ _ _ _ _ r h => by simp [spec_liParts.l0] at h
  | k + 1 => by
    have ih0 := spec_liParts.mono_l k
    intro y0 y1 y2 y3 y4
    unfold spec_liParts.l0
    repeat' first
      | (with_reducible exact ih0 _ _ _ _ _)
      | (with_reducible exact spec_liUsed.mono _ _ _ _ _)
      | (with_reducible exact spec_liPart.mono _ _ _ _ _ _ _)
      | (with_reducible exact spec_fiLess.mono _ _ _ _ _ _ _ _ _)
      | (with_reducible exact LeO.refl _)
      | (with_reducible exact LeO.none _)
      | (with_reducible refine LeO.ite ?_ ?_)
      | (with_reducible refine LeO.bind ?_ (fun _ => ?_))
      | exact ih0 _ _ _ _ _
      | exact LeO.none _
      | refine LeO.ite ?_ ?_
      | refine LeO.bind ?_ (fun _ => ?_)
theorem spec_liParts.mono : ∀ a0 a1 a2 a3 k, LeO (spec_liParts.f k a0 a1 a2 a3) (spec_liParts.f (k + 1) a0 a1 a2 a3) := fun a0 a1 a2 a3 k => spec_liParts.mono_l k _ _ _ _ _
def FigC (w w' : World) (gb : Nat) (A : Option Addr) (c : Nat) (l : List Int) : Prop := l.length ≤ c ∧ (Kd.C (Kd.int .i64) w A l.length l ∨ Kd.R (Kd.int .i64) 3 w' w.heap.size (fun k => k ≠ gb) (.slice A l.length c) l)
theorem FigC.len {w w' : World} {gb : Nat} {A : Option Addr} {c : Nat} {l : List Int} (h : FigC w w' gb A c l) : l.length ≤ c := h.1
theorem FigC.read {w w' : World} {gb : Nat} {A : Option Addr} {c : Nat} {l : List Int} (h : FigC w w' gb A c l) (hB : Below w.heap.size w w') : Kd.C (Kd.int .i64) w' A l.length l := by
  rcases h.2 with h | h
  · exact Kd.C_below h hB
  · exact (Kd.R_reads' h).2.2
theorem FigC.below {w w1 w2 : World} {gb : Nat} {A : Option Addr} {c : Nat} {l : List Int} (h : FigC w w1 gb A c l) (hb : Below w1.heap.size w1 w2) : FigC w w2 gb A c l := ⟨h.1, h.2.imp (fun h => h) (fun h => Kd.R_below h hb)⟩
theorem FigC.over {w w1 w2 : World} {gb : Nat} {A : Option Addr} {c : Nat} {l : List Int} {v : Value} {e' : Nat} (h : FigC w w1 gb A c l) (hty : ∀ k, v.ownBlock = some k → ∃ cells, w1.heap[k]? = some (.cells cells e' (0, 0))) (ht : ∀ q, q ∈ 3 :: (Kd.int .i64).E → q ≠ e') (hg : w1.grownBy w2 v.ownBlock) : FigC w w2 gb A c l := ⟨h.1, h.2.imp (fun h => h) (fun h => Kd.R_over' h hty ht hg)⟩

def UsedC (w h : Int) (m : Nat) (c : S41) : Prop := ∃ d e, four4 d ∧ edC w h c d = some e ∧ m.testBit e = true
theorem meet_pos {w h : Int} {m : Nat} (c : S41) : 0 < meetE w h m c.f0 c.f1 ↔ UsedC w h m c := by
  have b := bitE_01 m
  have key : ∀ d, bitE m (btwE w h c.f0 c.f1 d) = 1 ↔ ∃ e, edC w h c d = some e ∧ m.testBit e = true := fun d => by
    rw [bitE_step, ← stepB_iff]
    cases stepB w h m c.f0 c.f1 d <;> simp
  have k1 := key 110
  have k2 := key 101
  have k3 := key 115
  have k4 := key 119
  have b1 := b (btwE w h c.f0 c.f1 110)
  have b2 := b (btwE w h c.f0 c.f1 101)
  have b3 := b (btwE w h c.f0 c.f1 115)
  have b4 := b (btwE w h c.f0 c.f1 119)
  unfold meetE UsedC
  constructor
  · intro hp
    by_cases h1 : bitE m (btwE w h c.f0 c.f1 110) = 1
    · obtain ⟨e, he⟩ := k1.1 h1
      exact ⟨110, e, .inl rfl, he⟩
    · by_cases h2 : bitE m (btwE w h c.f0 c.f1 101) = 1
      · obtain ⟨e, he⟩ := k2.1 h2
        exact ⟨101, e, .inr (.inl rfl), he⟩
      · by_cases h3 : bitE m (btwE w h c.f0 c.f1 115) = 1
        · obtain ⟨e, he⟩ := k3.1 h3
          exact ⟨115, e, .inr (.inr (.inl rfl)), he⟩
        · obtain ⟨e, he⟩ := k4.1 (by omega)
          exact ⟨119, e, .inr (.inr (.inr rfl)), he⟩
  · rintro ⟨d, e, hd, he⟩
    rcases hd with rfl | rfl | rfl | rfl
    · have := k1.2 ⟨e, he⟩; omega
    · have := k2.2 ⟨e, he⟩; omega
    · have := k3.2 ⟨e, he⟩; omega
    · have := k4.2 ⟨e, he⟩; omega
theorem part_none {w h : Int} (g : GridOK w h) {m : Nat} {c : S41} (hn : ¬ UsedC w h m c) : partN w h m c = 0 := by
  have hr : ∀ p, Reach w h m c p → p = c := fun p hp => by
    induction hp with
    | refl => rfl
    | step _ hd he hm ih =>
      subst ih
      exact absurd ⟨_, _, hd, he, hm⟩ hn
  apply Nat.eq_of_testBit_eq
  intro e
  rw [Nat.zero_testBit, Bool.eq_false_iff]
  intro ht
  obtain ⟨h1, p, d, h2, hd, he⟩ := (partN_test g m c e).1 ht
  rw [hr p h2] at he
  exact hn ⟨d, e, hd, he, h1⟩
theorem part_some {w h : Int} (g : GridOK w h) {m : Nat} {c : S41} (hu : UsedC w h m c) : partN w h m c ≠ 0 := by
  obtain ⟨d, e, hd, he, hm⟩ := hu
  intro hz
  have := (partN_test g m c e).2 ⟨hm, c, d, .refl, hd, he⟩
  rw [hz] at this
  simp at this
noncomputable def partsL (w h : Int) : List S41 → Nat → List Nat
  | [], _ => []
  | c :: r, s => if partN w h s c = 0 then partsL w h r s else partN w h s c :: partsL w h r (diffN s (partN w h s c))
theorem partsL_len (w h : Int) : ∀ (r : List S41) (s : Nat), (partsL w h r s).length ≤ r.length
  | [], _ => Nat.le_refl _
  | c :: r, s => by
    unfold partsL
    split
    · have := partsL_len w h r s
      rw [List.length_cons]; omega
    · have := partsL_len w h r (diffN s (partN w h s c))
      rw [List.length_cons, List.length_cons]; omega
theorem parts_l0 {w h : Int} (g : GridOK w h) (L : List S41) (hL : L.length ≤ 25) : ∀ (r f i s : Nat) (acc : List Int), L.length - i = r → i ≤ L.length → r + 400 < f → acc.length ≤ i → s < 2 ^ figN w h →
    impl_grid_parts.l0 f (s : Int) acc L (L.length : Int) (i : Int) w h = some (acc ++ (partsL w h (L.drop i) s).map fun F : Nat => (F : Int)) := by
  intro r
  induction r with
  | zero =>
    intro f i s acc h1 h2 hf ha hs
    clear hs
    obtain ⟨f, rfl⟩ : ∃ z, f = z + 1 := ⟨f - 1, by omega⟩
    rw [impl_grid_parts.l0, if_neg (by omega), List.drop_of_length_le (by omega)]
    unfold partsL
    simp
  | succ r ih =>
    intro f i s acc h1 h2 hf ha hs
    have HS := Aside0.mk hs
    clear hs
    obtain ⟨f, rfl⟩ : ∃ z, f = z + 1 := ⟨f - 1, by omega⟩
    have hi : i < L.length := by omega
    have hiz : (i : Int) < (L.length : Int) := by omega
    have hw : wrap64 ((i : Int) + 1) = ((i + 1 : Nat) : Int) := by unfold wrap64; omega
    rw [impl_grid_parts.l0, if_pos hiz, if_pos (Int.natCast_nonneg _), if_pos hiz, rd36_nat L i hi, from_f g HS.out L[i] f (by omega), Option.bind_some, hw, List.drop_eq_getElem_cons hi, partsL]
    by_cases hz : partN w h s L[i] = 0
    · have hz' : ((partN w h s L[i] : Nat) : Int) = 0 := by rw [hz]; rfl
      rw [if_pos hz', if_pos hz]
      exact ih f (i + 1) s acc (by omega) (by omega) (by omega) (by omega) HS.out
    · have hz' : ¬ ((partN w h s L[i] : Nat) : Int) = 0 := fun e => hz (by exact_mod_cast e)
      rw [if_neg hz', if_neg hz, if_pos (by omega), andNot_u64 s _ (pow_figN g HS.out) (pow_figN g (partN_lt _ _ _ _))]
      rw [ih f (i + 1) _ (acc ++ [((partN w h s L[i] : Nat) : Int)]) (by omega) (by omega) (by omega) (by rw [List.length_append, List.length_singleton]; omega) (diffN_lt _ HS.out), List.append_assoc]
      rfl
theorem implParts_f {w h : Int} (g : GridOK w h) {m : Nat} (hm : m < 2 ^ figN w h) (k : Nat) (hk : 1000 < k) : impl_grid_parts.f k w h (m : Int) = some ((partsL w h (cornL w h) m).map fun F : Nat => (F : Int)) := by
  have hl := cornL_len g
  have HM := Aside0.mk hm
  clear hm
  unfold impl_grid_parts.f
  rw [corners_f g k (by omega), Option.bind_some]
  have := parts_l0 g (cornL w h) hl (cornL w h).length k 0 m [] (by omega) (by omega) (by omega) (by simp) HM.out
  rw [List.drop_zero, List.nil_append] at this
  exact this

def impl_grid_isCell.f (a0_0 : Int) (a0_1 : Int) (a1 : Int) (a2 : Int) : Option (Bool) := (impl_within.f a1 0 (wrap64 (a0_0 - 1))).bind fun t360 => (if t360 = true then ((impl_within.f a2 0 (wrap64 (a0_1 - 1))).bind fun t361 => (some t361)) else (some false))

def besT (w h x y : Int) : Int := if impl_grid_isCell.f w h x y = some true then wrap64 (wrap64 (y * w) + x) else -1
def impl_grid_beside.f (w h k : Int) : Option (Int × Int) :=
  if (1 ≤ w ∧ w ≤ 4) ∧ (1 ≤ h ∧ h ≤ 4) ∧ (0 ≤ k ∧ k ≤ 60) then
    if k < w * (h + 1) then some (besT w h (k % w) (k / w - 1), besT w h (k % w) (k / w))
    else some (besT w h ((k - w * (h + 1)) % (w + 1) - 1) ((k - w * (h + 1)) / (w + 1)), besT w h ((k - w * (h + 1)) % (w + 1)) ((k - w * (h + 1)) / (w + 1)))
  else none

def besN (w h k : Nat) : Nat × Nat := match impl_grid_beside.f (w : Int) (h : Int) (k : Int) with
  | some (a, b) => (if a < 0 then w * h else a.toNat, if b < 0 then w * h else b.toNat)
  | none => (0, 0)
def edgN (w h : Nat) : Nat := w * (h + 1) + h * (w + 1)
def dirE (w h c d : Nat) : Nat := if d = 0 then c / w * w + c % w else if d = 1 then w * (h + 1) + (c / w * (w + 1) + (c % w + 1)) else if d = 2 then (c / w + 1) * w + c % w else w * (h + 1) + (c / w * (w + 1) + c % w)
def dirN (w h c d : Nat) : Nat := if d = 0 then (if c / w = 0 then w * h else c - w) else if d = 1 then (if c % w + 1 = w then w * h else c + 1) else if d = 2 then (if c / w + 1 = h then w * h else c + w) else (if c % w = 0 then w * h else c - 1)
def endB (w h k : Nat) (a b : Nat) : Bool := decide (w * h ≤ a) || (List.range 4).any fun d => dirE w h a d == k && dirN w h a d == b
def besB (w h k : Nat) : Bool := match impl_grid_beside.f (w : Int) (h : Int) (k : Int) with
  | some (a, b) => decide (a < (w * h : Nat)) && decide (b < (w * h : Nat)) && endB w h k (besN w h k).1 (besN w h k).2 && endB w h k (besN w h k).2 (besN w h k).1
  | none => false
def dirB (w h c d : Nat) : Bool := decide (dirE w h c d < edgN w h) && decide (dirN w h c d ≤ w * h) && (besN w h (dirE w h c d) == (c, dirN w h c d) || besN w h (dirE w h c d) == (dirN w h c d, c))
def rgB (w h : Nat) : Bool := ((List.range (edgN w h)).all fun k => besB w h k) && (List.range (w * h)).all fun c => (List.range 4).all fun d => dirB w h c d
theorem rgB_11 : rgB 1 1 = true := by decide +kernel
theorem rgB_12 : rgB 1 2 = true := by decide +kernel
theorem rgB_13 : rgB 1 3 = true := by decide +kernel
theorem rgB_14 : rgB 1 4 = true := by decide +kernel
theorem rgB_21 : rgB 2 1 = true := by decide +kernel
theorem rgB_22 : rgB 2 2 = true := by decide +kernel
theorem rgB_23 : rgB 2 3 = true := by decide +kernel
theorem rgB_24 : rgB 2 4 = true := by decide +kernel
theorem rgB_31 : rgB 3 1 = true := by decide +kernel
theorem rgB_32 : rgB 3 2 = true := by decide +kernel
theorem rgB_33 : rgB 3 3 = true := by decide +kernel
theorem rgB_34 : rgB 3 4 = true := by decide +kernel
theorem rgB_41 : rgB 4 1 = true := by decide +kernel
theorem rgB_42 : rgB 4 2 = true := by decide +kernel
theorem rgB_43 : rgB 4 3 = true := by decide +kernel
theorem rgB_44 : rgB 4 4 = true := by decide +kernel
theorem rgB_all (w h : Nat) (h1 : 1 ≤ w) (h2 : w ≤ 4) (h3 : 1 ≤ h) (h4 : h ≤ 4) : rgB w h = true := by
  have cw : w = 1 ∨ w = 2 ∨ w = 3 ∨ w = 4 := by omega
  have ch : h = 1 ∨ h = 2 ∨ h = 3 ∨ h = 4 := by omega
  rcases cw with rfl | rfl | rfl | rfl <;> rcases ch with rfl | rfl | rfl | rfl
  · exact rgB_11
  · exact rgB_12
  · exact rgB_13
  · exact rgB_14
  · exact rgB_21
  · exact rgB_22
  · exact rgB_23
  · exact rgB_24
  · exact rgB_31
  · exact rgB_32
  · exact rgB_33
  · exact rgB_34
  · exact rgB_41
  · exact rgB_42
  · exact rgB_43
  · exact rgB_44
structure Grid4 (w h : Nat) : Prop where
  w1 : 1 ≤ w
  w4 : w ≤ 4
  h1 : 1 ≤ h
  h4 : h ≤ 4
theorem besI {w h : Nat} (g : Grid4 w h) {k : Nat} (hk : k < edgN w h) : ∃ a b : Int, impl_grid_beside.f (w : Int) (h : Int) (k : Int) = some (a, b) ∧ a < (w * h : Nat) ∧ b < (w * h : Nat) ∧ besN w h k = (if a < 0 then w * h else a.toNat, if b < 0 then w * h else b.toNat) := by
  have H := rgB_all w h g.w1 g.w4 g.h1 g.h4
  unfold rgB at H
  rw [Bool.and_eq_true, List.all_eq_true] at H
  have H1 := H.1 k (List.mem_range.2 hk)
  unfold besB at H1
  have e : ∀ x, impl_grid_beside.f (w : Int) (h : Int) (k : Int) = x → besN w h k = match x with
    | some (a, b) => (if a < 0 then w * h else a.toNat, if b < 0 then w * h else b.toNat)
    | none => (0, 0) := fun x hx => by unfold besN; rw [hx]
  cases hx : impl_grid_beside.f (w : Int) (h : Int) (k : Int) with
  | none => rw [hx] at H1; cases H1
  | some p =>
    obtain ⟨a, b⟩ := p
    rw [hx] at H1
    simp only [Bool.and_eq_true, decide_eq_true_eq] at H1
    exact ⟨a, b, rfl, H1.1.1.1, H1.1.1.2, e _ hx⟩
theorem besLe {w h : Nat} (g : Grid4 w h) : ∀ k, k < edgN w h → (besN w h k).1 ≤ w * h ∧ (besN w h k).2 ≤ w * h := by
  intro k hk
  obtain ⟨a, b, -, h2, h3, h4⟩ := besI g hk
  rw [h4]
  dsimp only
  constructor
  · split <;> omega
  · split <;> omega
theorem dirF {w h : Nat} (g : Grid4 w h) {c d : Nat} (hc : c < w * h) (hd : d < 4) : dirE w h c d < edgN w h ∧ dirN w h c d ≤ w * h ∧ (besN w h (dirE w h c d) = (c, dirN w h c d) ∨ besN w h (dirE w h c d) = (dirN w h c d, c)) := by
  have H := rgB_all w h g.w1 g.w4 g.h1 g.h4
  unfold rgB at H
  rw [Bool.and_eq_true, List.all_eq_true, List.all_eq_true] at H
  have H1 := H.2 c (List.mem_range.2 hc)
  rw [List.all_eq_true] at H1
  have H2 := H1 d (List.mem_range.2 hd)
  unfold dirB at H2
  simp only [Bool.and_eq_true, decide_eq_true_eq, Bool.or_eq_true, beq_iff_eq] at H2
  exact ⟨H2.1.1, H2.1.2, H2.2⟩
theorem dirAdj {w h m : Nat} (g : Grid4 w h) {a b : Nat} (ha : a < w * h) : AdjM (besN w h) m (edgN w h) a b ↔ ∃ d, d < 4 ∧ m.testBit (dirE w h a d) = false ∧ dirN w h a d = b := by
  constructor
  · rintro ⟨k, hk, hm, hB⟩
    have H := rgB_all w h g.w1 g.w4 g.h1 g.h4
    unfold rgB at H
    rw [Bool.and_eq_true, List.all_eq_true] at H
    have H1 := H.1 k (List.mem_range.2 hk)
    unfold besB at H1
    cases hx : impl_grid_beside.f (w : Int) (h : Int) (k : Int) with
    | none => rw [hx] at H1; cases H1
    | some p =>
      obtain ⟨x, y⟩ := p
      rw [hx] at H1
      simp only [Bool.and_eq_true, decide_eq_true_eq] at H1
      have H2 : endB w h k a b = true := by
        rcases hB with e | e
        · have := H1.1.2; rw [e] at this; exact this
        · have := H1.2; rw [e] at this; exact this
      unfold endB at H2
      simp only [Bool.or_eq_true, decide_eq_true_eq, List.any_eq_true, Bool.and_eq_true, beq_iff_eq, List.mem_range] at H2
      rcases H2 with H2 | ⟨d, h1, h2, h3⟩
      · omega
      · exact ⟨d, h1, by rw [h2]; exact hm, h3⟩
  · rintro ⟨d, hd, hm, rfl⟩
    obtain ⟨h1, h2, h3⟩ := dirF g ha hd
    exact ⟨_, h1, hm, h3⟩

end Go.Proofs.Yteaglkpplgbpaaa.P
namespace Go.Proofs.Yteaglkpplgbpaaa.P
open Go.RowKit Go.Proofs.YteaglkpplgbpaaaW.PrintWords Go.Proofs.YteaglkpplgbpaaaW.PrintLast Go.Proofs.YteaglkpplgbpaaaW.PrintMore
attribute [local go_sem] max2_int min2_int max_two min_two max_three min_three max_four min_four   -- for this text's walks alone
set_option linter.unusedVariables false
set_option linter.unusedSimpArgs false

noncomputable def dcB (p : Prop) : Bool := @decide p (Classical.propDecidable p)
theorem dcB_iff {p : Prop} : dcB p = true ↔ p := @decide_eq_true_iff p (Classical.propDecidable p)
theorem dcB_no {p : Prop} (h : ¬ p) : dcB p = false := by
 rw [Bool.eq_false_iff]; exact fun q => h (dcB_iff.1 q)
def e1N (w h k : Nat) : Nat := if k < w * (h + 1) then k / w * (w + 1) + k % w else k - w * (h + 1)
def e2N (w h k : Nat) : Nat := if k < w * (h + 1) then k / w * (w + 1) + k % w + 1 else k - w * (h + 1) + (w + 1)
def c1N (w h k : Nat) : Nat := if k < w * (h + 1) then (if k / w = 0 then w * h else (k / w - 1) * w + k % w) else (if (k - w * (h + 1)) % (w + 1) = 0 then w * h else (k - w * (h + 1)) / (w + 1) * w + (k - w * (h + 1)) % (w + 1) - 1)
def c2N (w h k : Nat) : Nat := if k < w * (h + 1) then (if k / w = h then w * h else k / w * w + k % w) else (if (k - w * (h + 1)) % (w + 1) = w then w * h else (k - w * (h + 1)) / (w + 1) * w + (k - w * (h + 1)) % (w + 1))
def fmN (w h c j : Nat) : Bool := decide (c < w * h) && (decide (w * (h + 1) ≤ j) && (((j - w * (h + 1)) / (w + 1) == c / w) && decide ((j - w * (h + 1)) % (w + 1) ≤ c % w)))
def vN (w h k p : Nat) : Bool := if k < w * (h + 1) then (p / (w + 1) == k / w) && decide (p % (w + 1) ≤ k % w) else ((k - w * (h + 1)) % (w + 1) == w) && decide (p / (w + 1) ≤ (k - w * (h + 1)) / (w + 1))
def netB0 (w h : Nat) : Bool := ((List.range (edgN w h)).all fun k => decide (e1N w h k < (w + 1) * (h + 1)) && decide (e2N w h k < (w + 1) * (h + 1)) && decide (c1N w h k < w * h + 1) && decide (c2N w h k < w * h + 1) && (besN w h k == (c1N w h k, c2N w h k))) && (List.range (w * h + 1)).all fun c => c == 0 || (List.range (edgN w h)).any fun k => ((c1N w h k == c) && decide (c2N w h k < c)) || ((c2N w h k == c) && decide (c1N w h k < c))
def netB1 (w h : Nat) : Bool := (List.range (w * h + 1)).all fun c => (List.range ((w + 1) * (h + 1))).all fun p => !xsN (fun k => incE (c1N w h) (c2N w h) k c && incE (e1N w h) (e2N w h) k p) (edgN w h)
def netB2 (w h : Nat) : Bool := (List.range (edgN w h)).all fun k => (List.range (edgN w h)).all fun j => xor (k == j) (xor (fmN w h (c1N w h k) j) (fmN w h (c2N w h k) j)) == xsN (fun p => vN w h k p && incE (e1N w h) (e2N w h) j p) ((w + 1) * (h + 1))
def netB (w h : Nat) : Bool := netB0 w h && (netB1 w h && netB2 w h)
theorem netB_11 : netB 1 1 = true := by decide +kernel
theorem netB_12 : netB 1 2 = true := by decide +kernel
theorem netB_13 : netB 1 3 = true := by decide +kernel
theorem netB_14 : netB 1 4 = true := by decide +kernel
theorem netB_21 : netB 2 1 = true := by decide +kernel
theorem netB_22 : netB 2 2 = true := by decide +kernel
theorem netB_23 : netB 2 3 = true := by decide +kernel
theorem netB_24 : netB 2 4 = true := by decide +kernel
theorem netB_31 : netB 3 1 = true := by decide +kernel
theorem netB_32 : netB 3 2 = true := by decide +kernel
theorem netB_33 : netB 3 3 = true := by decide +kernel
theorem netB_34 : netB 3 4 = true := by decide +kernel
theorem netB_41 : netB 4 1 = true := by decide +kernel
theorem netB_42 : netB 4 2 = true := by decide +kernel
theorem netB_43 : netB 4 3 = true := by decide +kernel
theorem netB_44 : netB 4 4 = true := by decide +kernel
theorem netB_all {w h : Nat} (g : Grid4 w h) : netB w h = true := by
 have cw : w = 1 ∨ w = 2 ∨ w = 3 ∨ w = 4 := by have := g.w1; have := g.w4; omega
 have ch : h = 1 ∨ h = 2 ∨ h = 3 ∨ h = 4 := by have := g.h1; have := g.h4; omega
 clear g
 rcases cw with rfl | rfl | rfl | rfl <;> rcases ch with rfl | rfl | rfl | rfl
 ·exact netB_11
 ·exact netB_12
 ·exact netB_13
 ·exact netB_14
 ·exact netB_21
 ·exact netB_22
 ·exact netB_23
 ·exact netB_24
 ·exact netB_31
 ·exact netB_32
 ·exact netB_33
 ·exact netB_34
 ·exact netB_41
 ·exact netB_42
 ·exact netB_43
 ·exact netB_44
theorem net_k {w h : Nat} (g : Grid4 w h) {k : Nat} (hk : k < edgN w h) : e1N w h k < (w + 1) * (h + 1) ∧ e2N w h k < (w + 1) * (h + 1) ∧ c1N w h k < w * h + 1 ∧ c2N w h k < w * h + 1 ∧ besN w h k = (c1N w h k, c2N w h k) := by
 have H := netB_all g
 unfold netB netB0 at H
 rw [Bool.and_eq_true, Bool.and_eq_true, List.all_eq_true] at H
 have H1 := H.1.1 k (List.mem_range.2 hk)
 simp only [Bool.and_eq_true, decide_eq_true_eq, beq_iff_eq] at H1
 exact ⟨H1.1.1.1.1, H1.1.1.1.2, H1.1.1.2, H1.1.2, H1.2⟩
theorem net_of {w h : Nat} (g : Grid4 w h) : Net (e1N w h) (e2N w h) (c1N w h) (c2N w h) (edgN w h) ((w + 1) * (h + 1)) (w * h + 1) (fmN w h) (vN w h) where
 v1 k hk := (net_k g hk).1
 v2 k hk := (net_k g hk).2.1
 f1 k hk := (net_k g hk).2.2.1
 f2 k hk := (net_k g hk).2.2.2.1
 pos := Nat.succ_pos _
 L0 c h0 hc := by
  have H := netB_all g
  unfold netB netB0 at H
  rw [Bool.and_eq_true, Bool.and_eq_true, List.all_eq_true, List.all_eq_true] at H
  have H1 := H.1.2 c (List.mem_range.2 hc)
  rw [Bool.or_eq_true, beq_iff_eq, List.any_eq_true] at H1
  rcases H1 with H1 | ⟨k, hk, H1⟩
  ·omega
  ·simp only [Bool.or_eq_true, Bool.and_eq_true, beq_iff_eq, decide_eq_true_eq] at H1
   exact ⟨k, List.mem_range.1 hk, H1⟩
 L1 c p hc hp := by
  have H := netB_all g
  unfold netB netB1 at H
  rw [Bool.and_eq_true, Bool.and_eq_true, List.all_eq_true] at H
  have H1 := H.2.1 c (List.mem_range.2 hc)
  rw [List.all_eq_true] at H1
  have H2 := H1 p (List.mem_range.2 hp)
  rw [Bool.not_eq_true'] at H2
  exact H2
 L2 k j hk hj := by
  have H := netB_all g
  unfold netB netB2 at H
  rw [Bool.and_eq_true, Bool.and_eq_true, List.all_eq_true] at H
  have H1 := H.2.2 k (List.mem_range.2 hk)
  rw [List.all_eq_true] at H1
  have H2 := H1 j (List.mem_range.2 hj)
  rw [beq_iff_eq] at H2
  exact H2
def numV (w : Int) (c : S41) : Nat := (c.f1 * (w + 1) + c.f0).toNat
theorem mem_cornL {w h : Int} {c : S41} (hc : inC w h c.f0 c.f1) : c ∈ cornL w h := by
 obtain ⟨⟨h1, h2⟩, h3, h4⟩ := hc
 unfold cornL
 rw [List.mem_flatMap]
 refine ⟨c.f1.toNat, List.mem_range.2 (by omega), List.mem_map.2 ⟨c.f0.toNat, List.mem_range.2 (by omega), ?_⟩⟩
 obtain ⟨x, y⟩ := c
 simp only at *
 rw [Int.toNat_of_nonneg h1, Int.toNat_of_nonneg h3]
theorem numV_inj {w h : Int} (g : GridOK w h) {c d : S41} (hc : inC w h c.f0 c.f1) (hd : inC w h d.f0 d.f1) (he : numV w c = numV w d) : c = d := by
 obtain ⟨⟨h1, h2⟩, h3, h4⟩ := hc
 obtain ⟨⟨h1', h2'⟩, h3', h4'⟩ := hd
 have cw := (grid_cases g).1
 obtain ⟨x, y⟩ := c
 obtain ⟨x', y'⟩ := d
 simp only [numV] at *
 have : x = x' ∧ y = y' := lev_uniq (w := w + 1) (by omega) h1 (by omega) h3 h1' (by omega) h3' he
 rw [this.1, this.2]
def crB (w h : Nat) : Bool := (((cornL (w : Int) (h : Int)).map (numV (w : Int))) == List.range ((w + 1) * (h + 1))) && ((cornL (w : Int) (h : Int)).all fun c => dirs4.all fun d => match edC (w : Int) (h : Int) c d with | none => true | some e => ((e1N w h e == numV (w : Int) c) && (e2N w h e == numV (w : Int) (nxC c d))) || ((e2N w h e == numV (w : Int) c) && (e1N w h e == numV (w : Int) (nxC c d)))) && (List.range (edgN w h)).all fun e => !(e1N w h e == e2N w h e) && (cornL (w : Int) (h : Int)).any fun c => dirs4.any fun d => (edC (w : Int) (h : Int) c d == some e) && (numV (w : Int) c == e1N w h e) && (numV (w : Int) (nxC c d) == e2N w h e)
theorem crB_all {w h : Nat} (g : Grid4 w h) : crB w h = true := by
 have cw : w = 1 ∨ w = 2 ∨ w = 3 ∨ w = 4 := by have := g.w1; have := g.w4; omega
 have ch : h = 1 ∨ h = 2 ∨ h = 3 ∨ h = 4 := by have := g.h1; have := g.h4; omega
 clear g
 rcases cw with rfl | rfl | rfl | rfl <;> rcases ch with rfl | rfl | rfl | rfl <;> decide +kernel
theorem cr_nums {w h : Nat} (g : Grid4 w h) : (cornL (w : Int) (h : Int)).map (numV (w : Int)) = List.range ((w + 1) * (h + 1)) := by
 have H := crB_all g
 unfold crB at H
 rw [Bool.and_eq_true, Bool.and_eq_true, beq_iff_eq] at H
 exact H.1.1
theorem dirs4_mem {d : Int} (hd : four4 d) : d ∈ dirs4 := by
 unfold dirs4
 rcases hd with rfl | rfl | rfl | rfl <;> simp
theorem cr_ends {w h : Nat} (g : Grid4 w h) {c : S41} {d : Int} {e : Nat} (hd : four4 d) (he : edC (w : Int) (h : Int) c d = some e) : (e1N w h e = numV (w : Int) c ∧ e2N w h e = numV (w : Int) (nxC c d)) ∨ (e2N w h e = numV (w : Int) c ∧ e1N w h e = numV (w : Int) (nxC c d)) := by
 have H := crB_all g
 unfold crB at H
 rw [Bool.and_eq_true, Bool.and_eq_true, List.all_eq_true] at H
 have H1 := H.1.2 c (mem_cornL (grid_in he))
 rw [List.all_eq_true] at H1
 have H2 := H1 d (dirs4_mem hd)
 rw [he] at H2
 simp only [Bool.or_eq_true, Bool.and_eq_true, beq_iff_eq] at H2
 exact H2
theorem cr_edge {w h : Nat} (g : Grid4 w h) {e : Nat} (he : e < edgN w h) : e1N w h e ≠ e2N w h e ∧ ∃ c d, four4 d ∧ edC (w : Int) (h : Int) c d = some e ∧ numV (w : Int) c = e1N w h e ∧ numV (w : Int) (nxC c d) = e2N w h e := by
 have H := crB_all g
 unfold crB at H
 rw [Bool.and_eq_true, Bool.and_eq_true, List.all_eq_true, List.all_eq_true] at H
 have H1 := H.2 e (List.mem_range.2 he)
 rw [Bool.and_eq_true, Bool.not_eq_true', beq_eq_false_iff_ne, List.any_eq_true] at H1
 obtain ⟨h1, c, _, h2⟩ := H1
 rw [List.any_eq_true] at h2
 obtain ⟨d, hd, h2⟩ := h2
 simp only [Bool.and_eq_true, beq_iff_eq] at h2
 exact ⟨h1, c, d, dirs4_four d hd, h2.1.1, h2.1.2, h2.2⟩
theorem edg_fig (w h : Nat) : figN (w : Int) (h : Int) = edgN w h := by
 unfold figN edgN
 have e1 : ((w : Int) * ((h : Int) + 1)) = ((w * (h + 1) : Nat) : Int) := by push_cast; rfl
 have e2 : ((h : Int) * ((w : Int) + 1)) = ((h * (w + 1) : Nat) : Int) := by push_cast; rfl
 rw [e1, e2]
 simp only [Int.toNat_natCast]
section
variable {w h : Nat}
theorem reach_conn (g : Grid4 w h) (G : GridOK (w : Int) (h : Int)) {m : Nat} {c p : S41} (hr : Reach (w : Int) (h : Int) m c p) : Conn (RelE (e1N w h) (e2N w h) (edgN w h) (upT m (edgN w h))) (numV (w : Int) c) (numV (w : Int) p) := by
 induction hr with
 | refl => exact .refl
 | step _ hd he hm ih =>
  have hlt := ed_lt G hd he
  rw [edg_fig] at hlt
  refine ih.step ⟨_, hlt, by unfold upT; rw [decide_eq_true hlt, hm]; rfl, ?_⟩
  rcases cr_ends g hd he with q | q
  ·exact .inl q
  ·exact .inr ⟨q.2, q.1⟩
theorem conn_reach (g : Grid4 w h) (G : GridOK (w : Int) (h : Int)) {m : Nat} {c : S41} (hc : inC (w : Int) (h : Int) c.f0 c.f1) {x : Nat} (hr : Conn (RelE (e1N w h) (e2N w h) (edgN w h) (upT m (edgN w h))) (numV (w : Int) c) x) : ∃ p, inC (w : Int) (h : Int) p.f0 p.f1 ∧ numV (w : Int) p = x ∧ Reach (w : Int) (h : Int) m c p := by
 induction hr with
 | refl => exact ⟨c, hc, rfl, .refl⟩
 | step _ h2 ih =>
  obtain ⟨p, p1, p2, p3⟩ := ih
  obtain ⟨k, hk, hm, hends⟩ := h2
  unfold upT at hm
  rw [Bool.and_eq_true] at hm
  obtain ⟨hne, q, d, hd, he, n1, n2⟩ := cr_edge g hk
  have hq := grid_in he
  have hq2 := next_in hd he
  rcases hends with ⟨e1, e2⟩ | ⟨e1, e2⟩
  ·have : p = q := numV_inj G p1 hq (by rw [p2, n1, e1])
   subst this
   exact ⟨nxC p d, hq2, by rw [n2, e2], .step p3 hd he hm.2⟩
  ·have : p = nxC q d := numV_inj G p1 hq2 (by rw [p2, n2, e2])
   subst this
   obtain ⟨d', hd', he'⟩ := ed_back hd he
   refine ⟨nxC (nxC q d) d', next_in hd' he', ?_, .step p3 hd' he' hm.2⟩
   rcases cr_ends g hd' he' with ⟨z1, z2⟩ | ⟨z1, z2⟩
   ·exact absurd (by rw [z1, n2] : e1N w h k = e2N w h k) hne
   ·rw [← z2, e1]
theorem reach_iff (g : Grid4 w h) (G : GridOK (w : Int) (h : Int)) {m : Nat} {c p : S41} (hc : inC (w : Int) (h : Int) c.f0 c.f1) (hp : inC (w : Int) (h : Int) p.f0 p.f1) : Reach (w : Int) (h : Int) m c p ↔ Conn (RelE (e1N w h) (e2N w h) (edgN w h) (upT m (edgN w h))) (numV (w : Int) c) (numV (w : Int) p) := by
 refine ⟨reach_conn g G, fun q => ?_⟩
 obtain ⟨p', h1, h2, h3⟩ := conn_reach g G hc q
 rw [numV_inj G h1 hp h2] at h3
 exact h3
end
section
variable {w h : Int}
theorem reach_of_inc (g : GridOK w h) {m : Nat} {c x : S41} {d : Int} {e : Nat} (hd : four4 d) (he : edC w h x d = some e) (hi : Inc w h m c e) : Reach w h m c x := by
 obtain ⟨hm, p, d', hp, hd', he'⟩ := hi
 rcases ends_two g hd' hd he' he with rfl | rfl
 ·exact hp
 ·exact .step hp hd' he' hm
theorem diff_part (g : GridOK w h) {m : Nat} {c : S41} {e : Nat} : (diffN m (partN w h m c)).testBit e = true ↔ m.testBit e = true ∧ ¬ Inc w h m c e := by
 rw [diffN_test, Bool.and_eq_true, ← partN_test g, Bool.not_eq_true', Bool.not_eq_true]
theorem used_diff (g : GridOK w h) {m : Nat} {c x : S41} : UsedC w h (diffN m (partN w h m c)) x ↔ UsedC w h m x ∧ ¬ Reach w h m c x := by
 constructor
 ·rintro ⟨d, e, hd, he, hm⟩
  have hm := (diff_part g).1 hm
  exact ⟨⟨d, e, hd, he, hm.1⟩, fun q => hm.2 ⟨hm.1, x, d, q, hd, he⟩⟩
 ·rintro ⟨⟨d, e, hd, he, hm⟩, hn⟩
  exact ⟨d, e, hd, he, (diff_part g).2 ⟨hm, fun q => hn (reach_of_inc g hd he q)⟩⟩
theorem reach_less (g : GridOK w h) {m : Nat} {c a b : S41} (hr : Reach w h (diffN m (partN w h m c)) a b) : Reach w h m a b := by
 induction hr with
 | refl => exact .refl
 | step _ hd he hm ih => exact .step ih hd he ((diff_part g).1 hm).1
theorem reach_keep (g : GridOK w h) {m : Nat} {c a b : S41} (hr : Reach w h m a b) (hn : ¬ Reach w h m c b) : Reach w h (diffN m (partN w h m c)) a b := by
 induction hr with
 | refl => exact .refl
 | step h1 hd he hm ih =>
  have hn2 : ¬ Reach w h m c _ := fun q => hn (.step q hd he hm)
  exact .step (ih hn2) hd he ((diff_part g).2 ⟨hm, fun q => hn2 (reach_of_inc g hd he q)⟩)
theorem reach_used (g : GridOK w h) {m : Nat} {a b : S41} (hr : Reach w h m a b) (hu : ¬ UsedC w h m b) : a = b := by
 cases hr with
 | refl => rfl
 | step _ hd he hm =>
  obtain ⟨d', hd', he'⟩ := ed_back hd he
  exact absurd ⟨d', _, hd', he', hm⟩ hu
theorem reach_used2 {m : Nat} {a b : S41} (hr : Reach w h m a b) (hu : ¬ UsedC w h m a) : b = a := by
 induction hr with
 | refl => rfl
 | step _ hd he hm ih =>
  subst ih
  exact absurd ⟨_, _, hd, he, hm⟩ hu
theorem countP_split (p q : S41 → Bool) : ∀ r : List S41, r.countP p = (r.countP fun c => p c && q c) + r.countP fun c => p c && !q c
 | [] => rfl
 | c :: r => by
  rw [List.countP_cons, List.countP_cons, List.countP_cons, countP_split p q r]
  cases p c <;> cases q c <;> simp <;> omega
noncomputable def rootC (w h : Int) (m : Nat) (r : List S41) (c : S41) : Bool := dcB (∀ u ∈ r, numV w u < numV w c → ¬ Reach w h m u c)
theorem parts_count (g : GridOK w h) : ∀ (r : List S41) (s : Nat), r.Pairwise (fun a b => numV w a < numV w b) → (partsL w h r s).length + (r.countP fun c => !dcB (UsedC w h s c)) = r.countP (rootC w h s r)
 | [], s, _ => rfl
 | c :: r, s, hs => by
  obtain ⟨hc, hr⟩ := List.pairwise_cons.1 hs
  have hroot : rootC w h s (c :: r) c = true := by
   refine dcB_iff.2 fun u hu hlt _ => ?_
   rcases List.mem_cons.1 hu with rfl | hu
   ·omega
   ·have := hc u hu; omega
  have hiff : ∀ x ∈ r, (rootC w h s (c :: r) x = true ↔ (rootC w h s r x = true ∧ ¬ Reach w h s c x)) := by
   intro x hx
   unfold rootC
   rw [dcB_iff, dcB_iff]
   constructor
   ·intro q
    exact ⟨fun u hu => q u (List.mem_cons_of_mem _ hu), q c List.mem_cons_self (hc x hx)⟩
   ·rintro ⟨q1, q2⟩ u hu hlt
    rcases List.mem_cons.1 hu with rfl | hu
    ·exact q2
    ·exact q1 u hu hlt
  rw [List.countP_cons, List.countP_cons, hroot, if_pos rfl]
  by_cases hu : UsedC w h s c
  ·have hp := part_some g hu
   rw [partsL, if_neg hp, List.length_cons, dcB_iff.2 hu]
   have ih := parts_count g r (diffN s (partN w h s c)) hr
   let q : S41 → Bool := fun x => dcB (Reach w h s c x)
   have hq : ∀ x, q x = true ↔ Reach w h s c x := fun x => dcB_iff
   generalize q = q at hq
   rw [countP_split (rootC w h (diffN s (partN w h s c)) r) q r, countP_split (fun x => !dcB (UsedC w h (diffN s (partN w h s c)) x)) q r] at ih
   have e1 : (r.countP fun x => rootC w h (diffN s (partN w h s c)) r x && q x) = r.countP fun x => (!dcB (UsedC w h (diffN s (partN w h s c)) x)) && q x := by
    refine List.countP_congr fun x hx => ?_
    rw [Bool.and_eq_true, Bool.and_eq_true]
    constructor
    ·rintro ⟨_, h2⟩
     refine ⟨?_, h2⟩
     rw [dcB_no (fun z => ((used_diff g).1 z).2 ((hq x).1 h2))]
     rfl
    ·rintro ⟨_, h2⟩
     refine ⟨dcB_iff.2 fun u hu hlt hreach => ?_, h2⟩
     have := reach_used g hreach (fun z => ((used_diff g).1 z).2 ((hq x).1 h2))
     subst this
     omega
   have e2 : (r.countP fun x => rootC w h (diffN s (partN w h s c)) r x && !q x) = r.countP (rootC w h s (c :: r)) := by
    refine List.countP_congr fun x hx => ?_
    rw [hiff x hx, Bool.and_eq_true]
    have hqx := hq x
    constructor
    ·rintro ⟨h1, h2⟩
     have hn : ¬ Reach w h s c x := fun z => by rw [(hqx).2 z] at h2; cases h2
     exact ⟨dcB_iff.2 fun u hu hlt hz => dcB_iff.1 h1 u hu hlt (reach_keep g hz hn), hn⟩
    ·rintro ⟨h1, hn⟩
     refine ⟨dcB_iff.2 fun u hu hlt hz => dcB_iff.1 h1 u hu hlt (reach_less g hz), ?_⟩
     cases hc : q x with
     | false => rfl
     | true => exact absurd ((hqx).1 hc) hn
   have e3 : (r.countP fun x => (!dcB (UsedC w h (diffN s (partN w h s c)) x)) && !q x) = r.countP fun x => !dcB (UsedC w h s x) := by
    refine List.countP_congr fun x hx => ?_
    have hqx := hq x
    rw [Bool.and_eq_true, Bool.not_eq_true', Bool.not_eq_true', Bool.not_eq_true']
    constructor
    ·rintro ⟨h1, h2⟩
     have hn : ¬ Reach w h s c x := fun z => by rw [(hqx).2 z] at h2; cases h2
     refine dcB_no fun z => ?_
     rw [dcB_iff.2 ((used_diff g).2 ⟨z, hn⟩)] at h1
     cases h1
    ·intro h1
     have hnu : ¬ UsedC w h s x := fun z => by rw [dcB_iff.2 z] at h1; cases h1
     refine ⟨dcB_no fun z => hnu ((used_diff g).1 z).1, ?_⟩
     cases hc2 : q x with
     | false => rfl
     | true =>
      have := reach_used g ((hqx).1 hc2) hnu
      subst this
      exact absurd hu hnu
   rw [e1, e2, e3] at ih
   simp only [Bool.not_true, if_false, Nat.add_zero, Bool.false_eq_true]
   omega
  ·have hp := part_none g hu
   rw [partsL, if_pos hp, dcB_no hu]
   have ih := parts_count g r s hr
   have e2 : r.countP (rootC w h s (c :: r)) = r.countP (rootC w h s r) := by
    refine List.countP_congr fun x hx => ?_
    rw [hiff x hx]
    refine ⟨fun q => q.1, fun q => ⟨q, fun z => ?_⟩⟩
    have := reach_used2 z hu
    subst this
    have := hc x hx
    omega
   rw [e2, ← ih]
   simp
   omega
end

end Go.Proofs.Yteaglkpplgbpaaa.P
namespace Go.Proofs.Yteaglkpplgbpaaa.P
open Go.RowKit Go.Proofs.YteaglkpplgbpaaaW.PrintWords Go.Proofs.YteaglkpplgbpaaaW.PrintLast Go.Proofs.YteaglkpplgbpaaaW.PrintMore
attribute [local go_sem] max2_int min2_int max_two min_two max_three min_three max_four min_four   -- for this text's walks alone
set_option linter.unusedVariables false
set_option linter.unusedSimpArgs false

def popB : Nat → Nat → Nat
 | 0, _ => 0
 | n + 1, X => X % 2 + popB n (X / 2)
def horn : List Nat → Nat
 | [] => 0
 | b :: l => b + 256 * horn l
def bytesN : Nat → Nat → List Nat
 | 0, _ => []
 | n + 1, X => X % 256 :: bytesN n (X / 256)
def repN (c : Nat) : Nat → Nat
 | 0 => 0
 | n + 1 => c + 256 * repN c n
theorem horn_bytes : ∀ (n X : Nat), X < 256 ^ n → horn (bytesN n X) = X
 | 0, X, h => by simp at h; subst h; rfl
 | n + 1, X, h => by
  have h2 : X / 256 < 256 ^ n := by rw [Nat.pow_succ] at h; exact Nat.div_lt_of_lt_mul (by rw [Nat.mul_comm]; exact h)
  rw [bytesN, horn, horn_bytes n _ h2]
  omega
theorem bytes_lt : ∀ (n X : Nat), ∀ b ∈ bytesN n X, b < 256
 | 0, X, b, h => by cases h
 | n + 1, X, b, h => by
  rw [bytesN] at h
  rcases List.mem_cons.1 h with rfl | h
  ·exact Nat.mod_lt _ (by decide)
  ·exact bytes_lt n _ b h
theorem bytes_length : ∀ (n X : Nat), (bytesN n X).length = n
 | 0, X => rfl
 | n + 1, X => by rw [bytesN, List.length_cons, bytes_length n]
theorem horn_lt : ∀ (l : List Nat), (∀ b ∈ l, b < 256) → horn l < 256 ^ l.length
 | [], _ => by decide
 | b :: l, h => by
  have h1 := horn_lt l (fun x hx => h x (List.mem_cons_of_mem _ hx))
  have h2 := h b List.mem_cons_self
  rw [horn, List.length_cons, Nat.pow_succ]
  omega
theorem and_split (b Y c C : Nat) (hb : b < 256) (hc : c < 256) : ((b + 256 * Y) &&& (c + 256 * C)) = (b &&& c) + 256 * (Y &&& C) := by
 have h1 := Nat.and_mod_two_pow (a := b + 256 * Y) (b := c + 256 * C) (n := 8)
 have h2 := Nat.and_div_two_pow (a := b + 256 * Y) (b := c + 256 * C) (n := 8)
 rw [show (2 ^ 8 : Nat) = 256 from rfl] at h1 h2
 rw [show (b + 256 * Y) % 256 = b by omega, show (c + 256 * C) % 256 = c by omega] at h1
 rw [show (b + 256 * Y) / 256 = Y by omega, show (c + 256 * C) / 256 = C by omega] at h2
 rw [← h1, ← h2]
 omega
def t1 (b : Nat) : Nat := (b / 2 &&& 85) + (b &&& 85)
def t2 (b : Nat) : Nat := (b / 4 &&& 51) + (b &&& 51)
def t3 (b : Nat) : Nat := (b / 16 + b) &&& 15
theorem t1_low : ∀ b, b < 256 → ∀ e, e < 2 → ((b / 2 + 128 * e) &&& 85) = (b / 2 &&& 85) := by decide +kernel
theorem t2_low : ∀ b, b < 256 → ∀ e, e < 4 → ((b / 4 + 64 * e) &&& 51) = (b / 4 &&& 51) := by decide +kernel
theorem t3_low : ∀ b, b < 256 → b % 16 ≤ 4 → b / 16 ≤ 4 → ∀ e, e < 5 → ((b / 16 + 16 * e + b) &&& 15) = t3 b ∧ b / 16 + 16 * e + b < 256 := by decide +kernel
theorem t_all : ∀ b, b < 256 → t1 b < 256 ∧ t2 (t1 b) < 256 ∧ t2 (t1 b) % 16 ≤ 4 ∧ t2 (t1 b) / 16 ≤ 4 ∧ t3 (t2 (t1 b)) = popB 8 b ∧ popB 8 b ≤ 8 := by decide +kernel
theorem s1_horn : ∀ l : List Nat, (∀ b ∈ l, b < 256) → ((horn l / 2) &&& repN 85 l.length) + (horn l &&& repN 85 l.length) = horn (l.map t1)
 | [], _ => by decide
 | b :: l, h => by
  have ih := s1_horn l (fun x hx => h x (List.mem_cons_of_mem _ hx))
  have hb := h b List.mem_cons_self
  rw [List.length_cons, repN, horn, List.map_cons, horn, ← ih, show (b + 256 * horn l) / 2 = (b / 2 + 128 * (horn l % 2)) + 256 * (horn l / 2) by omega, and_split _ _ _ _ (by omega) (by decide), and_split _ _ _ _ hb (by decide), t1_low b hb _ (Nat.mod_lt _ (by decide)), t1]
  generalize (b / 2 &&& 85) = p; generalize (b &&& 85) = q; generalize (horn l / 2 &&& repN 85 l.length) = r; generalize (horn l &&& repN 85 l.length) = s
  omega
theorem s2_horn : ∀ l : List Nat, (∀ b ∈ l, b < 256) → ((horn l / 4) &&& repN 51 l.length) + (horn l &&& repN 51 l.length) = horn (l.map t2)
 | [], _ => by decide
 | b :: l, h => by
  have ih := s2_horn l (fun x hx => h x (List.mem_cons_of_mem _ hx))
  have hb := h b List.mem_cons_self
  rw [List.length_cons, repN, horn, List.map_cons, horn, ← ih, show (b + 256 * horn l) / 4 = (b / 4 + 64 * (horn l % 4)) + 256 * (horn l / 4) by omega, and_split _ _ _ _ (by omega) (by decide), and_split _ _ _ _ hb (by decide), t2_low b hb _ (Nat.mod_lt _ (by decide)), t2]
  generalize (b / 4 &&& 51) = p; generalize (b &&& 51) = q; generalize (horn l / 4 &&& repN 51 l.length) = r; generalize (horn l &&& repN 51 l.length) = s
  omega
theorem s3_horn : ∀ l : List Nat, (∀ b ∈ l, b < 256 ∧ b % 16 ≤ 4 ∧ b / 16 ≤ 4) → ((horn l / 16 + horn l) &&& repN 15 l.length) = horn (l.map t3) ∧ horn l % 16 ≤ 4
 | [], _ => by decide
 | b :: l, h => by
  obtain ⟨ih, ih2⟩ := s3_horn l (fun x hx => h x (List.mem_cons_of_mem _ hx))
  obtain ⟨hb, hb1, hb2⟩ := h b List.mem_cons_self
  obtain ⟨q1, q2⟩ := t3_low b hb hb1 hb2 (horn l % 16) (by omega)
  refine ⟨?_, by rw [horn]; omega⟩
  rw [List.length_cons, repN, horn, List.map_cons, horn, ← ih, show (b + 256 * horn l) / 16 + (b + 256 * horn l) = (b / 16 + 16 * (horn l % 16) + b) + 256 * (horn l / 16 + horn l) by omega, and_split _ _ _ _ q2 (by decide), q1]
theorem popB_add : ∀ (n m X : Nat), popB (n + m) X = popB n X + popB m (X / 2 ^ n)
 | 0, m, X => by rw [Nat.zero_add, Nat.pow_zero, Nat.div_one, popB, Nat.zero_add]
 | n + 1, m, X => by rw [Nat.add_right_comm, popB, popB, popB_add n m, Nat.div_div_eq_div_mul, Nat.pow_succ, Nat.mul_comm 2, Nat.add_assoc]
theorem popB_mod : ∀ (n X : Nat), popB n (X % 2 ^ n) = popB n X
 | 0, X => rfl
 | n + 1, X => by
  rw [popB, popB, ← popB_mod n (X / 2)]
  have h : X % 2 ^ (n + 1) = X % 2 + 2 * (X / 2 % 2 ^ n) := by rw [Nat.pow_succ, Nat.mul_comm, Nat.mod_mul]
  rw [h, show (X % 2 + 2 * (X / 2 % 2 ^ n)) % 2 = X % 2 by omega, show (X % 2 + 2 * (X / 2 % 2 ^ n)) / 2 = X / 2 % 2 ^ n by omega]
theorem popB_bytes : ∀ (n X : Nat), popB (8 * n) X = ((bytesN n X).map (popB 8)).sum
 | 0, X => rfl
 | n + 1, X => by
  rw [show 8 * (n + 1) = 8 + 8 * n by omega, popB_add, bytesN, List.map_cons, List.sum_cons, popB_bytes n, ← popB_mod 8 X]
theorem popB_zero : ∀ n, popB n 0 = 0
 | 0 => rfl
 | n + 1 => by rw [popB, popB_zero n]
theorem popB_le : ∀ n X, popB n X ≤ n
 | 0, _ => Nat.le_refl _
 | n + 1, X => by have := popB_le n (X / 2); rw [popB]; omega
theorem u64_all (n : Int) (h0 : 0 ≤ n) (h1 : n < 2 ^ 64) : IntKind.u64.wrap n = n := by
 first
 | (rw [IntKind.wrap_u64]; omega)
 | (unfold IntKind.wrap; simp [IntKind.bits, IntKind.signed]; omega)
theorem and_u64_all (a b : Nat) (ha : a < 2 ^ 64) (hb : b < 2 ^ 64) : Go.bits .and .u64 (a : Int) (b : Int) = ((a &&& b : Nat) : Int) := (bits_nat .u64 64 (by decide) u64_all a b ha hb).1
theorem rep85 : repN 85 8 = 6148914691236517205 := by decide
theorem rep51 : repN 51 8 = 3689348814741910323 := by decide
theorem rep15 : repN 15 8 = 1085102592571150095 := by decide
theorem ones_end8 (c0 c1 c2 c3 c4 c5 c6 c7 : Nat) (m0 : c0 ≤ 8) (m1 : c1 ≤ 8) (m2 : c2 ≤ 8) (m3 : c3 ≤ 8) (m4 : c4 ≤ 8) (m5 : c5 ≤ 8) (m6 : c6 ≤ 8) (m7 : c7 ≤ 8) (U : Nat) (hU : U = c0 + 256 * (c1 + 256 * (c2 + 256 * (c3 + 256 * (c4 + 256 * (c5 + 256 * (c6 + 256 * c7))))))) :
  U < 1152921504606846976 ∧ U + U / 256 < 1152921504606846976 ∧ (U + U / 256) + (U + U / 256) / 65536 < 1152921504606846976 ∧ ((U + U / 256) + (U + U / 256) / 65536) + ((U + U / 256) + (U + U / 256) / 65536) / 4294967296 < 1152921504606846976 ∧
  (((U + U / 256) + (U + U / 256) / 65536) + ((U + U / 256) + (U + U / 256) / 65536) / 4294967296) % 128 = c0 + c1 + c2 + c3 + c4 + c5 + c6 + c7 := by
 have a1 : U / 256 = c1 + 256 * (c2 + 256 * (c3 + 256 * (c4 + 256 * (c5 + 256 * (c6 + 256 * c7))))) := by omega
 rw [a1]
 obtain ⟨V, hV⟩ : ∃ V, V = U + (c1 + 256 * (c2 + 256 * (c3 + 256 * (c4 + 256 * (c5 + 256 * (c6 + 256 * c7)))))) := ⟨_, rfl⟩
 rw [← hV]
 have hV2 : V = (c0 + c1) + 256 * ((c1 + c2) + 256 * ((c2 + c3) + 256 * ((c3 + c4) + 256 * ((c4 + c5) + 256 * ((c5 + c6) + 256 * ((c6 + c7) + 256 * c7)))))) := by omega
 have a2 : V / 65536 = (c2 + c3) + 256 * ((c3 + c4) + 256 * ((c4 + c5) + 256 * ((c5 + c6) + 256 * ((c6 + c7) + 256 * c7)))) := by clear a1 hV hU; omega
 rw [a2]
 obtain ⟨W, hW⟩ : ∃ W, W = V + ((c2 + c3) + 256 * ((c3 + c4) + 256 * ((c4 + c5) + 256 * ((c5 + c6) + 256 * ((c6 + c7) + 256 * c7))))) := ⟨_, rfl⟩
 rw [← hW]
 have hW2 : W = (c0 + c1 + c2 + c3) + 256 * ((c1 + c2 + c3 + c4) + 256 * ((c2 + c3 + c4 + c5) + 256 * ((c3 + c4 + c5 + c6) + 256 * ((c4 + c5 + c6 + c7) + 256 * ((c5 + c6 + c7) + 256 * ((c6 + c7) + 256 * c7)))))) := by clear a1 a2 hU hV; omega
 have a3 : W / 4294967296 = (c4 + c5 + c6 + c7) + 256 * ((c5 + c6 + c7) + 256 * ((c6 + c7) + 256 * c7)) := by clear a1 a2 hU hV hV2 hW; omega
 rw [a3]
 clear a1 a2 a3 hV hW
 refine ⟨by omega, by omega, by omega, by omega, by omega⟩
theorem ones_end (r : List Nat) (hl : r.length = 8) (hc : ∀ c ∈ r, c ≤ 8) : horn r < 2 ^ 60 ∧ horn r + horn r / 256 < 2 ^ 60 ∧ (horn r + horn r / 256) + (horn r + horn r / 256) / 65536 < 2 ^ 60 ∧ ((horn r + horn r / 256) + (horn r + horn r / 256) / 65536) + ((horn r + horn r / 256) + (horn r + horn r / 256) / 65536) / 4294967296 < 2 ^ 60 ∧
  (((horn r + horn r / 256) + (horn r + horn r / 256) / 65536) + ((horn r + horn r / 256) + (horn r + horn r / 256) / 65536) / 4294967296) % 128 = r.sum := by
 match r, hl, hc with
 | [c0, c1, c2, c3, c4, c5, c6, c7], _, hc =>
  have h := ones_end8 c0 c1 c2 c3 c4 c5 c6 c7 (hc c0 (by simp)) (hc c1 (by simp)) (hc c2 (by simp)) (hc c3 (by simp)) (hc c4 (by simp)) (hc c5 (by simp)) (hc c6 (by simp)) (hc c7 (by simp)) (horn [c0, c1, c2, c3, c4, c5, c6, c7]) (by simp only [horn]; omega)
  have e : [c0, c1, c2, c3, c4, c5, c6, c7].sum = c0 + c1 + c2 + c3 + c4 + c5 + c6 + c7 := by simp only [List.sum_cons, List.sum_nil]; omega
  rw [e]
  exact h
theorem ones_words (X : Nat) (hX : X < 2 ^ 60) : ∃ Y Z U : Nat, Y < 2 ^ 64 ∧ Z < 2 ^ 64 ∧ U < 2 ^ 60 ∧ (X / 2 &&& 6148914691236517205) + (X &&& 6148914691236517205) = Y ∧ (Y / 4 &&& 3689348814741910323) + (Y &&& 3689348814741910323) = Z ∧ Z / 16 + Z < 2 ^ 64 ∧ ((Z / 16 + Z) &&& 1085102592571150095) = U ∧
  U + U / 256 < 2 ^ 60 ∧ (U + U / 256) + (U + U / 256) / 65536 < 2 ^ 60 ∧ ((U + U / 256) + (U + U / 256) / 65536) + ((U + U / 256) + (U + U / 256) / 65536) / 4294967296 < 2 ^ 60 ∧
  (((U + U / 256) + (U + U / 256) / 65536) + ((U + U / 256) + (U + U / 256) / 65536) / 4294967296) % 128 = popB 60 X := by
 have hb := bytes_lt 8 X
 have hX8 : X < 256 ^ 8 := Nat.lt_of_lt_of_le hX (by decide)
 have hx := horn_bytes 8 X hX8
 have hlen := bytes_length 8 X
 have hpop : popB 60 X = ((bytesN 8 X).map (popB 8)).sum := by
  rw [← popB_bytes, show 8 * 8 = 60 + 4 from rfl, popB_add, Nat.div_eq_of_lt hX, popB_zero, Nat.add_zero]
 generalize bytesN 8 X = l at hb hx hlen hpop
 have q1 := s1_horn l hb
 have hb1 : ∀ b ∈ l.map t1, b < 256 := fun b h => by obtain ⟨c, hc, rfl⟩ := List.mem_map.1 h; exact (t_all c (hb c hc)).1
 have q2 := s2_horn (l.map t1) hb1
 have hb2 : ∀ b ∈ (l.map t1).map t2, b < 256 ∧ b % 16 ≤ 4 ∧ b / 16 ≤ 4 := fun b h => by
  obtain ⟨c, hc, rfl⟩ := List.mem_map.1 h
  obtain ⟨d, hd, rfl⟩ := List.mem_map.1 hc
  have := t_all d (hb d hd)
  exact ⟨this.2.1, this.2.2.1, this.2.2.2.1⟩
 obtain ⟨q3, -⟩ := s3_horn ((l.map t1).map t2) hb2
 have e3 : ((l.map t1).map t2).map t3 = l.map (popB 8) := by
  rw [List.map_map, List.map_map]
  exact List.map_congr_left fun b h => (t_all b (hb b h)).2.2.2.2.1
 simp only [List.length_map, hlen, rep85, rep51, rep15, hx] at q1 q2 q3
 rw [e3] at q3
 have n1 := horn_lt _ hb1
 have n2 := horn_lt _ (fun b h => (hb2 b h).1)
 simp only [List.length_map, hlen] at n1 n2
 have n2' : horn ((l.map t1).map t2) / 16 + horn ((l.map t1).map t2) < 2 ^ 64 := by
  have : ∀ l : List Nat, (∀ b ∈ l, b < 256 ∧ b % 16 ≤ 4 ∧ b / 16 ≤ 4) → l.length ≤ 8 → horn l * 3 + 1 ≤ 256 ^ l.length := by
   intro l
   induction l with
   | nil => intro _ _; decide
   | cons b l ih =>
    intro h h2
    have i := ih (fun x hx => h x (List.mem_cons_of_mem _ hx)) (by simp at h2; omega)
    have hbb := h b List.mem_cons_self
    have hp : 0 < 256 ^ l.length := Nat.pow_pos (by decide)
    rw [horn, List.length_cons, Nat.pow_succ]
    omega
  have := this _ hb2 (by simp only [List.length_map, hlen]; decide)
  simp only [List.length_map, hlen] at this
  omega
 have hc : ∀ c ∈ l.map (popB 8), c ≤ 8 := fun c h => by obtain ⟨d, hd, rfl⟩ := List.mem_map.1 h; exact (t_all d (hb d hd)).2.2.2.2.2
 have he := ones_end (l.map (popB 8)) (by rw [List.length_map, hlen]) hc
 rw [← hpop] at he
 exact ⟨_, _, _, n1, n2, he.1, q1, q2, n2', q3, he.2⟩
theorem u64_add (a b : Nat) (h : a + b < 2 ^ 64) : IntKind.u64.wrap ((a : Int) + (b : Int)) = ((a + b : Nat) : Int) := by
 rw [← Int.natCast_add]
 exact u64_all _ (Int.natCast_nonneg _) (by exact_mod_cast h)
theorem lt_60_64 {n : Nat} (h : n < 2 ^ 60) : n < 2 ^ 64 := Nat.lt_of_lt_of_le h (by decide)
theorem ones_f (X : Nat) (hX : X < 2 ^ 60) : bits_OnesCount64.f (X : Int) = some ((popB 60 X : Nat) : Int) := by
 obtain ⟨Y, Z, U, hY, hZ, hU, y, z, zz, u, p1, p2, p3, p4⟩ := ones_words X hX
 have hX2 := lt_60_64 hX
 have lt_div : ∀ (a b : Nat), a < 2 ^ 64 → a / b < 2 ^ 64 := fun a b h => Nat.lt_of_le_of_lt (Nat.div_le_self _ _) h
 have iY : IntKind.u64.wrap ((Go.bits .and .u64 ((X : Int) / 2) 6148914691236517205) + (Go.bits .and .u64 (X : Int) 6148914691236517205)) = (Y : Int) := by
  have i1 : Go.bits .and .u64 ((X : Int) / 2) 6148914691236517205 = ((X / 2 &&& 6148914691236517205 : Nat) : Int) := and_u64_all (X / 2) 6148914691236517205 (lt_div _ _ hX2) (by decide)
  have i2 : Go.bits .and .u64 (X : Int) 6148914691236517205 = ((X &&& 6148914691236517205 : Nat) : Int) := and_u64_all X 6148914691236517205 hX2 (by decide)
  rw [i1, i2, u64_add _ _ (by rw [y]; exact hY), y]
 have iZ : IntKind.u64.wrap ((Go.bits .and .u64 ((Y : Int) / 4) 3689348814741910323) + (Go.bits .and .u64 (Y : Int) 3689348814741910323)) = (Z : Int) := by
  have i1 : Go.bits .and .u64 ((Y : Int) / 4) 3689348814741910323 = ((Y / 4 &&& 3689348814741910323 : Nat) : Int) := and_u64_all (Y / 4) 3689348814741910323 (lt_div _ _ hY) (by decide)
  have i2 : Go.bits .and .u64 (Y : Int) 3689348814741910323 = ((Y &&& 3689348814741910323 : Nat) : Int) := and_u64_all Y 3689348814741910323 hY (by decide)
  rw [i1, i2, u64_add _ _ (by rw [z]; exact hZ), z]
 have iT : IntKind.u64.wrap (((Z : Int) / 16) + (Z : Int)) = ((Z / 16 + Z : Nat) : Int) := u64_add (Z / 16) Z zz
 have iU : Go.bits .and .u64 ((Z / 16 + Z : Nat) : Int) 1085102592571150095 = (U : Int) := by
  have := and_u64_all (Z / 16 + Z) 1085102592571150095 zz (by decide)
  rw [u] at this
  exact this
 have iV : IntKind.u64.wrap ((U : Int) + ((U : Int) / 256)) = ((U + U / 256 : Nat) : Int) := u64_add U (U / 256) (lt_60_64 p1)
 unfold bits_OnesCount64.f
 rw [iY, iZ, iT, iU, iV]
 generalize U + U / 256 = V at p2 p3 p4
 have iW : IntKind.u64.wrap ((V : Int) + ((V : Int) / 65536)) = ((V + V / 65536 : Nat) : Int) := u64_add V (V / 65536) (lt_60_64 p2)
 rw [iW]
 generalize V + V / 65536 = W at p3 p4
 have iE : IntKind.u64.wrap ((W : Int) + ((W : Int) / 4294967296)) = ((W + W / 4294967296 : Nat) : Int) := u64_add W (W / 4294967296) (lt_60_64 p3)
 rw [iE]
 generalize W + W / 4294967296 = E at p3 p4
 have iwr : wrap64 (E : Int) = (E : Int) := by
  have hE : E < 1152921504606846976 := p3
  clear p3 p4
  unfold wrap64; omega
 have iA : Go.bits .and .i64 (E : Int) 127 = ((E &&& 127 : Nat) : Int) := and_i64 E 127 p3 (by decide)
 rw [iwr, iA, show (127 : Nat) = 2 ^ 7 - 1 from rfl, Nat.and_two_pow_sub_one_eq_mod, show (2 ^ 7 : Nat) = 128 from rfl, p4]


mutual
def impl_grid_regions.l0 : Nat → Int → Bool → Int → List Int → Int → Int → Int → Int → Option ((List (List Int)))
 | 0, _, _, _, _, _, _, _, _ => none
 | k + 1, x1, x2, x7, x8, x26, x27, x363000, x363001 => if x27 < x26 then (if x8.length < 17592186044416 then (impl_grid_regions.l0 k x1 x2 x7 (x8 ++ [x27]) x26 (wrap64 (x27 + 1)) x363000 x363001) else (none)) else (impl_grid_regions.l1 k x1 x2 x7 x8 (wrap64 (x7 + 1)) 0 x363000 x363001)
def impl_grid_regions.l1 : Nat → Int → Bool → Int → List Int → Int → Int → Int → Int → Option ((List (List Int)))
 | 0, _, _, _, _, _, _, _, _ => none
 | k + 1, x1, x2, x7, x8, x36, x37, x363000, x363001 => if x37 < x36 then ((impl_grid_levels.f x363000 x363001).bind fun t369 => ((impl_grid_uprights.f x363000 x363001).bind fun t370 => (impl_grid_regions.l2 k x1 x2 x7 x8 x36 x37 (wrap64 (t369 + t370)) 0 x363000 x363001))) else (impl_grid_regions.l3 k x2 x7 x8 (([] : List (List Int))) x7 0)
def impl_grid_regions.l2 : Nat → Int → Bool → Int → List Int → Int → Int → Int → Int → Int → Int → Option ((List (List Int)))
 | 0, _, _, _, _, _, _, _, _, _, _ => none
 | k + 1, x1, x2, x7, x8, x36, x37, x43, x44, x363000, x363001 => if x44 < x43 then ((impl_grid_beside.f x363000 x363001 x44).bind fun bt371 => (if bt371.1 < 0 then (impl_grid_regions.j3 k x1 x2 x7 x8 x44 x7 bt371.2 x36 x37 x43 x44 x363000 x363001) else (impl_grid_regions.j3 k x1 x2 x7 x8 x44 bt371.1 bt371.2 x36 x37 x43 x44 x363000 x363001))) else (impl_grid_regions.l1 k x1 x2 x7 x8 x36 (wrap64 (x37 + 1)) x363000 x363001)
def impl_grid_regions.j3 : Nat → Int → Bool → Int → List Int → Int → Int → Int → Int → Int → Int → Int → Int → Int → Option ((List (List Int)))
 | 0, _, _, _, _, _, _, _, _, _, _, _, _, _ => none
 | k + 1, x1, x2, x7, x8, x10, x11, x12, x36, x37, x43, x44, x363000, x363001 => if x12 < 0 then (if 0 ≤ x10 then (if (Go.bits .and .u64 (shr .u64 x1 x10) 1) = 1 then (impl_grid_regions.l2 k x1 x2 x7 x8 x36 x37 x43 (wrap64 (x44 + 1)) x363000 x363001) else (if x2 = true then (if 0 ≤ x11 then (if x11 < (x8.length : Int) then (if 0 ≤ x7 then (if x7 < (x8.length : Int) then (impl_grid_regions.l2 k x1 x2 x7 ((x8.set (x11 : Int).toNat (mn (rd x8 x11) (rd x8 x7))).set (x7 : Int).toNat (mn (rd x8 x11) (rd x8 x7))) x36 x37 x43 (wrap64 (x44 + 1)) x363000 x363001) else (none)) else (none)) else (none)) else (none)) else (if (mx x11 x7) = x7 then (impl_grid_regions.l2 k x1 x2 x7 x8 x36 x37 x43 (wrap64 (x44 + 1)) x363000 x363001) else (if 0 ≤ x11 then (if x11 < (x8.length : Int) then (if 0 ≤ x7 then (if x7 < (x8.length : Int) then (impl_grid_regions.l2 k x1 x2 x7 ((x8.set (x11 : Int).toNat (mn (rd x8 x11) (rd x8 x7))).set (x7 : Int).toNat (mn (rd x8 x11) (rd x8 x7))) x36 x37 x43 (wrap64 (x44 + 1)) x363000 x363001) else (none)) else (none)) else (none)) else (none))))) else (none)) else (if 0 ≤ x10 then (if (Go.bits .and .u64 (shr .u64 x1 x10) 1) = 1 then (impl_grid_regions.l2 k x1 x2 x7 x8 x36 x37 x43 (wrap64 (x44 + 1)) x363000 x363001) else (if x2 = true then (if 0 ≤ x11 then (if x11 < (x8.length : Int) then (if 0 ≤ x12 then (if x12 < (x8.length : Int) then (impl_grid_regions.l2 k x1 x2 x7 ((x8.set (x11 : Int).toNat (mn (rd x8 x11) (rd x8 x12))).set (x12 : Int).toNat (mn (rd x8 x11) (rd x8 x12))) x36 x37 x43 (wrap64 (x44 + 1)) x363000 x363001) else (none)) else (none)) else (none)) else (none)) else (if (mx x11 x12) = x7 then (impl_grid_regions.l2 k x1 x2 x7 x8 x36 x37 x43 (wrap64 (x44 + 1)) x363000 x363001) else (if 0 ≤ x11 then (if x11 < (x8.length : Int) then (if 0 ≤ x12 then (if x12 < (x8.length : Int) then (impl_grid_regions.l2 k x1 x2 x7 ((x8.set (x11 : Int).toNat (mn (rd x8 x11) (rd x8 x12))).set (x12 : Int).toNat (mn (rd x8 x11) (rd x8 x12))) x36 x37 x43 (wrap64 (x44 + 1)) x363000 x363001) else (none)) else (none)) else (none)) else (none))))) else (none))
def impl_grid_regions.l3 : Nat → Bool → Int → List Int → List (List Int) → Int → Int → Option ((List (List Int)))
 | 0, _, _, _, _, _, _ => none
 | k + 1, x2, x7, x8, x14, x95, x96 => if x96 < x95 then (if 0 ≤ x7 then (if x7 ≤ (x8.length : Int) then ((some (x8.take (x7 : Int).toNat : List Int)).bind fun y395 => (impl_grid_regions.l4 k x2 x7 x8 x14 x96 (([] : List Int)) x95 x96 y395 (y395.length : Int) 0)) else (none)) else (none)) else (some x14)
def impl_grid_regions.l4 : Nat → Bool → Int → List Int → List (List Int) → Int → List Int → Int → Int → List Int → Int → Int → Option ((List (List Int)))
 | 0, _, _, _, _, _, _, _, _, _, _, _ => none
 | k + 1, x2, x7, x8, x14, x15, x16, x95, x96, x102, x103, x104 => if x104 < x103 then (if 0 ≤ x104 then (if x104 < (x102.length : Int) then (if (rd x102 x104) = x15 then (if x16.length < 17592186044416 then (impl_grid_regions.l4 k x2 x7 x8 x14 x15 (x16 ++ [x104]) x95 x96 x102 x103 (wrap64 (x104 + 1))) else (none)) else (impl_grid_regions.l4 k x2 x7 x8 x14 x15 x16 x95 x96 x102 x103 (wrap64 (x104 + 1)))) else (none)) else (none)) else (if (x16.length : Int) > 0 then (if x2 = true then (if 0 ≤ x7 then (if x7 < (x8.length : Int) then (if ((rd x8 x7) = x15) then (impl_grid_regions.l3 k x2 x7 x8 x14 x95 (wrap64 (x96 + 1))) else (if x14.length < 5864062014805 then (impl_grid_regions.l3 k x2 x7 x8 (x14 ++ [x16]) x95 (wrap64 (x96 + 1))) else (none))) else (none)) else (none)) else (if x14.length < 5864062014805 then (impl_grid_regions.l3 k x2 x7 x8 (x14 ++ [x16]) x95 (wrap64 (x96 + 1))) else (none))) else (impl_grid_regions.l3 k x2 x7 x8 x14 x95 (wrap64 (x96 + 1))))
end
def impl_grid_regions.f (k : Nat) (a0_0 : Int) (a0_1 : Int) (a1 : Int) (a2 : Bool) : Option ((List (List Int))) := impl_grid_regions.l0 k a1 a2 (wrap64 (a0_0 * a0_1)) (([] : List Int)) (wrap64 ((wrap64 (a0_0 * a0_1)) + 1)) 0 a0_0 a0_1
theorem impl_grid_regions.mono_l : ∀ k, (∀ y0 y1 y2 y3 y4 y5 y6 y7, LeO (impl_grid_regions.l0 k y0 y1 y2 y3 y4 y5 y6 y7) (impl_grid_regions.l0 (k + 1) y0 y1 y2 y3 y4 y5 y6 y7)) ∧ (∀ y0 y1 y2 y3 y4 y5 y6 y7, LeO (impl_grid_regions.l1 k y0 y1 y2 y3 y4 y5 y6 y7) (impl_grid_regions.l1 (k + 1) y0 y1 y2 y3 y4 y5 y6 y7)) ∧ (∀ y0 y1 y2 y3 y4 y5 y6 y7 y8 y9, LeO (impl_grid_regions.l2 k y0 y1 y2 y3 y4 y5 y6 y7 y8 y9) (impl_grid_regions.l2 (k + 1) y0 y1 y2 y3 y4 y5 y6 y7 y8 y9)) ∧ (∀ y0 y1 y2 y3 y4 y5 y6 y7 y8 y9 y10 y11 y12, LeO (impl_grid_regions.j3 k y0 y1 y2 y3 y4 y5 y6 y7 y8 y9 y10 y11 y12) (impl_grid_regions.j3 (k + 1) y0 y1 y2 y3 y4 y5 y6 y7 y8 y9 y10 y11 y12)) ∧ (∀ y0 y1 y2 y3 y4 y5, LeO (impl_grid_regions.l3 k y0 y1 y2 y3 y4 y5) (impl_grid_regions.l3 (k + 1) y0 y1 y2 y3 y4 y5)) ∧ (∀ y0 y1 y2 y3 y4 y5 y6 y7 y8 y9 y10, LeO (impl_grid_regions.l4 k y0 y1 y2 y3 y4 y5 y6 y7 y8 y9 y10) (impl_grid_regions.l4 (k + 1) y0 y1 y2 y3 y4 y5 y6 y7 y8 y9 y10))
 | 0 => ⟨fun _ _ _ _ _ _ _ _ r h => by simp [impl_grid_regions.l0] at h, fun _ _ _ _ _ _ _ _ r h => by simp [impl_grid_regions.l1] at h, fun _ _ _ _ _ _ _ _ _ _ r h => by simp [impl_grid_regions.l2] at h, fun _ _ _ _ _ _ _ _ _ _ _ _ _ r h => by simp [impl_grid_regions.j3] at h, fun _ _ _ _ _ _ r h => by simp [impl_grid_regions.l3] at h, fun _ _ _ _ _ _ _ _ _ _ _ r h => by simp [impl_grid_regions.l4] at h⟩
 | k + 1 => by
  obtain ⟨ih0, ih1, ih2, ih3, ih4, ih5⟩ := impl_grid_regions.mono_l k
  refine ⟨?_, ?_, ?_, ?_, ?_, ?_⟩
  ·intro y0 y1 y2 y3 y4 y5 y6 y7
   unfold impl_grid_regions.l0
   repeat' first
   | (with_reducible exact ih0 _ _ _ _ _ _ _ _)
   | (with_reducible exact ih1 _ _ _ _ _ _ _ _)
   | (with_reducible exact ih2 _ _ _ _ _ _ _ _ _ _)
   | (with_reducible exact ih3 _ _ _ _ _ _ _ _ _ _ _ _ _)
   | (with_reducible exact ih4 _ _ _ _ _ _)
   | (with_reducible exact ih5 _ _ _ _ _ _ _ _ _ _ _)
   | (with_reducible exact LeO.refl _)
   | (with_reducible exact LeO.none _)
   | (with_reducible refine LeO.ite ?_ ?_)
   | (with_reducible refine LeO.bind ?_ (fun _ => ?_))
   | exact ih0 _ _ _ _ _ _ _ _
   | exact ih1 _ _ _ _ _ _ _ _
   | exact ih2 _ _ _ _ _ _ _ _ _ _
   | exact ih3 _ _ _ _ _ _ _ _ _ _ _ _ _
   | exact ih4 _ _ _ _ _ _
   | exact ih5 _ _ _ _ _ _ _ _ _ _ _
   | exact LeO.none _
   | refine LeO.ite ?_ ?_
   | refine LeO.bind ?_ (fun _ => ?_)
  ·intro y0 y1 y2 y3 y4 y5 y6 y7
   unfold impl_grid_regions.l1
   repeat' first
   | (with_reducible exact ih0 _ _ _ _ _ _ _ _)
   | (with_reducible exact ih1 _ _ _ _ _ _ _ _)
   | (with_reducible exact ih2 _ _ _ _ _ _ _ _ _ _)
   | (with_reducible exact ih3 _ _ _ _ _ _ _ _ _ _ _ _ _)
   | (with_reducible exact ih4 _ _ _ _ _ _)
   | (with_reducible exact ih5 _ _ _ _ _ _ _ _ _ _ _)
   | (with_reducible exact LeO.refl _)
   | (with_reducible exact LeO.none _)
   | (with_reducible refine LeO.ite ?_ ?_)
   | (with_reducible refine LeO.bind ?_ (fun _ => ?_))
   | exact ih0 _ _ _ _ _ _ _ _
   | exact ih1 _ _ _ _ _ _ _ _
   | exact ih2 _ _ _ _ _ _ _ _ _ _
   | exact ih3 _ _ _ _ _ _ _ _ _ _ _ _ _
   | exact ih4 _ _ _ _ _ _
   | exact ih5 _ _ _ _ _ _ _ _ _ _ _
   | exact LeO.none _
   | refine LeO.ite ?_ ?_
   | refine LeO.bind ?_ (fun _ => ?_)
  ·intro y0 y1 y2 y3 y4 y5 y6 y7 y8 y9
   unfold impl_grid_regions.l2
   repeat' first
   | (with_reducible exact ih0 _ _ _ _ _ _ _ _)
   | (with_reducible exact ih1 _ _ _ _ _ _ _ _)
   | (with_reducible exact ih2 _ _ _ _ _ _ _ _ _ _)
   | (with_reducible exact ih3 _ _ _ _ _ _ _ _ _ _ _ _ _)
   | (with_reducible exact ih4 _ _ _ _ _ _)
   | (with_reducible exact ih5 _ _ _ _ _ _ _ _ _ _ _)
   | (with_reducible exact LeO.refl _)
   | (with_reducible exact LeO.none _)
   | (with_reducible refine LeO.ite ?_ ?_)
   | (with_reducible refine LeO.bind ?_ (fun _ => ?_))
   | exact ih0 _ _ _ _ _ _ _ _
   | exact ih1 _ _ _ _ _ _ _ _
   | exact ih2 _ _ _ _ _ _ _ _ _ _
   | exact ih3 _ _ _ _ _ _ _ _ _ _ _ _ _
   | exact ih4 _ _ _ _ _ _
   | exact ih5 _ _ _ _ _ _ _ _ _ _ _
   | exact LeO.none _
   | refine LeO.ite ?_ ?_
   | refine LeO.bind ?_ (fun _ => ?_)
  ·intro y0 y1 y2 y3 y4 y5 y6 y7 y8 y9 y10 y11 y12
   unfold impl_grid_regions.j3
   repeat' first
   | (with_reducible exact ih0 _ _ _ _ _ _ _ _)
   | (with_reducible exact ih1 _ _ _ _ _ _ _ _)
   | (with_reducible exact ih2 _ _ _ _ _ _ _ _ _ _)
   | (with_reducible exact ih3 _ _ _ _ _ _ _ _ _ _ _ _ _)
   | (with_reducible exact ih4 _ _ _ _ _ _)
   | (with_reducible exact ih5 _ _ _ _ _ _ _ _ _ _ _)
   | (with_reducible exact LeO.refl _)
   | (with_reducible exact LeO.none _)
   | (with_reducible refine LeO.ite ?_ ?_)
   | (with_reducible refine LeO.bind ?_ (fun _ => ?_))
   | exact ih0 _ _ _ _ _ _ _ _
   | exact ih1 _ _ _ _ _ _ _ _
   | exact ih2 _ _ _ _ _ _ _ _ _ _
   | exact ih3 _ _ _ _ _ _ _ _ _ _ _ _ _
   | exact ih4 _ _ _ _ _ _
   | exact ih5 _ _ _ _ _ _ _ _ _ _ _
   | exact LeO.none _
   | refine LeO.ite ?_ ?_
   | refine LeO.bind ?_ (fun _ => ?_)
  ·intro y0 y1 y2 y3 y4 y5
   unfold impl_grid_regions.l3
   repeat' first
   | (with_reducible exact ih0 _ _ _ _ _ _ _ _)
   | (with_reducible exact ih1 _ _ _ _ _ _ _ _)
   | (with_reducible exact ih2 _ _ _ _ _ _ _ _ _ _)
   | (with_reducible exact ih3 _ _ _ _ _ _ _ _ _ _ _ _ _)
   | (with_reducible exact ih4 _ _ _ _ _ _)
   | (with_reducible exact ih5 _ _ _ _ _ _ _ _ _ _ _)
   | (with_reducible exact LeO.refl _)
   | (with_reducible exact LeO.none _)
   | (with_reducible refine LeO.ite ?_ ?_)
   | (with_reducible refine LeO.bind ?_ (fun _ => ?_))
   | exact ih0 _ _ _ _ _ _ _ _
   | exact ih1 _ _ _ _ _ _ _ _
   | exact ih2 _ _ _ _ _ _ _ _ _ _
   | exact ih3 _ _ _ _ _ _ _ _ _ _ _ _ _
   | exact ih4 _ _ _ _ _ _
   | exact ih5 _ _ _ _ _ _ _ _ _ _ _
   | exact LeO.none _
   | refine LeO.ite ?_ ?_
   | refine LeO.bind ?_ (fun _ => ?_)
  ·intro y0 y1 y2 y3 y4 y5 y6 y7 y8 y9 y10
   unfold impl_grid_regions.l4
   repeat' first
   | (with_reducible exact ih0 _ _ _ _ _ _ _ _)
   | (with_reducible exact ih1 _ _ _ _ _ _ _ _)
   | (with_reducible exact ih2 _ _ _ _ _ _ _ _ _ _)
   | (with_reducible exact ih3 _ _ _ _ _ _ _ _ _ _ _ _ _)
   | (with_reducible exact ih4 _ _ _ _ _ _)
   | (with_reducible exact ih5 _ _ _ _ _ _ _ _ _ _ _)
   | (with_reducible exact LeO.refl _)
   | (with_reducible exact LeO.none _)
   | (with_reducible refine LeO.ite ?_ ?_)
   | (with_reducible refine LeO.bind ?_ (fun _ => ?_))
   | exact ih0 _ _ _ _ _ _ _ _
   | exact ih1 _ _ _ _ _ _ _ _
   | exact ih2 _ _ _ _ _ _ _ _ _ _
   | exact ih3 _ _ _ _ _ _ _ _ _ _ _ _ _
   | exact ih4 _ _ _ _ _ _
   | exact ih5 _ _ _ _ _ _ _ _ _ _ _
   | exact LeO.none _
   | refine LeO.ite ?_ ?_
   | refine LeO.bind ?_ (fun _ => ?_)
theorem impl_grid_regions.mono : ∀ a0 a1 a2 a3 k, LeO (impl_grid_regions.f k a0 a1 a2 a3) (impl_grid_regions.f (k + 1) a0 a1 a2 a3) := by
 intro a0 a1 a2 a3 k
 obtain ⟨ih0, ih1, ih2, ih3, ih4, ih5⟩ := impl_grid_regions.mono_l k
 unfold impl_grid_regions.f
 repeat' first
   | (with_reducible exact ih0 _ _ _ _ _ _ _ _)
   | (with_reducible exact ih1 _ _ _ _ _ _ _ _)
   | (with_reducible exact ih2 _ _ _ _ _ _ _ _ _ _)
   | (with_reducible exact ih3 _ _ _ _ _ _ _ _ _ _ _ _ _)
   | (with_reducible exact ih4 _ _ _ _ _ _)
   | (with_reducible exact ih5 _ _ _ _ _ _ _ _ _ _ _)
   | (with_reducible exact LeO.refl _)
   | (with_reducible exact LeO.none _)
   | (with_reducible refine LeO.ite ?_ ?_)
   | (with_reducible refine LeO.bind ?_ (fun _ => ?_))
   | exact ih0 _ _ _ _ _ _ _ _
   | exact ih1 _ _ _ _ _ _ _ _
   | exact ih2 _ _ _ _ _ _ _ _ _ _
   | exact ih3 _ _ _ _ _ _ _ _ _ _ _ _ _
   | exact ih4 _ _ _ _ _ _
   | exact ih5 _ _ _ _ _ _ _ _ _ _ _
   | exact LeO.none _
   | refine LeO.ite ?_ ?_
   | refine LeO.bind ?_ (fun _ => ?_)
end Go.Proofs.Yteaglkpplgbpaaa.P
namespace Go.Proofs.Yteaglkpplgbpaaa.P
open Go.RowKit Go.Proofs.YteaglkpplgbpaaaW.PrintWords Go.Proofs.YteaglkpplgbpaaaW.PrintLast Go.Proofs.YteaglkpplgbpaaaW.PrintMore
attribute [local go_sem] max2_int min2_int max_two min_two max_three min_three max_four min_four   -- for this text's walks alone
set_option linter.unusedVariables false
set_option linter.unusedSimpArgs false

def lstF (f : Nat → Nat) (n : Nat) : List Int := (List.range (n + 1)).map fun v => ((f v : Nat) : Int)
section
attribute [local irreducible] lstF setL
theorem edgN_le {w h : Nat} (g : Grid4 w h) : edgN w h ≤ 40 ∧ w * h ≤ 16 := by
  obtain ⟨w1, w4, h1, h4⟩ := g
  have cw : w = 1 ∨ w = 2 ∨ w = 3 ∨ w = 4 := by omega
  have ch : h = 1 ∨ h = 2 ∨ h = 3 ∨ h = 4 := by omega
  unfold edgN
  rcases cw with rfl | rfl | rfl | rfl <;> rcases ch with rfl | rfl | rfl | rfl <;> omega
attribute [local irreducible] edgN
end

end Go.Proofs.Yteaglkpplgbpaaa.P
namespace Go.Proofs.Yteaglkpplgbpaaa.P
open Go.RowKit Go.Proofs.YteaglkpplgbpaaaW.PrintWords Go.Proofs.YteaglkpplgbpaaaW.PrintLast Go.Proofs.YteaglkpplgbpaaaW.PrintMore
attribute [local go_sem] max2_int min2_int max_two min_two max_three min_three max_four min_four   -- for this text's walks alone
set_option linter.unusedVariables false
set_option linter.unusedSimpArgs false

theorem count_set : ∀ (S : List Bool) (b : Nat), b < S.length → S.getD b false = false → (S.set b true).count false + 1 = S.count false
  | [], b, h, _ => by simp at h
  | x :: S, 0, _, h2 => by
    have hx : x = false := by simpa using h2
    subst hx
    rw [List.set_cons_zero, List.count_cons, List.count_cons]
    rfl
  | x :: S, b + 1, h1, h2 => by
    have := count_set S b (by simpa using h1) (by simpa using h2)
    rw [List.set_cons_succ, List.count_cons, List.count_cons]
    omega
theorem getD_set (S : List Bool) (b u : Nat) (hb : b < S.length) : (S.set b true).getD u false = if u = b then true else S.getD u false := by
  rw [List.getD_eq_getElem?_getD, List.getD_eq_getElem?_getD, List.getElem?_set]
  by_cases h : b = u
  · subst h
    rw [if_pos rfl, if_pos rfl, if_pos hb]
    rfl
  · rw [if_neg h, if_neg (fun q : u = b => h q.symm)]
def CAdj (w h m : Nat) (a b : Nat) : Prop := AdjM (besN w h) m (edgN w h) a b ∧ a < w * h ∧ b < w * h
theorem CAdj.symm {w h m a b : Nat} (H : CAdj w h m a b) : CAdj w h m b a := ⟨H.1.symm, H.2.2, H.2.1⟩
def DoneD (w h m : Nat) (S : List Bool) (o : Bool) (u d : Nat) : Prop := m.testBit (dirE w h u d) = false → (dirN w h u d = w * h ∧ o = true) ∨ (dirN w h u d ≠ w * h ∧ S.getD (dirN w h u d) false = true)
structure BInv (w h m s0 : Nat) (P0 : Nat → Prop) (S : List Bool) (q : List Nat) (o : Bool) (D : Nat → Nat → Prop) : Prop where
  len : S.length = w * h
  mem : ∀ u ∈ q, u < w * h ∧ Conn (CAdj w h m) s0 u
  seen : ∀ u, u < w * h → (S.getD u false = true ↔ (P0 u ∨ u ∈ q))
  opn : o = true → ∃ u, u < w * h ∧ Conn (CAdj w h m) s0 u ∧ AdjM (besN w h) m (edgN w h) u (w * h)
  done : ∀ u d, D u d → DoneD w h m S o u d
def dst (w h m c : Nat) (s : List Bool × List Nat × Bool) (d : Nat) : List Bool × List Nat × Bool :=
  if m.testBit (dirE w h c d) = true then s else if dirN w h c d = w * h then (s.1, s.2.1, true) else if s.1.getD (dirN w h c d) false = true then s else (s.1.set (dirN w h c d) true, s.2.1 ++ [dirN w h c d], s.2.2)
theorem BInv.next {w h m s0 : Nat} {P0 : Nat → Prop} (g : Grid4 w h) {s : List Bool × List Nat × Bool} {D : Nat → Nat → Prop} (I : BInv w h m s0 P0 s.1 s.2.1 s.2.2 D) {c d : Nat} (hc : c ∈ s.2.1) (hd : d < 4) :
    BInv w h m s0 P0 (dst w h m c s d).1 (dst w h m c s d).2.1 (dst w h m c s d).2.2 (fun u e => D u e ∨ (u = c ∧ e = d)) ∧ (dst w h m c s d).2.1.length + (dst w h m c s d).1.count false = s.2.1.length + s.1.count false ∧ ∃ t, (dst w h m c s d).2.1 = s.2.1 ++ t := by
  obtain ⟨hcn, hcc⟩ := I.mem c hc
  obtain ⟨f1, f2, f3⟩ := dirF g hcn hd
  unfold dst
  by_cases h1 : m.testBit (dirE w h c d) = true
  · rw [if_pos h1]
    refine ⟨⟨I.len, I.mem, I.seen, I.opn, ?_⟩, rfl, [], by rw [List.append_nil]⟩
    rintro u e (hD | ⟨rfl, rfl⟩)
    · exact I.done u e hD
    · intro h2; rw [h1] at h2; cases h2
  · rw [if_neg h1]
    have h1' : m.testBit (dirE w h c d) = false := by simpa using h1
    have had : AdjM (besN w h) m (edgN w h) c (dirN w h c d) := (dirAdj g hcn).2 ⟨d, hd, h1', rfl⟩
    by_cases h2 : dirN w h c d = w * h
    · rw [if_pos h2]
      refine ⟨⟨I.len, I.mem, I.seen, fun _ => ⟨c, hcn, hcc, h2 ▸ had⟩, ?_⟩, rfl, [], by rw [List.append_nil]⟩
      rintro u e (hD | ⟨rfl, rfl⟩)
      · intro h3
        rcases I.done u e hD h3 with ⟨q1, -⟩ | q
        · exact .inl ⟨q1, rfl⟩
        · exact .inr q
      · intro _; exact .inl ⟨h2, rfl⟩
    · rw [if_neg h2]
      have hbn : dirN w h c d < w * h := by omega
      by_cases h3 : s.1.getD (dirN w h c d) false = true
      · rw [if_pos h3]
        refine ⟨⟨I.len, I.mem, I.seen, I.opn, ?_⟩, rfl, [], by rw [List.append_nil]⟩
        rintro u e (hD | ⟨rfl, rfl⟩)
        · exact I.done u e hD
        · intro _; exact .inr ⟨h2, h3⟩
      · rw [if_neg h3]
        have h3' : s.1.getD (dirN w h c d) false = false := by simpa using h3
        have hbl : dirN w h c d < s.1.length := by rw [I.len]; exact hbn
        have hcb : Conn (CAdj w h m) s0 (dirN w h c d) := hcc.step ⟨had, hcn, hbn⟩
        refine ⟨⟨by rw [List.length_set]; exact I.len, ?_, ?_, I.opn, ?_⟩, ?_, [dirN w h c d], rfl⟩
        · intro u hu
          rcases List.mem_append.1 hu with hu | hu
          · exact I.mem u hu
          · rw [List.mem_singleton] at hu; subst hu; exact ⟨hbn, hcb⟩
        · intro u hu
          rw [getD_set _ _ _ hbl, List.mem_append, List.mem_singleton]
          by_cases hub : u = dirN w h c d
          · rw [if_pos hub]
            exact ⟨fun _ => .inr (.inr hub), fun _ => rfl⟩
          · rw [if_neg hub, I.seen u hu]
            constructor
            · rintro (q | q)
              · exact .inl q
              · exact .inr (.inl q)
            · rintro (q | q | q)
              · exact .inl q
              · exact .inr q
              · exact absurd q hub
        · rintro u e (hD | ⟨rfl, rfl⟩)
          · intro h4
            rcases I.done u e hD h4 with q | ⟨q1, q2⟩
            · exact .inl q
            · refine .inr ⟨q1, ?_⟩
              rw [getD_set _ _ _ hbl]
              split
              · rfl
              · exact q2
          · intro _
            refine .inr ⟨h2, ?_⟩
            rw [getD_set _ _ _ hbl, if_pos rfl]
        · dsimp only
          have := count_set s.1 (dirN w h c d) hbl h3'
          rw [List.length_append, List.length_singleton]
          omega


def dX (d : Nat) : Int := if d = 1 then 1 else if d = 3 then -1 else 0
def dY (d : Nat) : Int := if d = 0 then -1 else if d = 2 then 1 else 0
theorem cell_xy {w h c : Nat} (hc : c < w * h) : c % w < w ∧ c / w < h ∧ c = c / w * w + c % w := by
 have hw : 0 < w := by
  rcases Nat.eq_zero_or_pos w with q | q
  ·subst q; simp at hc
  ·exact q
 refine ⟨Nat.mod_lt _ hw, Nat.div_lt_of_lt_mul hc, ?_⟩
 have := Nat.div_add_mod c w
 rw [Nat.mul_comm] at this
 omega
theorem nb_xy {w h c d : Nat} (g : Grid4 w h) (hc : c < w * h) (hd : d < 4) :
  (dirN w h c d = w * h ∧ (decide (0 ≤ ((c % w : Nat) : Int) + dX d) && decide (((c % w : Nat) : Int) + dX d ≤ (w : Int) - 1) && (decide (0 ≤ ((c / w : Nat) : Int) + dY d) && decide (((c / w : Nat) : Int) + dY d ≤ (h : Int) - 1))) = false) ∨
  (dirN w h c d ≠ w * h ∧ (decide (0 ≤ ((c % w : Nat) : Int) + dX d) && decide (((c % w : Nat) : Int) + dX d ≤ (w : Int) - 1) && (decide (0 ≤ ((c / w : Nat) : Int) + dY d) && decide (((c / w : Nat) : Int) + dY d ≤ (h : Int) - 1))) = true ∧ wrap64 (wrap64 ((((c / w : Nat) : Int) + dY d) * (w : Int)) + (((c % w : Nat) : Int) + dX d)) = (dirN w h c d : Int)) := by
 obtain ⟨h1, h2, h3⟩ := cell_xy hc
 obtain ⟨w1, w4, g1, g4⟩ := g
 have cw : w = 1 ∨ w = 2 ∨ w = 3 ∨ w = 4 := by omega
 have cd : d = 0 ∨ d = 1 ∨ d = 2 ∨ d = 3 := by omega
 rw [← Bool.not_eq_true]
 simp only [Bool.and_eq_true, decide_eq_true_eq]
 unfold dirN wrap64
 rcases cw with rfl | rfl | rfl | rfl <;> rcases cd with rfl | rfl | rfl | rfl <;> simp only [dX, dY, reduceIte, Nat.reduceEqDiff, reduceCtorEq] <;> (split <;> omega)
theorem rs_j {w h : Nat} (k : Nat) (S : List Bool) (out : List (List Int)) (q : List Nat) (cells : List Int) (o : Bool) (p x y d u v n st : Int) (a0 a1 : Int) (l2 l3 : List Int) (b : Nat) (inr : Bool) (hin : inr = true → wrap64 (wrap64 (v * (w : Int)) + u) = (b : Int) ∧ b < S.length) (hq : q.length < 100) :
  spec_liRegions.j3 (k + 1) (w : Int) (h : Int) S out (q.map fun i : Nat => (i : Int)) cells o p x y d u v n st (!inr) a0 a1 l2 l3 =
   if inr = false then spec_liRegions.l2 k (w : Int) (h : Int) S out (q.map fun i : Nat => (i : Int)) cells true p x y (wrap64 (d + 1)) n st a0 a1 l2 l3
   else if S.getD b false = true then spec_liRegions.l2 k (w : Int) (h : Int) S out (q.map fun i : Nat => (i : Int)) cells o p x y (wrap64 (d + 1)) n st a0 a1 l2 l3
   else spec_liRegions.l2 k (w : Int) (h : Int) (S.set b true) out ((q ++ [b]).map fun i : Nat => (i : Int)) cells o p x y (wrap64 (d + 1)) n st a0 a1 l2 l3 := by
 cases inr with
 | false => rw [spec_liRegions.j3, if_pos (show (!false) = true from rfl), if_pos (show false = false from rfl)]
 | true =>
  obtain ⟨e1, e2⟩ := hin rfl
  have hrd : rdOf false S (b : Int) = S.getD b false := by unfold rdOf; rw [Int.toNat_natCast]
  have c1 : (0 : Int) ≤ (b : Int) := Int.natCast_nonneg b
  have c2 : (b : Int) < (S.length : Int) := Int.ofNat_lt.2 e2
  have c3 : (q.map fun i : Nat => (i : Int)).length < 17592186044416 := by rw [List.length_map]; omega
  rw [spec_liRegions.j3, if_neg (by decide), e1, if_pos c1, if_pos c2, hrd, Int.toNat_natCast]
  rw [if_neg (show ¬ (true = false) by decide)]
  by_cases hs : S.getD b false = true
  ·rw [if_pos hs, if_pos hs]
  ·rw [if_neg hs, if_neg hs, if_pos c3, List.map_append]
   rfl
theorem walls_f {w h : Nat} {a u : List Int} (hf : figB (w : Int) (h : Int) a u = true) (ha : a.length ≤ 1000000) (hu : u.length ≤ 1000000) {c : Nat} (hc : c < w * h) (k : Nat) (hk : 1000000 < k) :
  spec_fiHas.f k (w : Int) (h : Int) a u false ((c % w : Nat) : Int) ((c / w : Nat) : Int) = some ((figMask (w : Int) (h : Int) a u).testBit (dirE w h c 0)) ∧
  spec_fiHas.f k (w : Int) (h : Int) a u true (wrap64 (((c % w : Nat) : Int) + 1)) ((c / w : Nat) : Int) = some ((figMask (w : Int) (h : Int) a u).testBit (dirE w h c 1)) ∧
  spec_fiHas.f k (w : Int) (h : Int) a u false ((c % w : Nat) : Int) (wrap64 (((c / w : Nat) : Int) + 1)) = some ((figMask (w : Int) (h : Int) a u).testBit (dirE w h c 2)) ∧
  spec_fiHas.f k (w : Int) (h : Int) a u true ((c % w : Nat) : Int) ((c / w : Nat) : Int) = some ((figMask (w : Int) (h : Int) a u).testBit (dirE w h c 3)) := by
 have g := gridOK_of hf
 have w4 := g.w4
 have h4 := g.h4
 obtain ⟨q1, q2, -⟩ := cell_xy hc
 unfold dirE
 generalize c % w = x at q1 ⊢
 generalize c / w = y at q2 ⊢
 have wn : w ≤ 4 := by omega
 have hn : h ≤ 4 := by omega
 have e1 : wrap64 ((x : Int) + 1) = ((x + 1 : Nat) : Int) := by unfold wrap64; omega
 have e2 : wrap64 ((y : Int) + 1) = ((y + 1 : Nat) : Int) := by unfold wrap64; omega
 have x0 : (0 : Int) ≤ (x : Int) := Int.natCast_nonneg _
 have y0 : (0 : Int) ≤ (y : Int) := Int.natCast_nonneg _
 have x1 : (x : Int) < (w : Int) := Int.ofNat_lt.2 q1
 have y1 : (y : Int) < (h : Int) := Int.ofNat_lt.2 q2
 have x2 : ((x + 1 : Nat) : Int) ≤ (w : Int) := Int.ofNat_le.2 q1
 have y2 : ((y + 1 : Nat) : Int) ≤ (h : Int) := Int.ofNat_le.2 q2
 have t0 : ∀ a b : Nat, ((a : Int) * (w : Int) + (b : Int)).toNat = a * w + b := fun a b => by
  rw [← Int.natCast_mul, ← Int.natCast_add, Int.toNat_natCast]
 have t1 : ∀ a b : Nat, ((w : Int) * ((h : Int) + 1)).toNat + ((a : Int) * ((w : Int) + 1) + (b : Int)).toNat = w * (h + 1) + (a * (w + 1) + b) := fun a b => by
  rw [show (w : Int) * ((h : Int) + 1) = ((w * (h + 1) : Nat) : Int) by push_cast; rfl, show (a : Int) * ((w : Int) + 1) + (b : Int) = ((a * (w + 1) + b : Nat) : Int) by push_cast; rfl, Int.toNat_natCast, Int.toNat_natCast]
 refine ⟨?_, ?_, ?_, ?_⟩
 ·rw [fiHas_level g hf ha k hk _ _ x0 x1 y0 (Int.le_of_lt y1), t0, if_pos rfl]
 ·rw [e1, fiHas_upright g hf hu k hk _ _ (Int.natCast_nonneg _) x2 y0 y1, t1, if_neg (by decide), if_pos rfl]
 ·rw [e2, fiHas_level g hf ha k hk _ _ x0 x1 (Int.natCast_nonneg _) y2, t0, if_neg (by decide), if_neg (by decide), if_pos rfl]
 ·rw [fiHas_upright g hf hu k hk _ _ x0 (Int.le_of_lt x1) y0 y1, t1, if_neg (by decide), if_neg (by decide), if_neg (by decide)]
theorem rs_step {w h : Nat} {a u : List Int} (g : Grid4 w h) (hf : figB (w : Int) (h : Int) a u = true) (ha : a.length ≤ 1000000) (hu : u.length ≤ 1000000) {c : Nat} (hc : c < w * h) {d : Nat} (hd : d < 4) (k : Nat) (hk : 1000002 < k) (out : List (List Int)) (cells : List Int) (p n st : Int)
  (s : List Bool × List Nat × Bool) (hS : s.1.length = w * h) (hq : s.2.1.length < 100) :
  ∃ k', k ≤ k' + 2 ∧ spec_liRegions.l2 k (w : Int) (h : Int) s.1 out (s.2.1.map fun i : Nat => (i : Int)) cells s.2.2 p ((c % w : Nat) : Int) ((c / w : Nat) : Int) (d : Int) n st (w : Int) (h : Int) a u =
   spec_liRegions.l2 k' (w : Int) (h : Int) (dst w h (figMask (w : Int) (h : Int) a u) c s d).1 out ((dst w h (figMask (w : Int) (h : Int) a u) c s d).2.1.map fun i : Nat => (i : Int)) cells (dst w h (figMask (w : Int) (h : Int) a u) c s d).2.2 p ((c % w : Nat) : Int) ((c / w : Nat) : Int) ((d + 1 : Nat) : Int) n st (w : Int) (h : Int) a u := by
 obtain ⟨k, rfl⟩ : ∃ q, k = q + 2 := ⟨k - 2, by omega⟩
 obtain ⟨f0, f1, f2, f3⟩ := walls_f hf ha hu hc (k + 1) (by omega)
 obtain ⟨-, hbn, -⟩ := dirF g hc hd
 have nb := nb_xy g hc hd
 have hd4 : (d : Int) < 4 := by omega
 have hd0 : (0 : Int) ≤ (d : Int) := Int.natCast_nonneg d
 have e1 : wrap64 ((d : Int) + 1) = ((d + 1 : Nat) : Int) := by clear nb f0 f1 f2 f3; unfold wrap64; omega
 have cx : ((c % w : Nat) : Int) < 4 ∧ ((c / w : Nat) : Int) < 4 := by
  obtain ⟨q1, q2, -⟩ := cell_xy hc
  have := g.w4
  have := g.h4
  exact ⟨Int.ofNat_lt.2 (Nat.lt_of_lt_of_le q1 g.w4), Int.ofNat_lt.2 (Nat.lt_of_lt_of_le q2 g.h4)⟩
 have x0 : (0 : Int) ≤ ((c % w : Nat) : Int) := Int.natCast_nonneg _
 have y0 : (0 : Int) ≤ ((c / w : Nat) : Int) := Int.natCast_nonneg _
 have ww : wrap64 ((w : Int) - 1) = (w : Int) - 1 := by have := g.w1; have := g.w4; clear nb; unfold wrap64; omega
 have hh : wrap64 ((h : Int) - 1) = (h : Int) - 1 := by have := g.h1; have := g.h4; clear nb; unfold wrap64; omega
 have cd : d = 0 ∨ d = 1 ∨ d = 2 ∨ d = 3 := by omega
 have rX : rd [0, 1, 0, -1] (d : Int) = dX d := by rcases cd with rfl | rfl | rfl | rfl <;> rfl
 have rY : rd [-1, 0, 1, 0] (d : Int) = dY d := by rcases cd with rfl | rfl | rfl | rfl <;> rfl
 have rW : rdOf false [(figMask (w : Int) (h : Int) a u).testBit (dirE w h c 0), (figMask (w : Int) (h : Int) a u).testBit (dirE w h c 1), (figMask (w : Int) (h : Int) a u).testBit (dirE w h c 2), (figMask (w : Int) (h : Int) a u).testBit (dirE w h c 3)] (d : Int) = (figMask (w : Int) (h : Int) a u).testBit (dirE w h c d) := by rcases cd with rfl | rfl | rfl | rfl <;> rfl
 have bX : -1 ≤ dX d ∧ dX d ≤ 1 := by rcases cd with rfl | rfl | rfl | rfl <;> decide
 have bY : -1 ≤ dY d ∧ dY d ≤ 1 := by rcases cd with rfl | rfl | rfl | rfl <;> decide
 generalize hx : ((c % w : Nat) : Int) = x at *
 generalize hy : ((c / w : Nat) : Int) = y at *
 have eX : wrap64 (x + dX d) = x + dX d := by clear nb f0 f1 f2 f3; unfold wrap64; omega
 have eY : wrap64 (y + dY d) = y + dY d := by clear nb f0 f1 f2 f3; unfold wrap64; omega
 have l4 : ∀ p q r t : Bool, (d : Int) < (([p, q, r, t] : List Bool).length : Int) := fun _ _ _ _ => hd4
 have l4' : ∀ p q r t : Int, (d : Int) < (([p, q, r, t] : List Int).length : Int) := fun _ _ _ _ => hd4
 rw [spec_liRegions.l2, if_pos hd4, f0, Option.bind_some, f1, Option.bind_some, f2, Option.bind_some, f3, Option.bind_some, Option.bind_some, if_pos hd0, if_pos (l4 _ _ _ _), Option.bind_some, if_pos (l4' _ _ _ _), Option.bind_some, if_pos (l4' _ _ _ _), rW, rX, rY, eX, eY, ww, hh, l1In_f, l1In_f, Option.bind_some]
 unfold dst
 by_cases hm : (figMask (w : Int) (h : Int) a u).testBit (dirE w h c d) = true
 ·rw [if_pos hm, if_pos hm, e1]
  exact ⟨k + 1, by omega, rfl⟩
 ·rw [if_neg hm, if_neg hm]
  have key : ∀ inr : Bool, (decide (0 ≤ x + dX d) && decide (x + dX d ≤ (w : Int) - 1) && (decide (0 ≤ y + dY d) && decide (y + dY d ≤ (h : Int) - 1))) = inr →
    (if (decide (0 ≤ x + dX d) && decide (x + dX d ≤ (w : Int) - 1)) = true then (some (decide (0 ≤ y + dY d) && decide (y + dY d ≤ (h : Int) - 1))).bind fun t377 => spec_liRegions.j3 (k + 1) (w : Int) (h : Int) s.1 out (s.2.1.map fun i : Nat => (i : Int)) cells s.2.2 p x y (d : Int) (x + dX d) (y + dY d) n st (!t377) (w : Int) (h : Int) a u
     else spec_liRegions.j3 (k + 1) (w : Int) (h : Int) s.1 out (s.2.1.map fun i : Nat => (i : Int)) cells s.2.2 p x y (d : Int) (x + dX d) (y + dY d) n st true (w : Int) (h : Int) a u) =
    spec_liRegions.j3 (k + 1) (w : Int) (h : Int) s.1 out (s.2.1.map fun i : Nat => (i : Int)) cells s.2.2 p x y (d : Int) (x + dX d) (y + dY d) n st (!inr) (w : Int) (h : Int) a u := by
   rintro _ rfl
   rw [Option.bind_some]
   cases (decide (0 ≤ x + dX d) && decide (x + dX d ≤ (w : Int) - 1))
   ·rw [if_neg (by decide)]; rfl
   ·rw [if_pos rfl]; rfl
  rcases nb with ⟨n1, n2⟩ | ⟨n1, n2, n3⟩
  ·refine ⟨k, by omega, ?_⟩
   rw [key _ n2, rs_j k s.1 out s.2.1 cells s.2.2 p x y (d : Int) (x + dX d) (y + dY d) n st (w : Int) (h : Int) a u 0 false (by simp) hq, if_pos rfl, if_pos n1, e1]
  ·refine ⟨k, by omega, ?_⟩
   rw [key _ n2, rs_j k s.1 out s.2.1 cells s.2.2 p x y (d : Int) (x + dX d) (y + dY d) n st (w : Int) (h : Int) a u (dirN w h c d) true (fun _ => ⟨n3, by rw [hS]; omega⟩) hq, if_neg (by decide), if_neg n1, e1]
   by_cases hs : s.1.getD (dirN w h c d) false = true
   ·rw [if_pos hs, if_pos hs]
   ·rw [if_neg hs, if_neg hs]


theorem BInv.weak {w h m s0 : Nat} {P0 : Nat → Prop} {S : List Bool} {q : List Nat} {o : Bool} {D E : Nat → Nat → Prop} (I : BInv w h m s0 P0 S q o D) (hE : ∀ u d, E u d → D u d) : BInv w h m s0 P0 S q o E := ⟨I.len, I.mem, I.seen, I.opn, fun u d hd => I.done u d (hE u d hd)⟩
theorem rs_pop {w h : Nat} {a u : List Int} (g : Grid4 w h) (hf : figB (w : Int) (h : Int) a u = true) (ha : a.length ≤ 1000000) (hu : u.length ≤ 1000000) {c : Nat} (k : Nat) (hk : 1000011 < k) (out : List (List Int)) (cells : List Int) (p n st : Int) {s0 : Nat} {P0 : Nat → Prop} {D : Nat → Nat → Prop}
  (s : List Bool × List Nat × Bool) (I : BInv w h (figMask (w : Int) (h : Int) a u) s0 P0 s.1 s.2.1 s.2.2 D) (hc : c ∈ s.2.1) (hT : s.2.1.length + s.1.count false < 100) :
  ∃ (k' : Nat) (s' : List Bool × List Nat × Bool) (t : List Nat), k ≤ k' + 9 ∧ spec_liRegions.l2 k (w : Int) (h : Int) s.1 out (s.2.1.map fun i : Nat => (i : Int)) cells s.2.2 p ((c % w : Nat) : Int) ((c / w : Nat) : Int) 0 n st (w : Int) (h : Int) a u =
   spec_liRegions.l1 k' (w : Int) (h : Int) s'.1 out (s'.2.1.map fun i : Nat => (i : Int)) cells s'.2.2 (wrap64 (p + 1)) n st (w : Int) (h : Int) a u ∧
   BInv w h (figMask (w : Int) (h : Int) a u) s0 P0 s'.1 s'.2.1 s'.2.2 (fun v e => D v e ∨ (v = c ∧ e < 4)) ∧ s'.2.1.length + s'.1.count false = s.2.1.length + s.1.count false ∧ s'.2.1 = s.2.1 ++ t := by
 have hcn := (I.mem c hc).1
 obtain ⟨I1, T1, t1, A1⟩ := I.next g hc (show 0 < 4 by omega)
 obtain ⟨I2, T2, t2, A2⟩ := I1.next g (by rw [A1]; exact List.mem_append_left _ hc) (show 1 < 4 by omega)
 obtain ⟨I3, T3, t3, A3⟩ := I2.next g (by rw [A2, A1]; exact List.mem_append_left _ (List.mem_append_left _ hc)) (show 2 < 4 by omega)
 obtain ⟨I4, T4, t4, A4⟩ := I3.next g (by rw [A3, A2, A1]; exact List.mem_append_left _ (List.mem_append_left _ (List.mem_append_left _ hc))) (show 3 < 4 by omega)
 obtain ⟨k1, p1, q1⟩ := rs_step g hf ha hu hcn (show 0 < 4 by omega) k (by omega) out cells p n st s I.len (by omega)
 obtain ⟨k2, p2, q2⟩ := rs_step g hf ha hu hcn (show 1 < 4 by omega) k1 (by omega) out cells p n st _ I1.len (by omega)
 obtain ⟨k3, p3, q3⟩ := rs_step g hf ha hu hcn (show 2 < 4 by omega) k2 (by omega) out cells p n st _ I2.len (by omega)
 obtain ⟨k4, p4, q4⟩ := rs_step g hf ha hu hcn (show 3 < 4 by omega) k3 (by omega) out cells p n st _ I3.len (by omega)
 obtain ⟨k4, rfl⟩ : ∃ q, k4 = q + 1 := ⟨k4 - 1, by omega⟩
 refine ⟨k4, _, t1 ++ t2 ++ t3 ++ t4, by omega, (q1.trans (q2.trans (q3.trans q4))).trans ?_, I4.weak ?_, by omega, by rw [A4, A3, A2, A1]; simp only [List.append_assoc]⟩
 ·rw [spec_liRegions.l2, if_neg (by decide)]
 ·rintro v e (hD | ⟨rfl, he⟩)
  ·exact .inl (.inl (.inl (.inl hD)))
  ·have ce : e = 0 ∨ e = 1 ∨ e = 2 ∨ e = 3 := by omega
   rcases ce with rfl | rfl | rfl | rfl
   ·exact .inl (.inl (.inl (.inr ⟨rfl, rfl⟩)))
   ·exact .inl (.inl (.inr ⟨rfl, rfl⟩))
   ·exact .inl (.inr ⟨rfl, rfl⟩)
   ·exact .inr ⟨rfl, rfl⟩
theorem rs_l1 {w h : Nat} {a u : List Int} (g : Grid4 w h) (hf : figB (w : Int) (h : Int) a u = true) (ha : a.length ≤ 1000000) (hu : u.length ≤ 1000000) (out : List (List Int)) (hout : out.length < 100) (n st : Int) {s0 : Nat} {P0 : Nat → Prop} :
  ∀ (e k p : Nat) (s : List Bool × List Nat × Bool), (s.2.1.length - p) + s.1.count false = e → p ≤ s.2.1.length → s.2.1.length + s.1.count false < 100 → 10 * e + 1000020 ≤ k →
   BInv w h (figMask (w : Int) (h : Int) a u) s0 P0 s.1 s.2.1 s.2.2 (fun v d => v ∈ s.2.1.take p ∧ d < 4) →
  ∃ (k' : Nat) (s' : List Bool × List Nat × Bool) (t : List Nat), k ≤ k' + (10 * e + 1) ∧ spec_liRegions.l1 k (w : Int) (h : Int) s.1 out (s.2.1.map fun i : Nat => (i : Int)) (setL (w * h) fun v => decide (v ∈ s.2.1.take p)) s.2.2 (p : Int) n st (w : Int) (h : Int) a u =
   spec_liRegions.l0 k' (w : Int) (h : Int) s'.1 (if s'.2.2 = true then out else out ++ [setL (w * h) fun v => decide (v ∈ s'.2.1)]) n (wrap64 (st + 1)) (w : Int) (h : Int) a u ∧
   BInv w h (figMask (w : Int) (h : Int) a u) s0 P0 s'.1 s'.2.1 s'.2.2 (fun v d => v ∈ s'.2.1 ∧ d < 4) ∧ s'.2.1 = s.2.1 ++ t := by
 intro e
 induction e with
 | zero =>
  intro k p s h1 h2 h3 h4 I
  obtain ⟨k, rfl⟩ : ∃ q, k = q + 1 := ⟨k - 1, by omega⟩
  have hp : p = s.2.1.length := by omega
  subst hp
  rw [List.take_length] at I ⊢
  refine ⟨k, s, [], by omega, ?_, I, by rw [List.append_nil]⟩
  have c1 : ¬ ((s.2.1.length : Nat) : Int) < ((s.2.1.map fun i : Nat => (i : Int)).length : Int) := by rw [List.length_map]; exact Int.lt_irrefl _
  have c2 : out.length < 5864062014805 := by omega
  rw [spec_liRegions.l1, if_neg c1]
  by_cases ho : s.2.2 = true
  ·rw [if_pos ho, if_pos ho]
  ·rw [if_neg ho, if_neg ho, if_pos c2]
 | succ e ih =>
  intro k p s h1 h2 h3 h4 I
  obtain ⟨k, rfl⟩ : ∃ q, k = q + 1 := ⟨k - 1, by omega⟩
  rcases Nat.lt_or_ge p s.2.1.length with hp | hp
  ·have c1 : (p : Int) < ((s.2.1.map fun i : Nat => (i : Int)).length : Int) := by rw [List.length_map]; exact Int.ofNat_lt.2 hp
   have c2 : (0 : Int) ≤ (p : Int) := Int.natCast_nonneg p
   have c3 : ¬ (w : Int) = 0 := by have := g.w1; omega
   have hmem : s.2.1[p] ∈ s.2.1 := List.getElem_mem hp
   generalize hc : s.2.1[p] = c at hmem
   have hrd : rd (s.2.1.map fun i : Nat => (i : Int)) (p : Int) = (c : Int) := by
    unfold rd
    rw [Int.toNat_natCast, List.getD_eq_getElem?_getD, List.getElem?_map, List.getElem?_eq_getElem hp, hc]
    rfl
   have hcn := (I.mem c hmem).1
   have h16 := (edgN_le g).2
   have hlen := setL_len (w * h) fun v => decide (v ∈ s.2.1.take p)
   obtain ⟨r, hr, hrp, hrm, -⟩ := l1Put_f (setL (w * h) fun v => decide (v ∈ s.2.1.take p)) (c : Int) (setL_pw _ _) (by clear hrd hc I; omega) k (by clear hrd hc I; omega)
   have htk : s.2.1.take (p + 1) = s.2.1.take p ++ [c] := by rw [List.take_succ_eq_append_getElem hp, hc]
   have hre : r = setL (w * h) fun v => decide (v ∈ s.2.1.take (p + 1)) := by
    refine rising_setL hrp (fun x hx => ?_) (fun i hi => ?_)
    ·rcases (hrm x).1 hx with hx | rfl
     ·obtain ⟨j, rfl, hj, -⟩ := (setL_mem _ _ _).1 hx
      exact ⟨Int.natCast_nonneg _, Int.ofNat_lt.2 hj⟩
     ·exact ⟨Int.natCast_nonneg _, Int.ofNat_lt.2 hcn⟩
    ·rw [hrm, setL_in, decide_eq_true_eq, decide_eq_true_eq, htk, List.mem_append, List.mem_singleton]
     constructor
     ·rintro (q | q)
      ·exact .inl ⟨hi, q⟩
      ·exact .inr (by rw [q])
     ·rintro (q | q)
      ·exact .inl q.2
      ·exact .inr (Int.ofNat.inj q)
   have hx : Int.tmod (c : Int) (w : Int) = ((c % w : Nat) : Int) := rfl
   have hy : Int.tdiv (c : Int) (w : Int) = ((c / w : Nat) : Int) := rfl
   have hy2 : wrap64 ((c / w : Nat) : Int) = ((c / w : Nat) : Int) := by
    have := (cell_xy hcn).2.1
    have := g.h4
    clear hrm hre hr hrp hrd hc
    generalize c / w = y at *
    unfold wrap64; omega
   have e1 : wrap64 ((p : Int) + 1) = ((p + 1 : Nat) : Int) := by
    clear hrm hre hr hrp hrd hc hlen hx hy hy2 I htk
    unfold wrap64; omega
   obtain ⟨k1, s1, t1, b1, b2, b3, b4, b5⟩ := rs_pop g hf ha hu (c := c) k (by clear hrd hc I hrm hre; omega) out r (p : Int) n st s I hmem h3
   have b5l : s1.2.1.length = s.2.1.length + t1.length := by rw [b5, List.length_append]
   obtain ⟨k2, s2, t2, d1, d2, d3, d4⟩ := ih k1 (p + 1) s1 (by clear hrd hc I hrm hre e1 hx hy hy2 hlen; omega) (by clear hrd hc I hrm hre e1 hx hy hy2 hlen; omega) (by rw [b4]; exact h3) (by clear hrd hc I hrm hre e1 hx hy hy2 hlen; omega) (b3.weak (by
    rintro v d ⟨hv, hd⟩
    rw [b5, List.take_append_of_le_length hp, htk, List.mem_append, List.mem_singleton] at hv
    rcases hv with hv | hv
    ·exact .inl ⟨hv, hd⟩
    ·exact .inr ⟨hv, hd⟩))
   refine ⟨k2, s2, t1 ++ t2, by clear hrd hc I hrm hre e1 hx hy hy2 hlen; omega, ?_, d3, by rw [d4, b5, List.append_assoc]⟩
   rw [spec_liRegions.l1, if_pos c1, if_pos c2, if_neg c3, hrd, hr, Option.bind_some, hx, hy, hy2]
   refine b2.trans ?_
   rw [e1, hre, ← d2, b5, List.take_append_of_le_length hp]
  ·-- nothing left to pop: only unseen cells
   have hp2 : p = s.2.1.length := by omega
   subst hp2
   rw [List.take_length] at I ⊢
   refine ⟨k, s, [], by omega, ?_, I, by rw [List.append_nil]⟩
   have c1 : ¬ ((s.2.1.length : Nat) : Int) < ((s.2.1.map fun i : Nat => (i : Int)).length : Int) := by rw [List.length_map]; exact Int.lt_irrefl _
   have c2 : out.length < 5864062014805 := by omega
   rw [spec_liRegions.l1, if_neg c1]
   by_cases ho : s.2.2 = true
   ·rw [if_pos ho, if_pos ho]
   ·rw [if_neg ho, if_neg ho, if_pos c2]
def labQ (f : Nat → Nat) (n i : Nat) : List (List Int) := ((List.range i).filter fun v => f v == v && f n != v).map fun v => setL n fun u => f u == v
theorem labQ_len (f : Nat → Nat) (n i : Nat) : (labQ f n i).length ≤ i := by
 unfold labQ
 rw [List.length_map]
 have := List.length_filter_le (fun v => f v == v && f n != v) (List.range i)
 rw [List.length_range] at this
 exact this
theorem labQ_no {f : Nat → Nat} {n i : Nat} (h : (f i == i && f n != i) = false) : labQ f n (i + 1) = labQ f n i := by
 unfold labQ
 rw [List.range_succ, List.filter_append, List.filter_cons, List.filter_nil, if_neg (by rw [h]; decide), List.append_nil]
theorem labQ_yes {f : Nat → Nat} {n i : Nat} (h : (f i == i && f n != i) = true) : labQ f n (i + 1) = labQ f n i ++ [setL n fun u => f u == i] := by
 unfold labQ
 rw [List.range_succ, List.filter_append, List.filter_cons, List.filter_nil, if_pos h, List.map_append]
 rfl
theorem cadj_conn {w h m a b : Nat} (H : Conn (CAdj w h m) a b) : Conn (AdjM (besN w h) m (edgN w h)) a b := H.mono fun _ _ q => q.1
theorem rs_l0 {w h : Nat} {a u : List Int} (g : Grid4 w h) (hf : figB (w : Int) (h : Int) a u = true) (ha : a.length ≤ 1000000) (hu : u.length ≤ 1000000) {f : Nat → Nat} (L : Lab (besN w h) (figMask (w : Int) (h : Int) a u) (edgN w h) (w * h) f) :
  ∀ (d k i : Nat) (S : List Bool), w * h - i = d → i ≤ w * h → 500 * d + 1000020 ≤ k → S.length = w * h →
   (∀ v, v < w * h → (S.getD v false = true ↔ ∃ z, z < i ∧ Conn (CAdj w h (figMask (w : Int) (h : Int) a u)) z v)) →
  spec_liRegions.l0 k (w : Int) (h : Int) S (labQ f (w * h) i) ((w * h : Nat) : Int) (i : Int) (w : Int) (h : Int) a u = some (labQ f (w * h) (w * h)) := by
 have h16 := (edgN_le g).2
 intro d
 induction d with
 | zero =>
  intro k i S h1 h2 h3 h4 h5
  obtain ⟨k, rfl⟩ : ∃ q, k = q + 1 := ⟨k - 1, by omega⟩
  have : i = w * h := by omega
  subst this
  rw [spec_liRegions.l0, if_neg (Int.lt_irrefl _)]
 | succ d ih =>
  intro k i S h1 h2 h3 h4 h5
  obtain ⟨k, rfl⟩ : ∃ q, k = q + 1 := ⟨k - 1, by omega⟩
  have hin : i < w * h := by omega
  have c1 : (i : Int) < ((w * h : Nat) : Int) := Int.ofNat_lt.2 hin
  have c2 : (0 : Int) ≤ (i : Int) := Int.natCast_nonneg i
  have c3 : (i : Int) < (S.length : Int) := by rw [h4]; exact c1
  have e1 : wrap64 ((i : Int) + 1) = ((i + 1 : Nat) : Int) := by clear c3 ih h5 L; unfold wrap64; omega
  have hrd : rdOf false S (i : Int) = S.getD i false := by unfold rdOf; rw [Int.toNat_natCast]
  rw [spec_liRegions.l0, if_pos c1, if_pos c2, if_pos c3, hrd, e1]
  by_cases hs : S.getD i false = true
  ·rw [if_pos hs]
   obtain ⟨z, hz, hzi⟩ := (h5 i hin).1 hs
   have hno : (f i == i && f (w * h) != i) = false := by
    have s := L.same z i (by omega) (cadj_conn hzi)
    have l := L.low z (by omega)
    have : ¬ f i = i := by omega
    rw [beq_eq_false_iff_ne.2 this]
    rfl
   rw [← labQ_no hno]
   refine ih k (i + 1) S (by omega) (by omega) (by omega) h4 (fun v hv => ?_)
   rw [h5 v hv]
   constructor
   ·rintro ⟨y, hy, q⟩; exact ⟨y, by omega, q⟩
   ·rintro ⟨y, hy, q⟩
    rcases Nat.lt_or_ge y i with hyi | hyi
    ·exact ⟨y, hyi, q⟩
    ·have : y = i := by omega
     subst this
     exact ⟨z, hz, hzi.trans q⟩
  ·rw [if_neg hs, Int.toNat_natCast]
   have hs' : S.getD i false = false := by simpa using hs
   have hnP : ¬ ∃ z, z < i ∧ Conn (CAdj w h (figMask (w : Int) (h : Int) a u)) z i := fun q => hs ((h5 i hin).2 q)
   have hiS : i < S.length := by rw [h4]; exact hin
   have hcnt := count_set S i hiS hs'
   have hcl := List.count_le_length (a := false) (l := S)
   have I0 : BInv w h (figMask (w : Int) (h : Int) a u) i (fun v => ∃ z, z < i ∧ Conn (CAdj w h (figMask (w : Int) (h : Int) a u)) z v) (S.set i true) [i] false (fun v d => v ∈ ([i] : List Nat).take 0 ∧ d < 4) := by
    refine ⟨by rw [List.length_set]; exact h4, ?_, ?_, fun q => absurd q (by decide), ?_⟩
    ·intro v hv
     rw [List.mem_singleton] at hv
     subst hv
     exact ⟨hin, .refl⟩
    ·intro v hv
     rw [getD_set _ _ _ hiS, List.mem_singleton]
     by_cases hvi : v = i
     ·rw [if_pos hvi]; exact ⟨fun _ => .inr hvi, fun _ => rfl⟩
     ·rw [if_neg hvi, h5 v hv]
      exact ⟨fun q => .inl q, fun q => q.elim id (fun q => absurd q hvi)⟩
    ·rintro v d ⟨hv, -⟩
     rw [List.take_zero] at hv
     cases hv
   have hol := labQ_len f (w * h) i
   obtain ⟨k', s', t, p1, p2, I, p3⟩ := rs_l1 g hf ha hu (labQ f (w * h) i) (by omega) ((w * h : Nat) : Int) (i : Int) (1 + (S.set i true).count false) k 0 (S.set i true, [i], false) (by simp) (by simp) (by simp only [List.length_singleton]; omega) (by omega) I0
   have hz : (setL (w * h) fun v => decide (v ∈ ([i] : List Nat).take 0)) = [] := by
    have := setL_pw (w * h) (fun v => decide (v ∈ ([i] : List Nat).take 0))
    cases hE : setL (w * h) (fun v => decide (v ∈ ([i] : List Nat).take 0)) with
    | nil => rfl
    | cons x r =>
     have hx : x ∈ setL (w * h) (fun v => decide (v ∈ ([i] : List Nat).take 0)) := by rw [hE]; exact List.mem_cons_self
     obtain ⟨j, -, -, hj⟩ := (setL_mem _ _ _).1 hx
     simp at hj
   dsimp only at p2
   rw [hz] at p2
   have hiq : i ∈ s'.2.1 := by rw [p3]; exact List.mem_append_left _ List.mem_cons_self
   have back : ∀ {x y : Nat}, Conn (CAdj w h (figMask (w : Int) (h : Int) a u)) x y → Conn (CAdj w h (figMask (w : Int) (h : Int) a u)) y x := fun q => q.symm fun _ _ => CAdj.symm
   have nP : ∀ v, v ∈ s'.2.1 → ¬ ∃ z, z < i ∧ Conn (CAdj w h (figMask (w : Int) (h : Int) a u)) z v := fun v hv ⟨z, hz1, hz2⟩ => hnP ⟨z, hz1, hz2.trans (back (I.mem v hv).2)⟩
   have cls : ∀ v b, v ∈ s'.2.1 → b < w * h → AdjM (besN w h) (figMask (w : Int) (h : Int) a u) (edgN w h) v b → b ∈ s'.2.1 := by
    intro v b hv hb hvb
    have hvn := (I.mem v hv).1
    obtain ⟨e, he, hm, hd⟩ := (dirAdj g hvn).1 hvb
    rcases I.done v e ⟨hv, he⟩ hm with ⟨q1, -⟩ | ⟨q1, q2⟩
    ·omega
    ·rw [hd] at q2
     rcases (I.seen b hb).1 q2 with ⟨z, hz1, hz2⟩ | q
     ·exact absurd ⟨z, hz1, hz2.trans (back (Conn.step .refl ⟨hvb, hvn, hb⟩))⟩ (nP v hv)
     ·exact q
   have comp : ∀ v, Conn (CAdj w h (figMask (w : Int) (h : Int) a u)) i v → v ∈ s'.2.1 := by
    intro v hv
    induction hv with
    | refl => exact hiq
    | step _ q2 ihv => exact cls _ _ ihv q2.2.2 q2.1
   have hout : (if s'.2.2 = true then labQ f (w * h) i else labQ f (w * h) i ++ [setL (w * h) fun v => decide (v ∈ s'.2.1)]) = labQ f (w * h) (i + 1) := by
    by_cases ho : s'.2.2 = true
    ·rw [if_pos ho]
     obtain ⟨z, z1, z2, z3⟩ := I.opn ho
     have s1 := L.same i z (by omega) (cadj_conn z2)
     have s2 := L.same z (w * h) (by omega) (.step .refl z3)
     rw [labQ_no]
     by_cases hfi : f i = i
     ·have : f (w * h) = i := by omega
      rw [this]
      simp
     ·rw [beq_eq_false_iff_ne.2 hfi]
      rfl
    ·rw [if_neg ho]
     have cl2 : ∀ v, Conn (AdjM (besN w h) (figMask (w : Int) (h : Int) a u) (edgN w h)) i v → v ∈ s'.2.1 := by
      intro v hv
      induction hv with
      | refl => exact hiq
      | step _ q2 ihv =>
       rename_i x b _
       have hvn := (I.mem x ihv).1
       obtain ⟨e, he, hm, hd⟩ := (dirAdj g hvn).1 q2
       rcases I.done x e ⟨ihv, he⟩ hm with ⟨-, q⟩ | ⟨q1, -⟩
       ·exact absurd q ho
       ·have := (dirF g hvn he).2.1
        exact cls x b ihv (by omega) q2
     have sy : ∀ {x y : Nat}, Conn (AdjM (besN w h) (figMask (w : Int) (h : Int) a u) (edgN w h)) x y → Conn (AdjM (besN w h) (figMask (w : Int) (h : Int) a u) (edgN w h)) y x := fun q => q.symm fun _ _ => AdjM.symm
     have fi : f i = i := by
      have q := cl2 _ (L.conn i (by omega))
      have l := L.low i (by omega)
      rcases Nat.lt_or_ge (f i) i with hlt | hge
      ·exact absurd ⟨f i, hlt, back (I.mem _ q).2⟩ hnP
      ·omega
     have fn : ¬ f (w * h) = i := by
      intro q
      have c := L.conn (w * h) (Nat.le_refl _)
      rw [q] at c
      have := (I.mem _ (cl2 _ (sy c))).1
      omega
     rw [labQ_yes (by rw [fi, beq_self_eq_true, bne_iff_ne.2 fn]; rfl)]
     congr 2
     refine setL_congr (fun v hv => ?_)
     rw [Bool.eq_iff_iff, decide_eq_true_eq, beq_iff_eq]
     constructor
     ·intro q
      have := L.same i v (by omega) (cadj_conn (I.mem v q).2)
      omega
     ·intro q
      have c := L.conn v (by omega)
      rw [q] at c
      exact cl2 v (sy c)
   rw [hout, e1] at p2
   refine p2.trans ?_
   refine ih k' (i + 1) s'.1 (by omega) (by omega) (by omega) I.len (fun v hv => ?_)
   rw [I.seen v hv]
   constructor
   ·rintro (⟨z, hz1, hz2⟩ | q)
    ·exact ⟨z, by omega, hz2⟩
    ·exact ⟨i, by omega, (I.mem v q).2⟩
   ·rintro ⟨z, hz1, hz2⟩
    rcases Nat.lt_or_ge z i with hzi | hzi
    ·exact .inl ⟨z, hzi, hz2⟩
    ·have : z = i := by omega
     subst this
     exact .inr (comp v hz2)
theorem liRegions_f {w h : Nat} {a u : List Int} (g : Grid4 w h) (hf : figB (w : Int) (h : Int) a u = true) (ha : a.length ≤ 1000000) (hu : u.length ≤ 1000000) (k : Nat) (hk : 1100000 ≤ k) : spec_liRegions.f k (w : Int) (h : Int) a u = some (labOut (labF (besN w h) (figMask (w : Int) (h : Int) a u) (edgN w h) (w * h + 1)) (w * h)) := by
 have h16 := (edgN_le g).2
 have e0 : wrap64 ((w : Int) * (h : Int)) = ((w * h : Nat) : Int) := by
  rw [← Int.natCast_mul]
  generalize w * h = n at h16
  unfold wrap64; omega
 have L := lab_done (m := figMask (w : Int) (h : Int) a u) (besLe g)
 unfold spec_liRegions.f
 rw [e0, if_pos (Int.natCast_nonneg _), Int.toNat_natCast, if_pos (by omega), Option.bind_some, List.length_replicate]
 refine (rs_l0 g hf ha hu L (w * h) k 0 (List.replicate (w * h) false) (by omega) (by omega) (by omega) (List.length_replicate ..) (fun v hv => ?_)).trans rfl
 rw [List.getD_eq_getElem?_getD, List.getElem?_replicate, if_pos hv]
 constructor
 ·intro q; cases q
 ·rintro ⟨z, hz, -⟩; omega
theorem labOut_len (f : Nat → Nat) (n : Nat) : (labOut f n).length ≤ n ∧ ∀ x ∈ labOut f n, x.length ≤ n := by
 refine ⟨labQ_len f n n, fun x hx => ?_⟩
 unfold labOut at hx
 obtain ⟨v, -, rfl⟩ := List.mem_map.1 hx
 exact setL_len _ _


theorem popT_B (X : Nat) : ∀ n, popT X n = popB n X
 | 0 => rfl
 | n + 1 => by
  rw [popT, popT_B X n, popB_add n 1]
  congr 1
  have : popB 1 (X / 2 ^ n) = X / 2 ^ n % 2 := by
   show X / 2 ^ n % 2 + 0 = _
   omega
  rw [this]
  have ht : X.testBit n = decide (X / 2 ^ n % 2 = 1) := Nat.testBit_eq_decide_div_mod_eq
  by_cases h : X.testBit n = true
  ·rw [if_pos h]
   rw [h, eq_comm, decide_eq_true_iff] at ht
   rw [ht]
  ·rw [if_neg h]
   rw [Bool.not_eq_true] at h
   rw [h, eq_comm, decide_eq_false_iff_not] at ht
   omega
theorem adj_rel {w h : Nat} (g : Grid4 w h) (m a b : Nat) : AdjM (besN w h) m (edgN w h) a b ↔ RelE (c1N w h) (c2N w h) (edgN w h) (fun k => !upT m (edgN w h) k) a b := by
 constructor
 ·rintro ⟨k, hk, hm, hb⟩
  rw [(net_k g hk).2.2.2.2] at hb
  refine ⟨k, hk, by show (!upT m (edgN w h) k) = true; unfold upT; rw [hm]; simp, ?_⟩
  rcases hb with hb | hb
  ·injection hb with q1 q2; exact .inl ⟨q1, q2⟩
  ·injection hb with q1 q2; exact .inr ⟨q1, q2⟩
 ·rintro ⟨k, hk, hm, hb⟩
  refine ⟨k, hk, ?_, ?_⟩
  ·have hm : (!upT m (edgN w h) k) = true := hm
   unfold upT at hm
   rw [decide_eq_true hk, Bool.true_and, Bool.not_eq_true'] at hm
   exact hm
  ·rw [(net_k g hk).2.2.2.2]
   rcases hb with ⟨q1, q2⟩ | ⟨q1, q2⟩
   ·exact .inl (by rw [q1, q2])
   ·exact .inr (by rw [q1, q2])
theorem range_filter_last {p : Nat → Bool} {n : Nat} (h : p n = false) : (List.range (n + 1)).countP p = (List.range n).countP p := by
 rw [List.range_succ, List.countP_append, List.countP_cons, List.countP_nil, h]
 simp
theorem lab_count {B : Nat → Nat × Nat} {m M n : Nat} {f : Nat → Nat} (L : Lab B m M n f) : (labOut f n).length + 1 = ncN (AdjM B m M) (n + 1) := by
 have hs : ∀ a b, AdjM B m M a b → AdjM B m M b a := fun _ _ => AdjM.symm
 have hroot : ∀ v, v ≤ n → (f v = v ↔ ∀ u, u < v → ¬ Conn (AdjM B m M) u v) := by
  intro v hv
  constructor
  ·intro hf u hu hc
   have h1 := L.same u v (by omega) hc
   have h2 := L.low u (by omega)
   omega
  ·intro hr
   have h1 := L.low v hv
   rcases Nat.lt_or_ge (f v) v with h2 | h2
   ·exact absurd ((L.conn v hv).symm hs) (hr _ h2)
   ·omega
 have hfn := L.low n (Nat.le_refl _)
 have hidem : f (f n) = f n := (L.same n (f n) (Nat.le_refl _) (L.conn n (Nat.le_refl _))).symm
 have h1 : ncN (AdjM B m M) (n + 1) = (List.range (n + 1)).countP fun v => f v == v := by
  unfold ncN
  refine List.countP_congr fun v hv => ?_
  have hv := List.mem_range.1 hv
  rw [@decide_eq_true_iff _ (Classical.propDecidable _), beq_iff_eq]
  exact (hroot v (by omega)).symm
 rw [h1, countP_less (p := fun v => f v == v) (r := f n) (by rw [beq_iff_eq]; exact hidem), if_pos (by omega)]
 congr 1
 have h2 : (fun x => (f x == x) && !(x == f n)) n = false := by
  show ((f n == n) && !(n == f n)) = false
  by_cases h : f n = n
  ·rw [h]; simp
  ·rw [show (f n == n) = false by simpa using h]; rfl
 rw [range_filter_last (p := fun x => (f x == x) && !(x == f n)) h2]
 unfold labOut
 rw [List.length_map, ← List.countP_eq_length_filter]
 refine List.countP_congr fun v _ => ?_
 rw [Bool.and_eq_true, Bool.and_eq_true, Bool.not_eq_true', beq_eq_false_iff_ne, bne_iff_ne]
 exact ⟨fun ⟨a, b⟩ => ⟨a, fun e => b e.symm⟩, fun ⟨a, b⟩ => ⟨a, fun e => b e.symm⟩⟩
theorem pair_lt {w h : Nat} (g : Grid4 w h) : (cornL (w : Int) (h : Int)).Pairwise fun a b => numV (w : Int) a < numV (w : Int) b := by
 have h1 : ((cornL (w : Int) (h : Int)).map (numV (w : Int))).Pairwise (· < ·) := by
  rw [cr_nums g]; exact List.pairwise_lt_range
 exact List.pairwise_map.1 h1
theorem holes_eq {w h : Nat} (g : Grid4 w h) (G : GridOK (w : Int) (h : Int)) (m : Nat) {f : Nat → Nat} (L : Lab (besN w h) m (edgN w h) (w * h) f) :
  popB (edgN w h) m + (partsL (w : Int) (h : Int) (cornL (w : Int) (h : Int)) m).length = ((cornL (w : Int) (h : Int)).filter fun c => decide (0 < meetE (w : Int) (h : Int) m c.f0 c.f1)).length + (labOut f (w * h)).length := by
 have hE := (net_of g).euler m (edgN w h) (Nat.le_refl _)
 have hP := parts_count G (cornL (w : Int) (h : Int)) m (pair_lt g)
 have hD := lab_count L
 have hD2 : ncN (AdjM (besN w h) m (edgN w h)) (w * h + 1) = ncN (RelE (c1N w h) (c2N w h) (edgN w h) fun k => !upT m (edgN w h) k) (w * h + 1) := ncN_congr _ fun u v _ _ => conn_iff fun a b => adj_rel g m a b
 have hR : (cornL (w : Int) (h : Int)).countP (rootC (w : Int) (h : Int) m (cornL (w : Int) (h : Int))) = ncN (RelE (e1N w h) (e2N w h) (edgN w h) (upT m (edgN w h))) ((w + 1) * (h + 1)) := by
  unfold ncN
  rw [← cr_nums g, List.countP_map]
  refine List.countP_congr fun c hc => ?_
  have hcin := cornL_in G c hc
  show rootC _ _ _ _ c = true ↔ @decide _ (Classical.propDecidable _) = true
  unfold rootC
  rw [dcB_iff, @decide_eq_true_iff _ (Classical.propDecidable _)]
  constructor
  ·intro q x hx hconn
   have hnv : numV (w : Int) c < (w + 1) * (h + 1) := by
    have : numV (w : Int) c ∈ (cornL (w : Int) (h : Int)).map (numV (w : Int)) := List.mem_map.2 ⟨c, hc, rfl⟩
    rw [cr_nums g] at this
    exact List.mem_range.1 this
   have hxm : x ∈ (cornL (w : Int) (h : Int)).map (numV (w : Int)) := by
    rw [cr_nums g]; exact List.mem_range.2 (by omega)
   obtain ⟨u, hu, rfl⟩ := List.mem_map.1 hxm
   exact q u hu hx ((reach_iff g G (cornL_in G u hu) hcin).2 hconn)
  ·intro q u hu hlt hr
   exact q _ hlt ((reach_iff g G (cornL_in G u hu) hcin).1 hr)
 have hU : ((cornL (w : Int) (h : Int)).countP fun c => !dcB (UsedC (w : Int) (h : Int) m c)) + ((cornL (w : Int) (h : Int)).filter fun c => decide (0 < meetE (w : Int) (h : Int) m c.f0 c.f1)).length = (w + 1) * (h + 1) := by
  have h1 := countP_split (fun _ => true) (fun c => decide (0 < meetE (w : Int) (h : Int) m c.f0 c.f1)) (cornL (w : Int) (h : Int))
  have h2 : (cornL (w : Int) (h : Int)).countP (fun _ => true) = (w + 1) * (h + 1) := by
   rw [List.countP_eq_length.2 (fun _ _ => rfl)]
   have := congrArg List.length (cr_nums g)
   rw [List.length_map, List.length_range] at this
   exact this
  have h3 : ((cornL (w : Int) (h : Int)).countP fun c => !dcB (UsedC (w : Int) (h : Int) m c)) = (cornL (w : Int) (h : Int)).countP fun c => true && !decide (0 < meetE (w : Int) (h : Int) m c.f0 c.f1) := by
   refine List.countP_congr fun c _ => ?_
   rw [Bool.true_and, Bool.not_eq_true', Bool.not_eq_true', decide_eq_false_iff_not, meet_pos]
   exact ⟨fun q z => (by rw [dcB_iff.2 z] at q; cases q), fun q => dcB_no q⟩
  rw [h3, ← List.countP_eq_length_filter]
  rw [h2] at h1
  simp only [Bool.true_and] at h1 ⊢
  omega
 rw [← popT_B]
 rw [hR] at hP
 rw [← hD2, ← hD] at hE
 omega
theorem CountHoles_pure {w h : Int} {a u : List Int} (ha : a.length ≤ 1000000) (hu : u.length ≤ 1000000) : ∃ r1 r2, spec_CountHoles.f 4000001 w h a u = some (r1, r2) ∧ impl_CountHoles.f 4000001 w h a u = some (r1, r2) := by
 cases hf : figB w h a u with
 | false =>
  refine ⟨0, false, ?_, ?_⟩
  ·unfold spec_CountHoles.f
   rw [fiGood_f w h a u ha hu _ (by decide), hf, Option.bind_some, if_neg (by decide)]
  ·unfold impl_CountHoles.f impl_CornersUsed.f
   rw [cornersOf_no _ hf ha hu _ (by decide), Option.bind_some, if_neg (by decide)]
 | true =>
  have G := gridOK_of hf
  obtain ⟨W, rfl⟩ := Int.eq_ofNat_of_zero_le (show 0 ≤ w by have := G.w1; omega)
  obtain ⟨H, rfl⟩ := Int.eq_ofNat_of_zero_le (show 0 ≤ h by have := G.h1; omega)
  have g : Grid4 W H := ⟨by have := G.w1; omega, by have := G.w4; omega, by have := G.h1; omega, by have := G.h4; omega⟩
  have hM := figMask_figN hf
  have hM60 := figMask_lt hf
  have hst := set_f hf ha hu 4000001 (by decide)
  have h40 := (edgN_le g).1
  have hL := lab_done (m := figMask (W : Int) (H : Int) a u) (besLe g)
  have heq := holes_eq g G (figMask (W : Int) (H : Int) a u) hL
  have hlo := labOut_len (labF (besN W H) (figMask (W : Int) (H : Int) a u) (edgN W H) (W * H + 1)) (W * H)
  have h16 := (edgN_le g).2
  have hpl := partsL_len (W : Int) (H : Int) (cornL (W : Int) (H : Int)) (figMask (W : Int) (H : Int) a u)
  have hcl := cornL_len G
  have hpb := popB_le (edgN W H) (figMask (W : Int) (H : Int) a u)
  have hC : impl_set_count.f ((figMask (W : Int) (H : Int) a u : Nat) : Int) = some ((popB (edgN W H) (figMask (W : Int) (H : Int) a u) : Nat) : Int) := by
   unfold impl_set_count.f
   rw [ones_f _ hM60, Option.bind_some]
   have h3 : (60 : Nat) = edgN W H + (60 - edgN W H) := by omega
   have h4 : popB 60 (figMask (W : Int) (H : Int) a u) = popB (edgN W H) (figMask (W : Int) (H : Int) a u) := by
    rw [h3, popB_add, Nat.div_eq_of_lt (by rw [← edg_fig]; exact hM), popB_zero, Nat.add_zero]
   rw [h4]
  refine ⟨((labOut (labF (besN W H) (figMask (W : Int) (H : Int) a u) (edgN W H) (W * H + 1)) (W * H)).length : Int), true, ?_, ?_⟩
  ·unfold spec_CountHoles.f
   rw [fiGood_f _ _ a u ha hu _ (by decide), hf, Option.bind_some, if_pos rfl, liRegions_f g hf ha hu _ (by decide), Option.bind_some]
  ·unfold impl_CountHoles.f impl_CornersUsed.f impl_Figure_grid.f
   rw [cornersOf_f _ hf ha hu _ (by decide), Option.bind_some, if_pos rfl, hst, Option.bind_some, hC, Option.bind_some, Option.bind_some, Option.bind_some]
   dsimp only
   rw [implParts_f G hM _ (by decide), Option.bind_some, List.length_map]
   have hfl : ∀ q : S41 → Bool, ((cornL (W : Int) (H : Int)).filter q).length ≤ 25 := fun q => Nat.le_trans (List.length_filter_le _ _) hcl
   have hfe : ((cornL (W : Int) (H : Int)).filter fun c => decide (meetE (W : Int) (H : Int) (figMask (W : Int) (H : Int) a u) c.f0 c.f1 > 0)).length = ((cornL (W : Int) (H : Int)).filter fun c => decide (0 < meetE (W : Int) (H : Int) (figMask (W : Int) (H : Int) a u) c.f0 c.f1)).length := rfl
   rw [hfe]
   have hf25 := hfl fun c => decide (0 < meetE (W : Int) (H : Int) (figMask (W : Int) (H : Int) a u) c.f0 c.f1)
   generalize ((cornL (W : Int) (H : Int)).filter fun c => decide (0 < meetE (W : Int) (H : Int) (figMask (W : Int) (H : Int) a u) c.f0 c.f1)).length = U at *
   generalize (labOut (labF (besN W H) (figMask (W : Int) (H : Int) a u) (edgN W H) (W * H + 1)) (W * H)).length = O at *
   generalize (partsL (W : Int) (H : Int) (cornL (W : Int) (H : Int)) (figMask (W : Int) (H : Int) a u)).length = P at *
   generalize popB (edgN W H) (figMask (W : Int) (H : Int) a u) = B at *
   clear hM hM60 hst hC hL hf G
   have e1 : wrap64 ((B : Int) + (P : Int)) = ((B + P : Nat) : Int) := by unfold wrap64; omega
   have e2 : wrap64 (((B + P : Nat) : Int) - (U : Int)) = (O : Int) := by unfold wrap64; omega
   rw [e1, e2]

end Go.Proofs.Yteaglkpplgbpaaa.P
namespace Go.Proofs.Yteaglkpplgbpaaa.fnExactCountHoles
open Go.ChangeShapes Go.WideShapes Go.ChangeAt Go.RowKit Go.Proofs.YteaglkpplgbpaaaW.PrintWords Go.Joins
set_option linter.unusedVariables false
theorem own : ownKnob Try.prog.godebug = none := Closed.own
theorem laidOut : laidOutB Try.prog = true := Closed.laidOut
def IsRow (k : IntKind) (w : World) (a : Option Addr) (len cap : Nat) (zs : List Int) : Prop :=
 (a = none ∧ len = 0 ∧ cap = 0 ∧ zs = []) ∨
 ∃ x, a = some x ∧ len ≤ cap ∧ cap ≤ maxLen ∧ zs.length = cap ∧ (∀ i, i < zs.length → w.cell? (x.add i) = some (.int k (zs.getD i 0))) ∧ ∀ n ∈ zs, (Lit.int k n).wf = true
theorem opened {H : Type} {enc : TypeId × Value → H} {W : World} {m : Nat} {c : Value} {y : DataW H × List MemPlace} (hy : DataW.trod enc Try.prog W 0 (fun _ => true) true m 22 [c] = some y) :
  ∃ a len cap zs, c = .slice a len cap ∧ IsRow .i64 W a len cap zs := by
 rcases open_ints Try.underlying22 Try.underlying3 (by kernel_rfl) hy with ⟨hcs, _⟩ | ⟨x, l, c, zs, hcs, _, hl, hm, hz, _, hcell, hwz⟩
 ·simp at hcs
  exact ⟨none, 0, 0, [], hcs, .inl ⟨rfl, rfl, rfl, rfl⟩⟩
 ·simp at hcs
  exact ⟨some x, l, c, zs, hcs, .inr ⟨_, rfl, hl, hm, by simpa using hz, hcell, hwz⟩⟩
theorem walk (a b : Int) (A2 : Option Addr) (n2 c2 : Nat) (z2 : List Int) (A3 : Option Addr) (n3 c3 : Nat) (z3 : List Int)  (w : World) (w2 : IsRow .i64 w A2 n2 c2 z2) (w3 : IsRow .i64 w A3 n3 c3 z3) (y2 : n2 * 8 ≤ 140737488351232) (y3 : n3 * 8 ≤ 140737488351232) :
  Calls Try.prog 7 #[.agg #[.int .i64 a, .int .i64 b, .slice A2 n2 c2, .slice A3 n3 c3]] w fun e w' => e = .returned (.bool true) ∧ Below w.heap.size w w' := by
 obtain ⟨l2, rfl, hr2, hm2, hw2, hc2⟩ := ReadsInt.ofRowC w2
 obtain ⟨l3, rfl, hr3, hm3, hw3, hc3⟩ := ReadsInt.ofRowC w3
 have k2 := Kd.C_of_reads (d := (0 : Int)) (h1 := fun _ => rfl) hr2
 have k3 := Kd.C_of_reads (d := (0 : Int)) (h1 := fun _ => rfl) hr3
 by_cases hbig : l2.length + l3.length ≤ 1000000
 ·have b2 : l2.length ≤ 1000000 := Nat.le_trans (Nat.le_add_right _ _) hbig
  have b3 : l3.length ≤ 1000000 := Nat.le_trans (Nat.le_add_left _ _) hbig
  obtain ⟨r1, r2, hp1, hp2⟩ := P.CountHoles_pure (w := a) (h := b) (a := l2) (u := l3) b2 b3 
  exact P.law_CountHoles_yes a b A2 c2 l2 A3 c3 l3  4000001 r1 r2 (fun _ => True) (fun _ _ _ _ => trivial) w k2 hc2 k3 hc3 trivial hbig (Nat.lt_succ_self _)
   (fun B2 d2 B3 d3 W hu2 hd2 hu3 hd3 _ => P.spec_CountHoles.calls 4000001 a b B2 d2 l2 B3 d3 l3  r1 r2 W hu2 hd2 hu3 hd3 hp1)
   (fun B2 d2 B3 d3 W hu2 hd2 hu3 hd3 _ => P.impl_CountHoles.calls 4000001 a b B2 d2 l2 B3 d3 l3  r1 r2 W hu2 hd2 hu3 hd3 hp2)
 ·exact P.law_CountHoles_no a b A2 c2 l2 A3 c3 l3  w k2 hc2 k3 hc3 (by clear hbig; omega) (by clear hbig; omega) hbig
theorem joined_mk (P : Program) (f : FuncId) (fn : Func) (s : ChangeSpec) (c : OpenClaim) (k0 : (c.wf (OpenSpec.ofChange s)) = true) (k1 : (laidOutB P) = true) (k2 : (mapsRowed P) = true) (k3 : (fn.params.all (P.readableRec ·)) = true) (k4 : (namedTie P c.named s.vars) = true) (k5 : ((c.stops == [])) = true) (k6 : ((P.stops == [])) = true) (k7 : ((c.knobs == [])) = true) (k8 : ((P.stopKnobs == [])) = true) (k9 : ((c.inPlace == P.inPlace f)) = true) (k10 : ((c.unfollowed == P.unfollowed f)) = true) (k11 : ((c.recurses == P.recurses f)) = true) (k12 : ((c.named == P.varsNamed f)) = true) (k13 : ((c.maps == (fn.params.toList ++ s.plain.varTypes P).any (P.mapsRec ·))) = true) (k14 : ((c.ifaces == (fn.params.toList ++ s.plain.varTypes P).any (P.ifacesRec ·))) = true) (k15 : ((c.mapsOut == P.mapsAmong fn.resultTypes.toList)) = true) (k16 : ((c.loops == (fn.params.toList ++ s.plain.varTypes P).any (P.loopsFrom ·))) = true) (k17 : ((c.wideKeys == (fn.params.toList ++ s.plain.varTypes P ++ fn.resultTypes.toList).any (P.wideKeysFrom ·))) = true) (k18 : (s.vars.all (P.varReadable ·)) = true) (k19 : (fn.resultTypes.all (fun t => P.readableRec t && decide (t < P.types.size))) = true) (k20 : ((c.ifacesOut == fn.resultTypes.toList.any (P.ifacesRec ·))) = true) (k21 : ((c.loopsOut == fn.resultTypes.toList.any (P.loopsFrom ·))) = true) (k22 : ((c.plainKeys == P.plainKeys)) = true) (k23 : (c.shortTexts.isNone) = true) (k24 : (P.stopsHeard) = true) (k25 : (P.mayEnter) = true) (k26 : ((c.lifted == P.liftsFinal)) = true) (k27 : ((P.make == some c.make)) = true) (hd : c.domain.isEmpty = true) (k28 : (c.kinds == []) = true) (k29 : ((c.pinned == c.pinnedBy)) = true) (k30 : ((c.veiled == (fn.params.toList ++ s.plain.varTypes P ++ fn.resultTypes.toList).any (P.veiledRec ·))) = true) (k31 : (c.veiledFits P fn.params.toList (fn.params.toList ++ s.plain.varTypes P ++ fn.resultTypes.toList)) = true) : joinedFacts P f fn s c = true := by
 unfold joinedFacts
 simp only [hd, if_true, k0, k1, k2, k3, k4, k5, k6, k7, k8, k9, k10, k11, k12, k13, k14, k15, k16, k17, k18, k19, k20, k21, k22, k23, k24, k25, k26, k27, k28, k29, k30, k31, Bool.and_self]
set_option maxRecDepth 100000 in
theorem lifted (os : Os) (started : os.Started) (H : Type) (enc : TypeId × Value → H) :
  ReturnsInHanded {} Try.checked os 7 .any (Rows.fnExactCountHolesSpec.pre6 enc Try.prog Try.f7 Rows.fnExactCountHolesRow.domain false) (Rows.fnExactCountHolesSpec.post enc Try.prog Try.f7 false true false false) := by
 refine returnsInHanded_of_change_sized (C := Try.checked) own started (by kernel_rfl) Try.func7
  (ChangeSpec.witness6 (enc := enc) (C := Try.checked) false ⟨#[], #[.agg #[.int .i64 0, .int .i64 0, .slice none 0 0, .slice none 0 0]], []⟩ 8 (by kernel_rfl) (by kernel_rfl) (by kernel_rfl) (by kernel_rfl)) ?_
 intro W base args ds gs before hval0 hW hcnd hsz0 _
 have hsz : (DataW.weightsEach Try.prog (Try.f7.params.toList ++ Rows.fnExactCountHolesSpec.plain.varTypes Try.prog) (ds ++ gs)).all (· ≤ reachBytes) = true := hsz0
 have hval : ∀ (j : Nat) t v, Try.f7.params[j]? = some t → args[j]? = some v → Value.okWide Try.prog W .any base t v := hval0
 have hW' := hW
 obtain ⟨p, q, hA0, hV, rfl, hfz, hnd⟩ := hW
 have hA : DataW.TrodAll enc Try.prog W 0 (fun _ => true) true Try.f7.params.toList args.toList ds p := hA0
 rw [Try.params7] at hA hval hsz
 obtain ⟨v0, vs0, d0, ds0, p0, q0, hargs, rfl, rfl, h0, r0⟩ := trodAll_cons hA
 obtain ⟨rfl, rfl, rfl⟩ := trodAll_nil r0
 obtain rfl : args = #[v0] := by cases args; simp_all
 obtain ⟨rfl, rfl⟩ := trodVars_none hV
 have k0 := h0
 have lt0 : ∀ x ∈ p0, x.block < W.heap.size := by obtain ⟨m, hm⟩ := k0; exact DataW.trod_lt m _ _ _ hm

 obtain ⟨c0, c1, c2, c3, y0, y1, y2, y3, m, rfl, rfl, rfl, hy0, hy1, hy2, hy3⟩ := open_agg4 Try.underlying24 (by kernel_rfl) (by kernel_rfl) (hval 0 24 v0 rfl rfl) h0
 have hsz2 : (DataW.weightsEach Try.prog [3, 3, 22, 22] [y0.1, y1.1, y2.1, y3.1]).all (· ≤ reachBytes) = true := by
  rw [List.all_eq_true]
  intro n hn
  exact List.all_eq_true.1 hsz n (DataW.weights_mem_each (j := 0) (t := 24) (d := .agg [y0.1, y1.1, y2.1, y3.1]) rfl rfl n (by simp only [DataW.weights, Try.underlying24]; exact hn))
 obtain ⟨a, e0, -, wa⟩ := DataW.trod_int Try.underlying3 hy0
 obtain ⟨b, e1, -, wb⟩ := DataW.trod_int Try.underlying3 hy1
 obtain ⟨a2, len2, cap2, z2, rfl, w2⟩ := opened hy2
 obtain ⟨a3, len3, cap3, z3, rfl, w3⟩ := opened hy3
 have z2_ : len2 * 8 ≤ 140737488351232 := sized_ints hsz2 (j := 2) (t := 22) rfl rfl Try.underlying22 Try.underlying3 (by kernel_rfl) (by kernel_rfl) (⟨m, by simpa [Value.cells] using hy2⟩ : DataW.Trod enc Try.prog W 0 (fun _ => true) true 22 (.slice a2 len2 cap2) y2.1 y2.2)
 have z3_ : len3 * 8 ≤ 140737488351232 := sized_ints hsz2 (j := 3) (t := 22) rfl rfl Try.underlying22 Try.underlying3 (by kernel_rfl) (by kernel_rfl) (⟨m, by simpa [Value.cells] using hy3⟩ : DataW.Trod enc Try.prog W 0 (fun _ => true) true 22 (.slice a3 len3 cap3) y3.1 y3.2)
 obtain rfl : c0 = .int .i64 a := by simpa using e0
 obtain rfl : c1 = .int .i64 b := by simpa using e1
 clear hA0 hval0 hsz0 hsz hsz2
 refine (walk a b a2 len2 cap2 z2 a3 len3 cap3 z3  W w2 w3 z2_ z3_).mono fun e W' ⟨he, bel⟩ => ?_
 subst he
 exact ⟨_, rfl, _, _, _, [], _, [], hW', trodAll_mk1 (shut_bool Try.underlying4 _), (trodAll_cons_mk (Below.trod laidOut (by kernel_rfl) (of_decide_eq_true (by kernel_rfl)) k0 bel lt0) trodAll_mk0), rfl, bel.frame _, fun h => by cases h⟩
theorem k0_ : (Rows.fnExactCountHolesRow.wf (OpenSpec.ofChange Rows.fnExactCountHolesSpec)) = true := by kernel_rfl
theorem k1_ : (laidOutB Try.prog) = true := Closed.laidOut
theorem k2_ : (mapsRowed Try.prog) = true := Closed.mapsRowedP
theorem k3_ : (Try.f7.params.all (Try.prog.readableRec ·)) = true := by kernel_rfl
theorem k4_ : (namedTie Try.prog Rows.fnExactCountHolesRow.named Rows.fnExactCountHolesSpec.vars) = true := by kernel_rfl
theorem k5_ : ((Rows.fnExactCountHolesRow.stops == [])) = true := by kernel_rfl
theorem k6_ : ((Try.prog.stops == [])) = true := Closed.noStops
theorem k7_ : ((Rows.fnExactCountHolesRow.knobs == [])) = true := by kernel_rfl
theorem k8_ : ((Try.prog.stopKnobs == [])) = true := Closed.noKnobs
theorem k9_ : ((Rows.fnExactCountHolesRow.inPlace == Try.prog.inPlace 7)) = true := by kernel_rfl
theorem k10_ : ((Rows.fnExactCountHolesRow.unfollowed == Try.prog.unfollowed 7)) = true := by kernel_rfl
theorem k11_ : ((Rows.fnExactCountHolesRow.recurses == Try.prog.recurses 7)) = true := by kernel_rfl
theorem k12_ : ((Rows.fnExactCountHolesRow.named == Try.prog.varsNamed 7)) = true := by kernel_rfl
theorem k13_ : ((Rows.fnExactCountHolesRow.maps == (Try.f7.params.toList ++ Rows.fnExactCountHolesSpec.plain.varTypes Try.prog).any (Try.prog.mapsRec ·))) = true := by kernel_rfl
theorem k14_ : ((Rows.fnExactCountHolesRow.ifaces == (Try.f7.params.toList ++ Rows.fnExactCountHolesSpec.plain.varTypes Try.prog).any (Try.prog.ifacesRec ·))) = true := by kernel_rfl
theorem k15_ : ((Rows.fnExactCountHolesRow.mapsOut == Try.prog.mapsAmong Try.f7.resultTypes.toList)) = true := by kernel_rfl
theorem k16_ : ((Rows.fnExactCountHolesRow.loops == (Try.f7.params.toList ++ Rows.fnExactCountHolesSpec.plain.varTypes Try.prog).any (Try.prog.loopsFrom ·))) = true := by kernel_rfl
theorem k17_ : ((Rows.fnExactCountHolesRow.wideKeys == (Try.f7.params.toList ++ Rows.fnExactCountHolesSpec.plain.varTypes Try.prog ++ Try.f7.resultTypes.toList).any (Try.prog.wideKeysFrom ·))) = true := by kernel_rfl
theorem k18_ : (Rows.fnExactCountHolesSpec.vars.all (Try.prog.varReadable ·)) = true := by kernel_rfl
theorem k19_ : (Try.f7.resultTypes.all (fun t => Try.prog.readableRec t && decide (t < Try.prog.types.size))) = true := by kernel_rfl
theorem k20_ : ((Rows.fnExactCountHolesRow.ifacesOut == Try.f7.resultTypes.toList.any (Try.prog.ifacesRec ·))) = true := by kernel_rfl
theorem k21_ : ((Rows.fnExactCountHolesRow.loopsOut == Try.f7.resultTypes.toList.any (Try.prog.loopsFrom ·))) = true := by kernel_rfl
theorem k22_ : ((Rows.fnExactCountHolesRow.plainKeys == Try.prog.plainKeys)) = true := by kernel_rfl
theorem k23_ : (Rows.fnExactCountHolesRow.shortTexts.isNone) = true := by kernel_rfl
theorem k24_ : (Try.prog.stopsHeard) = true := Closed.stopsHeard
theorem k25_ : (Try.prog.mayEnter) = true := Closed.mayEnter
theorem k26_ : ((Rows.fnExactCountHolesRow.lifted == Try.prog.liftsFinal)) = true := by rw [Closed.liftsFinal]; kernel_rfl
theorem k27_ : ((Try.prog.make == some Rows.fnExactCountHolesRow.make)) = true := by rw [Closed.make]; kernel_rfl
theorem k28_ : ((Rows.fnExactCountHolesRow.kinds == [])) = true := by kernel_rfl
theorem k29_ : ((Rows.fnExactCountHolesRow.pinned == Rows.fnExactCountHolesRow.pinnedBy)) = true := by kernel_rfl
theorem k30_ : ((Rows.fnExactCountHolesRow.veiled == (Try.f7.params.toList ++ Rows.fnExactCountHolesSpec.plain.varTypes Try.prog ++ Try.f7.resultTypes.toList).any (Try.prog.veiledRec ·))) = true := by kernel_rfl
theorem k31_ : (Rows.fnExactCountHolesRow.veiledFits Try.prog Try.f7.params.toList (Try.f7.params.toList ++ Rows.fnExactCountHolesSpec.plain.varTypes Try.prog ++ Try.f7.resultTypes.toList)) = true := by kernel_rfl
theorem k99_ : (Rows.fnExactCountHolesRow.domain.isEmpty) = true := by kernel_rfl
theorem closed : joinedFacts Try.prog 7 Try.f7 Rows.fnExactCountHolesSpec Rows.fnExactCountHolesRow = true :=
 joined_mk _ _ _ _ _ k0_ k1_ k2_ k3_ k4_ k5_ k6_ k7_ k8_ k9_ k10_ k11_ k12_ k13_ k14_ k15_ k16_ k17_ k18_ k19_ k20_ k21_ k22_ k23_ k24_ k25_ k26_ k27_ k99_ k28_ k29_ k30_ k31_
theorem over : Rows.fnExactCountHolesRow.holds Try.pinned (OpenSpec.ofChange Rows.fnExactCountHolesSpec) :=
 OpenClaim.holds_of_wide 7 Try.f7 rfl rfl rfl rfl rfl rfl rfl ⟨rfl, rfl, rfl, rfl, rfl⟩ rfl rfl rfl rfl rfl (by kernel_rfl) Try.func7 closed
  (of_decide_eq_true (by kernel_rfl)) (by unfold Func.isWrapper; first | (rw [if_pos (by decide +kernel)]; kernel_rfl) | (rw [if_neg (by decide +kernel)]; exact ⟨rfl, rfl⟩))
  (fun os started H enc _ => lifted os started H enc)
theorem proved : Rows.FnExactCountHolesSaid := over
end Go.Proofs.Yteaglkpplgbpaaa.fnExactCountHoles
namespace Go.Proofs.Yteaglkpplgbpaaa
theorem fnExactCountHoles_holds : Rows.FnExactCountHolesSaid := fnExactCountHoles.proved
end Go.Proofs.Yteaglkpplgbpaaa
