/- For every input the law FnExactFigureText answers true: the program's FigureText tells what the reference's FigureText tells; no condition. (part 2 of the proof; the words of the kit's print tool and the texts of this seat, merged by a program) -/
import Derived.Below
import Derived.ChangeOld
import Derived.JoinedOf
import Derived.Laws.BytesArg
import Derived.Lib.Join
import Derived.Lib.SmallJoins
import Derived.OpenShut
import Derived.ProofKit
import Derived.Shelf.Strings.OnBuilder
import Derived.SizedLaws
import Derived.Test.YteaglkpplgbpaaaClosed
import Derived.Test.YteaglkpplgbpaaaPshelf
import Derived.Test.YteaglkpplgbpaaaRows
import Derived.WalkKit
import Derived.Test.YteaglkpplgbpaaaMFGT1
namespace Go.Proofs.Yteaglkpplgbpaaa.P
open Go.RowKit Go.Proofs.YteaglkpplgbpaaaW.PrintWords Go.Proofs.YteaglkpplgbpaaaW.PrintLast Go.Proofs.YteaglkpplgbpaaaW.PrintMore
attribute [local go_sem] max2_int min2_int max_two min_two max_three min_three max_four min_four   -- for this text's walks alone
set_option linter.unusedVariables false
set_option linter.unusedSimpArgs false

def risingB : List Int → Bool
 | a :: b :: t => decide (a < b) && risingB (b :: t)
 | _ => true
def inB (lo hi : Int) (l : List Int) : Bool := l.all fun x => decide (lo ≤ x) && decide (x ≤ hi)
theorem isRising_l0 (l : List Int) (hL : l.length ≤ 4000000) : ∀ (d k i : Nat), l.length - i = d → 1 ≤ i → i ≤ l.length → d < k → impl_isRising.l0 k l (i : Int) = some (risingB (l.drop (i - 1))) := by
 intro d
 induction d with
 | zero =>
  intro k i h1 h2 h3 h4
  obtain ⟨k, rfl⟩ : ∃ m, k = m + 1 := ⟨k - 1, by omega⟩
  simp only [impl_isRising.l0]
  rw [if_neg (by omega), List.drop_eq_getElem_cons (by omega), List.drop_of_length_le (by omega)]
  rfl
 | succ d ih =>
  intro k i h1 h2 h3 h4
  obtain ⟨k, rfl⟩ : ∃ m, k = m + 1 := ⟨k - 1, by omega⟩
  have e1 : wrap64 ((i : Int) - 1) = ((i - 1 : Nat) : Int) := by unfold wrap64; omega
  have e2 : wrap64 ((i : Int) + 1) = ((i + 1 : Nat) : Int) := by unfold wrap64; omega
  simp only [impl_isRising.l0]
  rw [if_pos (by omega), if_pos (by omega), e1, if_pos (by omega), if_pos (by omega), rd_nat l i (by omega), rd_nat l (i - 1) (by omega), e2, ih k (i + 1) (by omega) (by omega) (by omega) (by omega),
   List.drop_eq_getElem_cons (show i - 1 < l.length by omega), show i - 1 + 1 = i by omega, show i + 1 - 1 = i by omega, List.drop_eq_getElem_cons (show i < l.length by omega)]
  by_cases hlt : l[i] ≤ l[i - 1]
  ·rw [if_pos hlt]
   simp only [risingB]
   rw [decide_eq_false (by omega)]
   rfl
  ·rw [if_neg hlt]
   simp only [risingB]
   rw [decide_eq_true (by omega)]
   rfl
theorem isRising_f (l : List Int) (hL : l.length ≤ 4000000) (k : Nat) (hk : l.length + 1 < k) : impl_isRising.f k l = some (risingB l) := by
 unfold impl_isRising.f
 by_cases h0 : l.length = 0
 ·have : l = [] := List.length_eq_zero_iff.1 h0
  subst this
  obtain ⟨k, rfl⟩ : ∃ m, k = m + 1 := ⟨k - 1, by omega⟩
  simp only [impl_isRising.l0]
  rw [if_neg (by simp)]
  rfl
 ·exact isRising_l0 l hL (l.length - 1) k 1 rfl (by omega) (by omega) (by omega)
theorem fiRises_l0 (l : List Int) (hL : l.length ≤ 4000000) : ∀ (d k i : Nat), l.length - i = d → 1 ≤ i → i ≤ l.length → d < k → spec_fiRises.l0 k l (i : Int) = some (risingB (l.drop (i - 1))) := by
 intro d
 induction d with
 | zero =>
  intro k i h1 h2 h3 h4
  obtain ⟨k, rfl⟩ : ∃ m, k = m + 1 := ⟨k - 1, by omega⟩
  simp only [spec_fiRises.l0]
  rw [if_neg (by omega), List.drop_eq_getElem_cons (by omega), List.drop_of_length_le (by omega)]
  rfl
 | succ d ih =>
  intro k i h1 h2 h3 h4
  obtain ⟨k, rfl⟩ : ∃ m, k = m + 1 := ⟨k - 1, by omega⟩
  have e1 : wrap64 ((i : Int) - 1) = ((i - 1 : Nat) : Int) := by unfold wrap64; omega
  have e2 : wrap64 ((i : Int) + 1) = ((i + 1 : Nat) : Int) := by unfold wrap64; omega
  simp only [spec_fiRises.l0]
  rw [if_pos (by omega), e1, if_pos (by omega), if_pos (by omega), if_pos (by omega), rd_nat l i (by omega), rd_nat l (i - 1) (by omega), e2, ih k (i + 1) (by omega) (by omega) (by omega) (by omega),
   List.drop_eq_getElem_cons (show i - 1 < l.length by omega), show i - 1 + 1 = i by omega, show i + 1 - 1 = i by omega, List.drop_eq_getElem_cons (show i < l.length by omega)]
  by_cases hlt : l[i - 1] ≥ l[i]
  ·rw [if_pos hlt]
   simp only [risingB]
   rw [decide_eq_false (by omega)]
   rfl
  ·rw [if_neg hlt]
   simp only [risingB]
   rw [decide_eq_true (by omega)]
   rfl
theorem l1All_l0 (l : List Int) (lo hi : Int) (hL : l.length ≤ 4000000) : ∀ (d k i : Nat), l.length - i = d → i ≤ l.length → d < k → spec_l1All.l0 k lo hi l (l.length : Int) (i : Int) = some (inB lo hi (l.drop i)) := by
 intro d
 induction d with
 | zero =>
  intro k i h1 h3 h4
  obtain ⟨k, rfl⟩ : ∃ m, k = m + 1 := ⟨k - 1, by omega⟩
  simp only [spec_l1All.l0]
  rw [if_neg (by omega), List.drop_of_length_le (by omega)]
  rfl
 | succ d ih =>
  intro k i h1 h3 h4
  obtain ⟨k, rfl⟩ : ∃ m, k = m + 1 := ⟨k - 1, by omega⟩
  have e2 : wrap64 ((i : Int) + 1) = ((i + 1 : Nat) : Int) := by unfold wrap64; omega
  have e3 : ∀ x : Int, spec_l1In.f x lo hi = some (decide (lo ≤ x) && decide (x ≤ hi)) := fun x => by
   unfold spec_l1In.f
   by_cases h : lo ≤ x
   ·rw [if_pos h, decide_eq_true h]; rfl
   ·rw [if_neg (show ¬ x ≥ lo from h), decide_eq_false h]; rfl
  simp only [spec_l1All.l0]
  rw [if_pos (by omega), if_pos (by omega), if_pos (by omega), rd_nat l i (by omega), e3, Option.bind_some, e2, ih k (i + 1) (by omega) (by omega) (by omega), List.drop_eq_getElem_cons (show i < l.length by omega)]
  unfold inB
  rw [List.all_cons]
  cases (decide (lo ≤ l[i]) && decide (l[i] ≤ hi)) <;> rfl
theorem l1All_f (l : List Int) (lo hi : Int) (hL : l.length ≤ 4000000) (k : Nat) (hk : l.length < k) : spec_l1All.f k l lo hi = some (inB lo hi l) := by
 unfold spec_l1All.f
 exact l1All_l0 l lo hi hL l.length k 0 (by omega) (by omega) hk
theorem rising_len (l : List Int) : ∀ (lo hi : Int), risingB l = true → inB lo hi l = true → (l.length : Int) ≤ hi - lo + 1 ∨ l = [] := by
 induction l with
 | nil => intro lo hi _ _; exact .inr rfl
 | cons a t ih =>
  intro lo hi h1 h2
  unfold inB at h2
  rw [List.all_cons, Bool.and_eq_true, Bool.and_eq_true, decide_eq_true_iff, decide_eq_true_iff] at h2
  obtain ⟨⟨h3, h4⟩, h5⟩ := h2
  left
  cases t with
  | nil => simp; omega
  | cons b t =>
   simp only [risingB, Bool.and_eq_true, decide_eq_true_iff] at h1
   have h6 : inB (a + 1) hi (b :: t) = true := by
    have hr : ∀ (t : List Int) (a b : Int), a < b → risingB (b :: t) = true → ∀ x ∈ b :: t, a < x := by
     intro t
     induction t with
     | nil => intro a b hab _ x hx; simp at hx; omega
     | cons c t ih2 =>
      intro a b hab hr x hx
      simp only [risingB, Bool.and_eq_true, decide_eq_true_iff] at hr
      rcases List.mem_cons.1 hx with rfl | hx
      ·exact hab
      ·have := ih2 b c hr.1 hr.2 x hx; omega
    unfold inB
    rw [List.all_eq_true] at h5 ⊢
    intro x hx
    have h7 := h5 x hx
    have h8 := hr t a b h1.1 h1.2 x hx
    simp only [Bool.and_eq_true, decide_eq_true_iff] at h7 ⊢
    omega
   rcases ih (a + 1) hi h1.2 h6 with h | h
   ·simp at h ⊢; omega
   ·cases h
def figB (w h : Int) (a u : List Int) : Bool :=
 (decide (1 ≤ w) && decide (w ≤ 4) && decide (1 ≤ h) && decide (h ≤ 4)) && (risingB a && (risingB u && (inB 0 (w * (h + 1) - 1) a && inB 0 (h * (w + 1) - 1) u)))
theorem within_f (n lo hi : Int) : impl_within.f n lo hi = some (decide (lo ≤ n) && decide (n ≤ hi)) := by
 unfold impl_within.f
 by_cases h : lo ≤ n
 ·rw [if_pos h, decide_eq_true h]; rfl
 ·rw [if_neg h, decide_eq_false h]; rfl
theorem l1In_f (n lo hi : Int) : spec_l1In.f n lo hi = some (decide (lo ≤ n) && decide (n ≤ hi)) := by
 unfold spec_l1In.f
 by_cases h : lo ≤ n
 ·rw [if_pos h, decide_eq_true h]; rfl
 ·rw [if_neg (show ¬ n ≥ lo from h), decide_eq_false h]; rfl
theorem isGrid_f (w h : Int) : impl_isGrid.f w h = some (decide (1 ≤ w) && decide (w ≤ 4) && decide (1 ≤ h) && decide (h ≤ 4)) := by
 unfold impl_isGrid.f
 rw [within_f, within_f, Option.bind_some, Option.bind_some]
 cases (decide (1 ≤ w) && decide (w ≤ 4)) <;> simp
theorem fiGrid_f (w h : Int) : spec_fiGrid.f w h = some (decide (1 ≤ w) && decide (w ≤ 4) && decide (1 ≤ h) && decide (h ≤ 4)) := by
 unfold spec_fiGrid.f
 rw [l1In_f, l1In_f, Option.bind_some, Option.bind_some]
 cases (decide (1 ≤ w) && decide (w ≤ 4)) <;> simp
theorem grid_bounds {w h : Int} (hg : (decide (1 ≤ w) && decide (w ≤ 4) && decide (1 ≤ h) && decide (h ≤ 4)) = true) : 1 ≤ w ∧ w ≤ 4 ∧ 1 ≤ h ∧ h ≤ 4 := by
 simp only [Bool.and_eq_true, decide_eq_true_iff] at hg; omega
theorem area_bounds {w h : Int} (h1 : 1 ≤ w) (h2 : w ≤ 4) (h3 : 1 ≤ h) (h4 : h ≤ 4) : 2 ≤ w * (h + 1) ∧ w * (h + 1) ≤ 20 ∧ 2 ≤ h * (w + 1) ∧ h * (w + 1) ≤ 20 := by
 have : w = 1 ∨ w = 2 ∨ w = 3 ∨ w = 4 := by omega
 rcases this with rfl | rfl | rfl | rfl <;> omega
theorem IsFigure_f (w h : Int) (a u : List Int) (ha : a.length ≤ 1000000) (hu : u.length ≤ 1000000) (k : Nat) (hk : 1000010 < k) : impl_IsFigure.f k w h a u = some (figB w h a u) := by
 unfold impl_IsFigure.f figB
 rw [isGrid_f, Option.bind_some]
 by_cases hg : (decide (1 ≤ w) && decide (w ≤ 4) && decide (1 ≤ h) && decide (h ≤ 4)) = true
 ·rw [if_pos hg, hg, isRising_f a (by omega) k (by omega), isRising_f u (by omega) k (by omega), Option.bind_some]
  obtain ⟨b1, b2, b3, b4⟩ := grid_bounds hg
  obtain ⟨c1, c2, c3, c4⟩ := area_bounds b1 b2 b3 b4
  have e1 : wrap64 (h + 1) = h + 1 := by unfold wrap64; omega
  have e2 : wrap64 (w + 1) = w + 1 := by unfold wrap64; omega
  have e3 : wrap64 (w * (h + 1)) = w * (h + 1) := by unfold wrap64; omega
  have e4 : wrap64 (h * (w + 1)) = h * (w + 1) := by unfold wrap64; omega
  have e5 : wrap64 (w * (h + 1) - 1) = w * (h + 1) - 1 := by unfold wrap64; omega
  have e6 : wrap64 (h * (w + 1) - 1) = h * (w + 1) - 1 := by unfold wrap64; omega
  unfold impl_Figure_grid.f impl_grid_levels.f impl_grid_uprights.f impl_areWithin.f
  simp only [Option.bind_some, e1, e2, e3, e4, e5, e6]
  have key : ∀ A B C D : Bool, (if A = true then (if B = true then (if C = true then some D else some false) else some false) else some false) = some (true && (A && (B && (C && D)))) := by decide
  exact key _ _ _ _
 ·rw [if_neg hg, Bool.eq_false_iff.mpr hg]
  rfl
theorem fiRises_f (l : List Int) (m : Int) (hm0 : 0 ≤ m) (hm : m ≤ 100) (hl : l.length ≤ 1000000) (k : Nat) (hk : 1000010 < k) : spec_fiRises.f k l m = some (risingB l && inB 0 m l) := by
 unfold spec_fiRises.f
 have e : wrap64 (m + 1) = m + 1 := by unfold wrap64; omega
 have hj : ∀ b : Bool, spec_fiRises.j0 k l b = some (!b && risingB l) := fun b => by
  obtain ⟨k, rfl⟩ : ∃ q, k = q + 1 := ⟨k - 1, by omega⟩
  simp only [spec_fiRises.j0]
  cases b with
  | true => rfl
  | false =>
   rw [if_neg (by simp)]
   by_cases h0 : l.length = 0
   ·have : l = [] := List.length_eq_zero_iff.1 h0
    subst this
    obtain ⟨k, rfl⟩ : ∃ q, k = q + 1 := ⟨k - 1, by omega⟩
    simp only [spec_fiRises.l0]
    rw [if_neg (by simp)]
    rfl
   ·rw [show (1 : Int) = ((1 : Nat) : Int) from rfl, fiRises_l0 l (by omega) (l.length - 1) k 1 rfl (by omega) (by omega) (by omega)]
    rfl
 rw [e, hj, l1All_f l 0 m (by omega) k (by omega), Option.bind_some, hj]
 by_cases hgt : (l.length : Int) > m + 1
 ·rw [if_pos hgt]
  cases h1 : risingB l with
  | false => rfl
  | true =>
   cases h2 : inB 0 m l with
   | false => rfl
   | true =>
    rcases rising_len l 0 m h1 h2 with h | h
    ·omega
    ·subst h; simp at hgt; omega
 ·rw [if_neg hgt, Bool.not_not, Bool.and_comm]
theorem fiGood_f (w h : Int) (a u : List Int) (ha : a.length ≤ 1000000) (hu : u.length ≤ 1000000) (k : Nat) (hk : 1000010 < k) : spec_fiGood.f k w h a u = some (figB w h a u) := by
 unfold spec_fiGood.f figB
 rw [fiGrid_f, Option.bind_some]
 by_cases hg : (decide (1 ≤ w) && decide (w ≤ 4) && decide (1 ≤ h) && decide (h ≤ 4)) = true
 ·rw [if_pos hg, hg]
  obtain ⟨b1, b2, b3, b4⟩ := grid_bounds hg
  obtain ⟨c1, c2, c3, c4⟩ := area_bounds b1 b2 b3 b4
  have e1 : wrap64 (h + 1) = h + 1 := by unfold wrap64; omega
  have e2 : wrap64 (w + 1) = w + 1 := by unfold wrap64; omega
  have e3 : wrap64 (w * (h + 1)) = w * (h + 1) := by unfold wrap64; omega
  have e4 : wrap64 ((w + 1) * h) = h * (w + 1) := by rw [Int.mul_comm]; unfold wrap64; omega
  have e5 : wrap64 (w * (h + 1) - 1) = w * (h + 1) - 1 := by unfold wrap64; omega
  have e6 : wrap64 (h * (w + 1) - 1) = h * (w + 1) - 1 := by unfold wrap64; omega
  rw [e1, e2, e3, e4, e5, e6, fiRises_f a _ (by omega) (by omega) ha k hk, fiRises_f u _ (by omega) (by omega) hu k hk, Option.bind_some, Option.bind_some]
  cases risingB a <;> cases risingB u <;> simp
  cases inB 0 (w * (h + 1) - 1) a <;> simp
 ·rw [if_neg hg, Bool.eq_false_iff.mpr hg]
  rfl


mutual
def impl_Figure_set.l0 : Nat → Int → List Int → Int → Int → Int → Int → List Int → List Int → Option (Int)
 | 0, _, _, _, _, _, _, _, _ => none
 | k + 1, x3, x9, x10, x11, x172000, x172001, x172002, x172003 => if x11 < x10 then (if 0 ≤ x11 then (if x11 < (x9.length : Int) then (if 0 ≤ (rd x9 x11) then (impl_Figure_set.l0 k (Go.bits .or .u64 x3 (shl .u64 1 (rd x9 x11))) x9 x10 (wrap64 (x11 + 1)) x172000 x172001 x172002 x172003) else (none)) else (none)) else (none)) else (impl_Figure_set.l1 k x3 x172003 (x172003.length : Int) 0 x172000 x172001 x172002 x172003)
def impl_Figure_set.l1 : Nat → Int → List Int → Int → Int → Int → Int → List Int → List Int → Option (Int)
 | 0, _, _, _, _, _, _, _, _ => none
 | k + 1, x3, x21, x22, x23, x172000, x172001, x172002, x172003 => if x23 < x22 then (if 0 ≤ x23 then (if x23 < (x21.length : Int) then ((impl_Figure_grid.f x172000 x172001 x172002 x172003).bind fun bt174 => ((impl_grid_levels.f bt174.1 bt174.2).bind fun t176 => (if 0 ≤ (wrap64 (t176 + (rd x21 x23))) then (impl_Figure_set.l1 k (Go.bits .or .u64 x3 (shl .u64 1 (wrap64 (t176 + (rd x21 x23))))) x21 x22 (wrap64 (x23 + 1)) x172000 x172001 x172002 x172003) else (none)))) else (none)) else (none)) else (some x3)
end
def impl_Figure_set.f (k : Nat) (a0_0 : Int) (a0_1 : Int) (l0_2 : List Int) (l0_3 : List Int) : Option (Int) := impl_Figure_set.l0 k 0 l0_2 (l0_2.length : Int) 0 a0_0 a0_1 l0_2 l0_3
theorem impl_Figure_set.mono_l : ∀ k, (∀ y0 y1 y2 y3 y4 y5 y6 y7, LeO (impl_Figure_set.l0 k y0 y1 y2 y3 y4 y5 y6 y7) (impl_Figure_set.l0 (k + 1) y0 y1 y2 y3 y4 y5 y6 y7)) ∧ (∀ y0 y1 y2 y3 y4 y5 y6 y7, LeO (impl_Figure_set.l1 k y0 y1 y2 y3 y4 y5 y6 y7) (impl_Figure_set.l1 (k + 1) y0 y1 y2 y3 y4 y5 y6 y7))
 | 0 => ⟨fun _ _ _ _ _ _ _ _ r h => by simp [impl_Figure_set.l0] at h, fun _ _ _ _ _ _ _ _ r h => by simp [impl_Figure_set.l1] at h⟩
 | k + 1 => by
  obtain ⟨ih0, ih1⟩ := impl_Figure_set.mono_l k
  refine ⟨?_, ?_⟩
  ·intro y0 y1 y2 y3 y4 y5 y6 y7
   unfold impl_Figure_set.l0
   repeat' first
   | (with_reducible exact ih0 _ _ _ _ _ _ _ _)
   | (with_reducible exact ih1 _ _ _ _ _ _ _ _)
   | (with_reducible exact LeO.refl _)
   | (with_reducible exact LeO.none _)
   | (with_reducible refine LeO.ite ?_ ?_)
   | (with_reducible refine LeO.bind ?_ (fun _ => ?_))
   | exact ih0 _ _ _ _ _ _ _ _
   | exact ih1 _ _ _ _ _ _ _ _
   | exact LeO.none _
   | refine LeO.ite ?_ ?_
   | refine LeO.bind ?_ (fun _ => ?_)
  ·intro y0 y1 y2 y3 y4 y5 y6 y7
   unfold impl_Figure_set.l1
   repeat' first
   | (with_reducible exact ih0 _ _ _ _ _ _ _ _)
   | (with_reducible exact ih1 _ _ _ _ _ _ _ _)
   | (with_reducible exact LeO.refl _)
   | (with_reducible exact LeO.none _)
   | (with_reducible refine LeO.ite ?_ ?_)
   | (with_reducible refine LeO.bind ?_ (fun _ => ?_))
   | exact ih0 _ _ _ _ _ _ _ _
   | exact ih1 _ _ _ _ _ _ _ _
   | exact LeO.none _
   | refine LeO.ite ?_ ?_
   | refine LeO.bind ?_ (fun _ => ?_)
theorem impl_Figure_set.mono : ∀ a0 a1 a2 a3 k, LeO (impl_Figure_set.f k a0 a1 a2 a3) (impl_Figure_set.f (k + 1) a0 a1 a2 a3) := by
 intro a0 a1 a2 a3 k
 obtain ⟨ih0, ih1⟩ := impl_Figure_set.mono_l k
 unfold impl_Figure_set.f
 repeat' first
   | (with_reducible exact ih0 _ _ _ _ _ _ _ _)
   | (with_reducible exact ih1 _ _ _ _ _ _ _ _)
   | (with_reducible exact LeO.refl _)
   | (with_reducible exact LeO.none _)
   | (with_reducible refine LeO.ite ?_ ?_)
   | (with_reducible refine LeO.bind ?_ (fun _ => ?_))
   | exact ih0 _ _ _ _ _ _ _ _
   | exact ih1 _ _ _ _ _ _ _ _
   | exact LeO.none _
   | refine LeO.ite ?_ ?_
   | refine LeO.bind ?_ (fun _ => ?_)
set_option maxHeartbeats 8000000 in
set_option maxRecDepth 100000 in
theorem impl_Figure_set.calls (k : Nat) (a0_0 : Int) (a0_1 : Int) (A0_2 : Option Addr) (c0_2 : Nat) (l0_2 : List Int) (A0_3 : Option Addr) (c0_3 : Nat) (l0_3 : List Int) (r : Int) (w : World) (hr0_2 : Kd.C (Kd.int .i64) w A0_2 l0_2.length l0_2) (hc0_2 : l0_2.length ≤ c0_2) (hr0_3 : Kd.C (Kd.int .i64) w A0_3 l0_3.length l0_3) (hc0_3 : l0_3.length ≤ c0_3) (h : impl_Figure_set.f k a0_0 a0_1 l0_2 l0_3 = some r) :
  Calls Try.prog 49 #[.agg #[.int .i64 a0_0, .int .i64 a0_1, .slice A0_2 l0_2.length c0_2, .slice A0_3 l0_3.length c0_3]] w fun e w' => e = .returned (.int .u64 r) ∧ Below w.heap.size w w' := by
 have hu28 := Try.underlying28
 have HR0_2 := Aside0.mk hr0_2
 have HC0_2 := Aside0.mk hc0_2
 clear hr0_2 hc0_2
 have HR0_3 := Aside0.mk hr0_3
 have HC0_3 := Aside0.mk hc0_3
 clear hr0_3 hc0_3
 have HB := Aside0.mk (Below.refl w.heap.size w)
 have H : (impl_Figure_set.l0 k 0 l0_2 (l0_2.length : Int) 0 a0_0 a0_1 l0_2 l0_3) = some r := h
 clear h
 have H' := Aside0.mk H
 clear H
 go_enter Try.func49, Try.ntmps49
 go_wp2_with (first | ((with_reducible refine gate_dst (N := 1) rfl ?_); refine boxE_ (N := 1) (cs := #[.int .i64 a0_0, .int .i64 a0_1, .slice A0_2 l0_2.length c0_2, .slice A0_3 l0_3.length c0_3]) (t := 28) ?_; intro gb171 hg w2 hbox hb; have n0_ := Aside0.mk (below_step (bl0_ HB.out) hb); have n1_ := Aside0.mk (hbox); have n2_ := Aside0.mk ((bs0_ hg HB.out : w.heap.size ≤ gb171)); have n3_ := Aside0.mk ((bs0_ hg HB.out : w.heap.size ≤ gb171)); clear HB; have HB := n0_; have BK171 := n1_; have GW171 := n2_; have GE171 := n3_; clear n0_ n1_ n2_ n3_; clear hb hbox hg; have hcz3_0 : w2.cell? ⟨gb171, 0, none⟩ = some (.int .i64 a0_0) := (blk_cell BK171.out 0).trans rfl; have hcz3_1 : w2.cell? ⟨gb171, 1, none⟩ = some (.int .i64 a0_1) := (blk_cell BK171.out 1).trans rfl; have hcz3_2 : w2.cell? ⟨gb171, 2, none⟩ = some (.slice A0_2 l0_2.length c0_2) := (blk_cell BK171.out 2).trans rfl; have hcz3_3 : w2.cell? ⟨gb171, 3, none⟩ = some (.slice A0_3 l0_3.length c0_3) := (blk_cell BK171.out 3).trans rfl; have hfz3_0 := blk_frozen BK171.out 0; have hfz3_1 := blk_frozen BK171.out 1; have hfz3_2 := blk_frozen BK171.out 2; have hfz3_3 := blk_frozen BK171.out 3))
 go_loopg [3, 11] k (fun kq v3 v11 w' => ∃ (x3_1 : Int) (x11_1 : Int), v3 = .int .u64 x3_1 ∧ v11 = .int .i64 x11_1 ∧ Aside0 (impl_Figure_set.l0 kq x3_1 l0_2 (l0_2.length : Int) x11_1 a0_0 a0_1 l0_2 l0_3 = some r) ∧ Aside0 (kq ≤ k) ∧ Aside0 (w'.heap[gb171]? = some (.cells #[.int .i64 a0_0, .int .i64 a0_1, (.slice A0_2 l0_2.length c0_2), (.slice A0_3 l0_3.length c0_3)] 28 (0, 0))) ∧ Aside0 (Below w.heap.size w w'))
 case atStart => exact ⟨(0), (0), rs_, rs_, H', ⟨Nat.le_refl _⟩, ⟨bk_ BK171.out⟩, ⟨bl1_ HB.out GE171.out⟩⟩
 case round =>
  clear H'
  try clear p2
  try clear hcz3_0
  try clear hcz3_1
  try clear hcz3_2
  try clear hcz3_3
  try clear hfz3_0
  try clear hfz3_1
  try clear hfz3_2
  try clear hfz3_3
  obtain ⟨x3_1, x11_1, rfl, rfl, HA, HK1, BK171, HB⟩ := hrel
  cases gk with
  | zero => exact absurd HA.out (by simp [impl_Figure_set.l0])
  | succ k1 =>
   have H := HA.out
   clear HA
   simp only [impl_Figure_set.l0] at H
   by_cases c4 : x11_1 < (l0_2.length : Int)
   ·rw [if_pos c4] at H
    have c4b0 : decide (x11_1 < (l0_2.length : Int)) = true := decide_eq_true c4
    clear c4
    by_cases c5 : 0 ≤ x11_1
    ·rw [if_pos c5] at H
     have c5b0 : decide (0 ≤ x11_1) = true := decide_eq_true c5
     clear c5
     by_cases c6 : x11_1 < (l0_2.length : Int)
     ·rw [if_pos c6] at H
      have c6b0 : decide (x11_1 < (l0_2.length : Int)) = true := decide_eq_true c6
      clear c6
      by_cases c7 : 0 ≤ (rd l0_2 x11_1)
      ·rw [if_pos c7] at H
       have c7b0 := eq_true c7
       have c7b1 : decide (0 ≤ (rd l0_2 x11_1)) = true := decide_eq_true c7
       clear c7
       obtain ⟨ji8, hji8⟩ : ∃ j_ : Int, (shl .u64 1 (rd l0_2 x11_1)) = j_ := ⟨_, rfl⟩
       replace H : (impl_Figure_set.l0 k1 (Go.bits .or .u64 x3_1 (ji8)) l0_2 (l0_2.length : Int) (wrap64 (x11_1 + 1)) a0_0 a0_1 l0_2 l0_3) = some r := by first | (rw [hji8] at H; exact H) | (simp only [hji8] at H ⊢; exact H)
       have hji8_ : (IntKind.u64.wrap (1 * 2 ^ min (rd l0_2 x11_1).toNat 64)) = ji8 := hji8
       have hji8z : (rd l0_2 x11_1) ≤ 64 → (IntKind.u64.wrap (1 * 2 ^ (rd l0_2 x11_1).toNat)) = ji8 := shl_small hji8
       have hji8u : (IntKind.u64.wrap (2 ^ min (rd l0_2 x11_1).toNat 64)) = ji8 := by have h_ := hji8_; rw [Int.one_mul] at h_; exact h_
       have hji8v : (rd l0_2 x11_1) ≤ 64 → (IntKind.u64.wrap (2 ^ (rd l0_2 x11_1).toNat)) = ji8 := fun hle_ => by have h_ := hji8z hle_; rw [Int.one_mul] at h_; exact h_
       have H' := Aside0.mk H
       clear H
       have p172 : 0 ≤ (x11_1 : Int) := of_decide_eq_true as_
       have q172 : x11_1 < (l0_2.length : Int) := of_decide_eq_true as_
       obtain ⟨ad172, e172, hx172_0⟩ := Kd.at_int HR0_2.out x11_1 p172 q172
       cases e172
       replace hx172_0 := (HB.out.cell (World.block_lt_of_cell? w _ hx172_0)).trans hx172_0
       replace p172 := eq_true p172
       replace q172 := eq_true q172
       go_wp2
       go_roundg k1
       case measure => have := HK1.out; omega
       case rel => exact ⟨(Go.bits .or .u64 x3_1 (ji8)), (wrap64 (x11_1 + 1)), (by first | rfl | (simp; done) | (simp only [← hji8] <;> (first | rfl | simp)) | (simp [*]; done)), rs_, H', ⟨by have := HK1.out; omega⟩, ⟨bk_ BK171.out⟩, ⟨bl1_ HB.out GE171.out⟩⟩
      ·rw [if_neg c7] at H
       exact absurd H (by simp)
     ·rw [if_neg c6] at H
      exact absurd H (by simp)
    ·rw [if_neg c5] at H
     exact absurd H (by simp)
   ·rw [if_neg c4] at H
    have c4b0 : decide (x11_1 < (l0_2.length : Int)) = false := decide_eq_false c4
    clear c4
    have H' := Aside0.mk H
    clear H
    have hcz9_0 : wr.cell? ⟨gb171, 0, none⟩ = some (.int .i64 a0_0) := (blk_cell BK171.out 0).trans rfl
    have hcz9_1 : wr.cell? ⟨gb171, 1, none⟩ = some (.int .i64 a0_1) := (blk_cell BK171.out 1).trans rfl
    have hcz9_2 : wr.cell? ⟨gb171, 2, none⟩ = some (.slice A0_2 l0_2.length c0_2) := (blk_cell BK171.out 2).trans rfl
    have hcz9_3 : wr.cell? ⟨gb171, 3, none⟩ = some (.slice A0_3 l0_3.length c0_3) := (blk_cell BK171.out 3).trans rfl
    have hfz9_0 := blk_frozen BK171.out 0
    have hfz9_1 := blk_frozen BK171.out 1
    have hfz9_2 := blk_frozen BK171.out 2
    have hfz9_3 := blk_frozen BK171.out 3
    go_wp2
    go_loopg [3, 23] k1 (fun kq v3 v23 w' => ∃ (x3_2 : Int) (x23_2 : Int), v3 = .int .u64 x3_2 ∧ v23 = .int .i64 x23_2 ∧ Aside0 (impl_Figure_set.l1 kq x3_2 l0_3 (l0_3.length : Int) x23_2 a0_0 a0_1 l0_2 l0_3 = some r) ∧ Aside0 (kq ≤ k1) ∧ Aside0 (w'.heap[gb171]? = some (.cells #[.int .i64 a0_0, .int .i64 a0_1, (.slice A0_2 l0_2.length c0_2), (.slice A0_3 l0_3.length c0_3)] 28 (0, 0))) ∧ Aside0 (Below w.heap.size w w'))
    case atStart => exact ⟨(x3_1), (0), rs_, rs_, H', ⟨Nat.le_refl _⟩, ⟨bk_ BK171.out⟩, ⟨bl1_ HB.out GE171.out⟩⟩
    case round =>
     clear H'
     try clear p1
     try clear q1
     try clear hx1
     try clear p2
     try clear c4
     try clear c4b0
     try clear c5
     try clear c5b0
     try clear c6
     try clear c6b0
     try clear p6
     try clear c7
     try clear c7b0
     try clear c7b1
     try clear hcz3_0
     try clear hcz3_1
     try clear hcz3_2
     try clear hcz3_3
     try clear hcz9_0
     try clear hcz9_1
     try clear hcz9_2
     try clear hcz9_3
     try clear hfz3_0
     try clear hfz3_1
     try clear hfz3_2
     try clear hfz3_3
     try clear hfz9_0
     try clear hfz9_1
     try clear hfz9_2
     try clear hfz9_3
     try clear hx172_0
     try clear p172
     try clear p2
     try clear q172
     obtain ⟨x3_2, x23_2, rfl, rfl, HA, HK2, BK171, HB⟩ := hrel
     cases gk with
     | zero => exact absurd HA.out (by simp [impl_Figure_set.l1])
     | succ k2 =>
      have H := HA.out
      clear HA
      simp only [impl_Figure_set.l1] at H
      by_cases c10 : x23_2 < (l0_3.length : Int)
      ·rw [if_pos c10] at H
       have c10b0 : decide (x23_2 < (l0_3.length : Int)) = true := decide_eq_true c10
       clear c10
       by_cases c11 : 0 ≤ x23_2
       ·rw [if_pos c11] at H
        have c11b0 : decide (0 ≤ x23_2) = true := decide_eq_true c11
        clear c11
        by_cases c12 : x23_2 < (l0_3.length : Int)
        ·rw [if_pos c12] at H
         have c12b0 : decide (x23_2 < (l0_3.length : Int)) = true := decide_eq_true c12
         clear c12
         replace H := Option.bind_eq_some_iff.mp H
         obtain ⟨⟨t174, t175⟩, A130, H⟩ := H
         replace H : ((impl_grid_levels.f t174 t175).bind fun t176 => (if 0 ≤ (wrap64 (t176 + (rd l0_3 x23_2))) then (impl_Figure_set.l1 k2 (Go.bits .or .u64 x3_2 (shl .u64 1 (wrap64 (t176 + (rd l0_3 x23_2))))) l0_3 (l0_3.length : Int) (wrap64 (x23_2 + 1)) a0_0 a0_1 l0_2 l0_3) else (none))) = some r := H
         have A13 := Aside0.mk A130
         clear A130
         replace H := Option.bind_eq_some_iff.mp H
         obtain ⟨t176, A140, H⟩ := H
         replace H : (if 0 ≤ (wrap64 (t176 + (rd l0_3 x23_2))) then (impl_Figure_set.l1 k2 (Go.bits .or .u64 x3_2 (shl .u64 1 (wrap64 (t176 + (rd l0_3 x23_2))))) l0_3 (l0_3.length : Int) (wrap64 (x23_2 + 1)) a0_0 a0_1 l0_2 l0_3) else (none)) = some r := H
         have A14 := Aside0.mk A140
         clear A140
         obtain ⟨ji15, hji15⟩ : ∃ j_ : Int, (wrap64 (t176 + (rd l0_3 x23_2))) = j_ := ⟨_, rfl⟩
         replace H : (if 0 ≤ (ji15) then (impl_Figure_set.l1 k2 (Go.bits .or .u64 x3_2 (shl .u64 1 (ji15))) l0_3 (l0_3.length : Int) (wrap64 (x23_2 + 1)) a0_0 a0_1 l0_2 l0_3) else (none)) = some r := by first | (rw [hji15] at H; exact H) | (simp only [hji15] at H ⊢; exact H)
         (try rw [hji15] at A13)
         (try rw [hji15] at A14)
         have hji15w : (IntKind.i64.wrap (t176 + (rd l0_3 x23_2))) = ji15 := (i64_w _).trans hji15
         by_cases c16 : 0 ≤ (ji15)
         ·rw [if_pos c16] at H
          have c16b0 := eq_true c16
          have c16b1 : decide (0 ≤ (ji15)) = true := decide_eq_true c16
          clear c16
          obtain ⟨ji17, hji17⟩ : ∃ j_ : Int, (shl .u64 1 (ji15)) = j_ := ⟨_, rfl⟩
          replace H : (impl_Figure_set.l1 k2 (Go.bits .or .u64 x3_2 (ji17)) l0_3 (l0_3.length : Int) (wrap64 (x23_2 + 1)) a0_0 a0_1 l0_2 l0_3) = some r := by first | (rw [hji17] at H; exact H) | (simp only [hji17] at H ⊢; exact H)
          (try rw [hji17] at A13)
          (try rw [hji17] at A14)
          have hji17_ : (IntKind.u64.wrap (1 * 2 ^ min (ji15).toNat 64)) = ji17 := hji17
          have hji17z : (ji15) ≤ 64 → (IntKind.u64.wrap (1 * 2 ^ (ji15).toNat)) = ji17 := shl_small hji17
          have hji17u : (IntKind.u64.wrap (2 ^ min (ji15).toNat 64)) = ji17 := by have h_ := hji17_; rw [Int.one_mul] at h_; exact h_
          have hji17v : (ji15) ≤ 64 → (IntKind.u64.wrap (2 ^ (ji15).toNat)) = ji17 := fun hle_ => by have h_ := hji17z hle_; rw [Int.one_mul] at h_; exact h_
          have H' := Aside0.mk H
          clear H
          have p173 : 0 ≤ (x23_2 : Int) := of_decide_eq_true as_
          have q173 : x23_2 < (l0_3.length : Int) := of_decide_eq_true as_
          obtain ⟨ad173, e173, hx173_0⟩ := Kd.at_int HR0_3.out x23_2 p173 q173
          cases e173
          replace hx173_0 := (HB.out.cell (World.block_lt_of_cell? w _ hx173_0)).trans hx173_0
          replace p173 := eq_true p173
          replace q173 := eq_true q173
          have hcz18_0 : wr.cell? ⟨gb171, 0, none⟩ = some (.int .i64 a0_0) := (blk_cell BK171.out 0).trans rfl
          have hcz18_1 : wr.cell? ⟨gb171, 1, none⟩ = some (.int .i64 a0_1) := (blk_cell BK171.out 1).trans rfl
          have hcz18_2 : wr.cell? ⟨gb171, 2, none⟩ = some (.slice A0_2 l0_2.length c0_2) := (blk_cell BK171.out 2).trans rfl
          have hcz18_3 : wr.cell? ⟨gb171, 3, none⟩ = some (.slice (some ad173) l0_3.length c0_3) := (blk_cell BK171.out 3).trans rfl
          have hfz18_0 := blk_frozen BK171.out 0
          have hfz18_1 := blk_frozen BK171.out 1
          have hfz18_2 := blk_frozen BK171.out 2
          have hfz18_3 := blk_frozen BK171.out 3
          go_wp2_with (first | ((with_reducible refine gate_callee (f := 47) rfl ?_); refine goesL_ (some 29) rfl rfl Try.func47 (by kernel_rfl) rfl #[.agg #[.int .i64 a0_0, .int .i64 a0_1, .slice A0_2 l0_2.length c0_2, .slice (some ad173) l0_3.length c0_3]] rfl ob_ ?_; (with_reducible refine (impl_Figure_grid.calls a0_0 a0_1 _ _ l0_2 _ _ l0_3 t174 t175 _ ?side1 ?side2 ?side3 ?side4 A13.out).mono ?_); (case side1 => exact kc_ (Kd.C_below HR0_2.out HB.out)); (case side2 => exact HC0_2.out); (case side3 => exact kc_ (Kd.C_below HR0_3.out HB.out)); (case side4 => exact HC0_3.out); rintro e w19 ⟨rfl, hb⟩; refine ⟨_, rfl, ?_⟩; have n0_ := Aside0.mk (bb_ BK171.out hb); have n1_ := Aside0.mk (below_step (bl1_ HB.out GE171.out) hb); clear BK171; clear HB; have BK171 := n0_; have HB := n1_; clear n0_ n1_; (try clear hb); (try clear hb2); (try clear hk); (try clear hi)) | ((with_reducible refine gate_callee (f := 83) rfl ?_); refine goesL_ (some 30) rfl rfl Try.func83 (by kernel_rfl) rfl #[.agg #[.int .i64 t174, .int .i64 t175]] rfl ob_ ?_; (with_reducible refine (impl_grid_levels.calls t174 t175 t176 _ A14.out).mono ?_); rintro e w20 ⟨rfl, hb⟩; refine ⟨_, rfl, ?_⟩; have n0_ := Aside0.mk (bb_ BK171.out hb); have n1_ := Aside0.mk (below_step (bl1_ HB.out GE171.out) hb); clear BK171; clear HB; have BK171 := n0_; have HB := n1_; clear n0_ n1_; (try clear hb); (try clear hb2); (try clear hk); (try clear hi)))
          go_roundg k2
          case measure => have := HK1.out; have := HK2.out; omega
          case rel => exact ⟨(Go.bits .or .u64 x3_2 (ji17)), (wrap64 (x23_2 + 1)), (by first | rfl | (simp; done) | (simp only [← hji17] <;> (first | rfl | simp)) | (simp [*]; done)), rs_, H', ⟨by have := HK1.out; have := HK2.out; omega⟩, ⟨bk_ BK171.out⟩, ⟨bl1_ HB.out GE171.out⟩⟩
         ·rw [if_neg c16] at H
          exact absurd H (by simp)
        ·rw [if_neg c12] at H
         exact absurd H (by simp)
       ·rw [if_neg c11] at H
        exact absurd H (by simp)
      ·rw [if_neg c10] at H
       have c10b0 : decide (x23_2 < (l0_3.length : Int)) = false := decide_eq_false c10
       clear c10
       obtain rfl := Option.some.inj H
       go_wp2
       go_ret
       exact ⟨er_, bl1_ HB.out GE171.out⟩


theorem u64_small (n : Int) (h0 : 0 ≤ n) (h1 : n < 2 ^ 60) : IntKind.u64.wrap n = n := by
 have : IntKind.u64.wrap n = n % 18446744073709551616 := by simp [IntKind.wrap, IntKind.bits, IntKind.signed]
 rw [this]; omega
theorem or_u64 (a b : Nat) (ha : a < 2 ^ 60) (hb : b < 2 ^ 60) : Go.bits .or .u64 (a : Int) (b : Int) = ((a ||| b : Nat) : Int) := (bits_nat .u64 60 (by decide) u64_small a b ha hb).2
theorem and_u64 (a b : Nat) (ha : a < 2 ^ 60) (hb : b < 2 ^ 60) : Go.bits .and .u64 (a : Int) (b : Int) = ((a &&& b : Nat) : Int) := (bits_nat .u64 60 (by decide) u64_small a b ha hb).1
theorem pow_lt60 {n : Nat} (h : n < 60) : 2 ^ n < 2 ^ 60 := Nat.pow_lt_pow_right (by decide) h
theorem shl_u64 (n : Nat) (h : n < 60) : shl .u64 1 (n : Int) = ((2 ^ n : Nat) : Int) := by
 unfold shl
 rw [Int.toNat_natCast, show min n IntKind.u64.bits = n from Nat.min_eq_left (by show n ≤ 64; omega), Int.one_mul]
 have h2 := pow_lt60 h
 rw [u64_small _ (by exact_mod_cast Nat.zero_le _) (by exact_mod_cast h2)]
 norm_cast
def bitsFrom (s : Nat) (l : List Int) (m : Nat) : Nat := l.foldl (fun m k => m ||| 2 ^ (s + k.toNat)) m
theorem bitsFrom_lt (s : Nat) (l : List Int) : ∀ m, m < 2 ^ 60 → (∀ k ∈ l, s + k.toNat < 60) → bitsFrom s l m < 2 ^ 60 := by
 induction l with
 | nil => intro m hm _; exact hm
 | cons a t ih =>
  intro m hm h
  exact ih _ (Nat.or_lt_two_pow hm (pow_lt60 (h a (by simp)))) (fun k hk => h k (by simp [hk]))
theorem bitsFrom_test (s : Nat) (l : List Int) (i : Nat) : ∀ m, (bitsFrom s l m).testBit i = (m.testBit i || l.any fun k => decide (s + k.toNat = i)) := by
 induction l with
 | nil => intro m; simp [bitsFrom]
 | cons a t ih =>
  intro m
  have := ih (m ||| 2 ^ (s + a.toNat))
  unfold bitsFrom at this ⊢
  rw [List.foldl_cons, this, Nat.testBit_or, Nat.testBit_two_pow, List.any_cons, Bool.or_assoc]
theorem inB_mem {lo hi : Int} {l : List Int} (h : inB lo hi l = true) (x : Int) (hx : x ∈ l) : lo ≤ x ∧ x ≤ hi := by
 unfold inB at h
 rw [List.all_eq_true] at h
 have := h x hx
 simpa using this
def figMask (w h : Int) (a u : List Int) : Nat := bitsFrom (w * (h + 1)).toNat u (bitsFrom 0 a 0)
theorem figMask_lt {w h : Int} {a u : List Int} (hf : figB w h a u = true) : figMask w h a u < 2 ^ 60 := by
 unfold figB at hf
 simp only [Bool.and_eq_true] at hf
 obtain ⟨hg, -, -, hi1, hi2⟩ := hf
 obtain ⟨b1, b2, b3, b4⟩ := grid_bounds (by simp only [Bool.and_eq_true]; exact hg)
 obtain ⟨c1, c2, c3, c4⟩ := area_bounds b1 b2 b3 b4
 refine bitsFrom_lt _ _ _ (bitsFrom_lt _ _ _ (by decide) (fun k hk => ?_)) (fun k hk => ?_)
 ·have := inB_mem hi1 k hk; omega
 ·have := inB_mem hi2 k hk; omega
theorem figMask_level {w h : Int} {a u : List Int} (hf : figB w h a u = true) (e : Nat) (he : (e : Int) < w * (h + 1)) : (figMask w h a u).testBit e = decide ((e : Int) ∈ a) := by
 unfold figB at hf
 simp only [Bool.and_eq_true] at hf
 obtain ⟨hg, -, -, hi1, hi2⟩ := hf
 unfold figMask
 rw [bitsFrom_test, bitsFrom_test, Nat.zero_testBit, Bool.false_or]
 rw [show (u.any fun k => decide ((w * (h + 1)).toNat + k.toNat = e)) = false from by
  rw [List.any_eq_false]; intro k hk; have := inB_mem hi2 k hk; simp; omega]
 rw [Bool.or_false, Bool.eq_iff_iff, List.any_eq_true, decide_eq_true_iff]
 constructor
 ·rintro ⟨k, hk, hke⟩
  have := inB_mem hi1 k hk
  simp at hke
  rw [show (e : Int) = k by omega]
  exact hk
 ·intro hm
  exact ⟨_, hm, by simp⟩
theorem figMask_upright {w h : Int} {a u : List Int} (hf : figB w h a u = true) (e : Nat) : (figMask w h a u).testBit ((w * (h + 1)).toNat + e) = decide ((e : Int) ∈ u) := by
 unfold figB at hf
 simp only [Bool.and_eq_true] at hf
 obtain ⟨hg, -, -, hi1, hi2⟩ := hf
 obtain ⟨b1, b2, b3, b4⟩ := grid_bounds (by simp only [Bool.and_eq_true]; exact hg)
 obtain ⟨c1, c2, c3, c4⟩ := area_bounds b1 b2 b3 b4
 unfold figMask
 rw [bitsFrom_test, bitsFrom_test, Nat.zero_testBit, Bool.false_or]
 rw [show (a.any fun k => decide (0 + k.toNat = (w * (h + 1)).toNat + e)) = false from by
  rw [List.any_eq_false]; intro k hk; have := inB_mem hi1 k hk; simp; omega]
 rw [Bool.false_or, Bool.eq_iff_iff, List.any_eq_true, decide_eq_true_iff]
 constructor
 ·rintro ⟨k, hk, hke⟩
  have := inB_mem hi2 k hk
  simp at hke
  rw [show (e : Int) = k by omega]
  exact hk
 ·intro hm
  exact ⟨_, hm, by simp⟩
theorem set_l1 (w h : Int) (a u : List Int) (hL : u.length ≤ 4000000) (hw : wrap64 (w * wrap64 (h + 1)) = w * (h + 1)) (h0 : 0 ≤ w * (h + 1)) (h1 : w * (h + 1) ≤ 20) (hu : ∀ k ∈ u, 0 ≤ k ∧ k ≤ 20) : ∀ (d k i : Nat) (m : Nat), u.length - i = d → i ≤ u.length → d < k → m < 2 ^ 60 →
  impl_Figure_set.l1 k (m : Int) u (u.length : Int) (i : Int) w h a u = some ((bitsFrom (w * (h + 1)).toNat (u.drop i) m : Nat) : Int) := by
 intro d
 induction d with
 | zero =>
  intro k i m h2 h3 h4 h5
  obtain ⟨k, rfl⟩ : ∃ q, k = q + 1 := ⟨k - 1, by omega⟩
  simp only [impl_Figure_set.l1]
  rw [if_neg (by omega), List.drop_of_length_le (by omega)]
  rfl
 | succ d ih =>
  intro k i m h2 h3 h4 h5
  obtain ⟨k, rfl⟩ : ∃ q, k = q + 1 := ⟨k - 1, by omega⟩
  have hi : i < u.length := by omega
  have hk := hu u[i] (List.getElem_mem hi)
  have e2 : wrap64 ((i : Int) + 1) = ((i + 1 : Nat) : Int) := by unfold wrap64; omega
  have e3 : wrap64 (w * (h + 1) + u[i]) = (((w * (h + 1)).toNat + u[i].toNat : Nat) : Int) := by unfold wrap64; omega
  have hlt : (w * (h + 1)).toNat + u[i].toNat < 60 := by omega
  simp only [impl_Figure_set.l1]
  unfold impl_Figure_grid.f impl_grid_levels.f
  rw [if_pos (by omega), if_pos (by omega), if_pos (by omega), rd_nat u i hi, Option.bind_some, Option.bind_some, hw, e3, if_pos (by omega), shl_u64 _ hlt, or_u64 _ _ h5 (pow_lt60 hlt), e2,
   ih k (i + 1) _ (by omega) (by omega) (by omega) (Nat.or_lt_two_pow h5 (pow_lt60 hlt)), List.drop_eq_getElem_cons hi]
  rfl
theorem set_l0 (w h : Int) (a u : List Int) (hL : a.length ≤ 4000000) (hLu : u.length ≤ 4000000) (hw : wrap64 (w * wrap64 (h + 1)) = w * (h + 1)) (h0 : 0 ≤ w * (h + 1)) (h1 : w * (h + 1) ≤ 20) (ha : ∀ k ∈ a, 0 ≤ k ∧ k ≤ 20) (hu : ∀ k ∈ u, 0 ≤ k ∧ k ≤ 20) : ∀ (d k i : Nat) (m : Nat), a.length - i = d → i ≤ a.length → d + u.length + 2 < k → m < 2 ^ 60 →
  impl_Figure_set.l0 k (m : Int) a (a.length : Int) (i : Int) w h a u = some ((bitsFrom (w * (h + 1)).toNat u (bitsFrom 0 (a.drop i) m) : Nat) : Int) := by
 intro d
 induction d with
 | zero =>
  intro k i m h2 h3 h4 h5
  obtain ⟨k, rfl⟩ : ∃ q, k = q + 1 := ⟨k - 1, by omega⟩
  simp only [impl_Figure_set.l0]
  rw [if_neg (by omega), List.drop_of_length_le (by omega)]
  exact set_l1 w h a u hLu hw h0 h1 hu u.length k 0 m (by omega) (by omega) (by omega) h5
 | succ d ih =>
  intro k i m h2 h3 h4 h5
  obtain ⟨k, rfl⟩ : ∃ q, k = q + 1 := ⟨k - 1, by omega⟩
  have hi : i < a.length := by omega
  have hk := ha a[i] (List.getElem_mem hi)
  have e2 : wrap64 ((i : Int) + 1) = ((i + 1 : Nat) : Int) := by unfold wrap64; omega
  have c1 : (i : Int) < (a.length : Int) := Int.ofNat_lt.2 hi
  have c2 : (0 : Int) ≤ (i : Int) := Int.natCast_nonneg _
  have hr := rd_nat a i hi
  have hd := List.drop_eq_getElem_cons hi
  have n1 : a.length - (i + 1) = d := by clear hk hr hd c1 c2 ih h5 hw h0 h1 hu ha; omega
  have n2 : i + 1 ≤ a.length := hi
  have n3 : d + u.length + 2 < k := by clear hk hr hd c1 c2 ih h5 hw h0 h1 hu ha; omega
  have hih := fun m hm => ih k (i + 1) m n1 n2 n3 hm
  generalize a[i] = x at hk hr hd
  obtain ⟨hk1, hk2⟩ := hk
  obtain ⟨y, rfl⟩ : ∃ y : Nat, x = (y : Int) := ⟨x.toNat, (Int.toNat_of_nonneg hk1).symm⟩
  have hlt : y < 60 := by clear hr hd c1 c2 ih h5 hw h0 h1 hu ha hih; omega
  simp only [impl_Figure_set.l0]
  rw [if_pos c1, if_pos c2, if_pos c1, hr, if_pos hk1, shl_u64 _ hlt, or_u64 _ _ h5 (pow_lt60 hlt), e2, hih _ (Nat.or_lt_two_pow h5 (pow_lt60 hlt)), hd]
  unfold bitsFrom
  rw [List.foldl_cons, Nat.zero_add, Int.toNat_natCast]
theorem set_f {w h : Int} {a u : List Int} (hf : figB w h a u = true) (ha : a.length ≤ 1000000) (hu : u.length ≤ 1000000) (k : Nat) (hk : 2000010 < k) : impl_Figure_set.f k w h a u = some ((figMask w h a u : Nat) : Int) := by
 unfold figB at hf
 simp only [Bool.and_eq_true] at hf
 obtain ⟨hg, -, -, hi1, hi2⟩ := hf
 obtain ⟨b1, b2, b3, b4⟩ := grid_bounds (by simp only [Bool.and_eq_true]; exact hg)
 obtain ⟨c1, c2, c3, c4⟩ := area_bounds b1 b2 b3 b4
 have e1 : wrap64 (h + 1) = h + 1 := by unfold wrap64; omega
 have e3 : wrap64 (w * (h + 1)) = w * (h + 1) := by unfold wrap64; omega
 unfold impl_Figure_set.f figMask
 have q := set_l0 w h a u (by omega) (by omega) (by rw [e1, e3]) (by omega) (by omega) (fun k hk => by have := inB_mem hi1 k hk; omega) (fun k hk => by have := inB_mem hi2 k hk; omega) a.length k 0 0 (by omega) (by omega) (by clear hi1 hi2; omega) (by decide)
 rw [List.drop_zero] at q
 exact q


def spec_fiEdge.f (a0_0 : Int) (a0_1 : Int) (l0_2 : List Int) (l0_3 : List Int) (a1 : Bool) (a2 : Int) (a3 : Int) : Option (Int × Bool) := if a1 = true then ((spec_l1In.f a2 0 a0_0).bind fun t116 => (if t116 = true then ((spec_l1In.f a3 0 (wrap64 (a0_1 - 1))).bind fun t117 => (some (wrap64 ((wrap64 (a3 * (wrap64 (a0_0 + 1)))) + a2), t117))) else (some (wrap64 ((wrap64 (a3 * (wrap64 (a0_0 + 1)))) + a2), false)))) else ((spec_l1In.f a2 0 (wrap64 (a0_0 - 1))).bind fun t118 => (if t118 = true then ((spec_l1In.f a3 0 a0_1).bind fun t119 => (some (wrap64 ((wrap64 (a3 * a0_0)) + a2), t119))) else (some (wrap64 ((wrap64 (a3 * a0_0)) + a2), false))))
set_option maxHeartbeats 8000000 in
set_option maxRecDepth 100000 in
theorem spec_fiEdge.calls (a0_0 : Int) (a0_1 : Int) (A0_2 : Option Addr) (c0_2 : Nat) (l0_2 : List Int) (A0_3 : Option Addr) (c0_3 : Nat) (l0_3 : List Int) (a1 : Bool) (a2 : Int) (a3 : Int) (r1 : Int) (r2 : Bool) (w : World) (hr0_2 : Kd.C (Kd.int .i64) w A0_2 l0_2.length l0_2) (hc0_2 : l0_2.length ≤ c0_2) (hr0_3 : Kd.C (Kd.int .i64) w A0_3 l0_3.length l0_3) (hc0_3 : l0_3.length ≤ c0_3) (h : spec_fiEdge.f a0_0 a0_1 l0_2 l0_3 a1 a2 a3 = some (r1, r2)) :
  Calls Try.prog 125 #[.agg #[.int .i64 a0_0, .int .i64 a0_1, .slice A0_2 l0_2.length c0_2, .slice A0_3 l0_3.length c0_3], .bool a1, .int .i64 a2, .int .i64 a3] w fun e w' => e = .returned (.tuple #[.int .i64 r1, .bool r2]) ∧ Below w.heap.size w w' := by
 have hu28 := Try.underlying28
 have HR0_2 := Aside0.mk hr0_2
 have HC0_2 := Aside0.mk hc0_2
 clear hr0_2 hc0_2
 have HR0_3 := Aside0.mk hr0_3
 have HC0_3 := Aside0.mk hc0_3
 clear hr0_3 hc0_3
 have HB := Aside0.mk (Below.refl w.heap.size w)
 have H : (if a1 = true then ((spec_l1In.f a2 0 a0_0).bind fun t116 => (if t116 = true then ((spec_l1In.f a3 0 (wrap64 (a0_1 - 1))).bind fun t117 => (some (wrap64 ((wrap64 (a3 * (wrap64 (a0_0 + 1)))) + a2), t117))) else (some (wrap64 ((wrap64 (a3 * (wrap64 (a0_0 + 1)))) + a2), false)))) else ((spec_l1In.f a2 0 (wrap64 (a0_0 - 1))).bind fun t118 => (if t118 = true then ((spec_l1In.f a3 0 a0_1).bind fun t119 => (some (wrap64 ((wrap64 (a3 * a0_0)) + a2), t119))) else (some (wrap64 ((wrap64 (a3 * a0_0)) + a2), false))))) = some (r1, r2) := h
 clear h
 by_cases c5 : a1 = true
 ·subst c5
  have H1 : ((spec_l1In.f a2 0 a0_0).bind fun t116 => (if t116 = true then ((spec_l1In.f a3 0 (wrap64 (a0_1 - 1))).bind fun t117 => (some (wrap64 ((wrap64 (a3 * (wrap64 (a0_0 + 1)))) + a2), t117))) else (some (wrap64 ((wrap64 (a3 * (wrap64 (a0_0 + 1)))) + a2), false)))) = some (r1, r2) := by rw [if_pos rfl] at H; exact H
  clear H
  have H := H1
  clear H1
  replace H := Option.bind_eq_some_iff.mp H
  obtain ⟨t116, A60, H⟩ := H
  replace H : (if t116 = true then ((spec_l1In.f a3 0 (wrap64 (a0_1 - 1))).bind fun t117 => (some (wrap64 ((wrap64 (a3 * (wrap64 (a0_0 + 1)))) + a2), t117))) else (some (wrap64 ((wrap64 (a3 * (wrap64 (a0_0 + 1)))) + a2), false))) = some (r1, r2) := H
  have A6 := Aside0.mk A60
  clear A60
  by_cases c7 : t116 = true
  ·subst c7
   have H1 : ((spec_l1In.f a3 0 (wrap64 (a0_1 - 1))).bind fun t117 => (some (wrap64 ((wrap64 (a3 * (wrap64 (a0_0 + 1)))) + a2), t117))) = some (r1, r2) := by rw [if_pos rfl] at H; exact H
   clear H
   have H := H1
   clear H1
   replace H := Option.bind_eq_some_iff.mp H
   obtain ⟨t117, A80, H⟩ := H
   replace H : (some (wrap64 ((wrap64 (a3 * (wrap64 (a0_0 + 1)))) + a2), t117)) = some (r1, r2) := H
   have A8 := Aside0.mk A80
   clear A80
   simp only [Option.some.injEq, Prod.mk.injEq] at H
   obtain ⟨rfl, rfl⟩ := H
   go_enter Try.func125, Try.ntmps125
   go_wp2_with (first | ((with_reducible refine gate_dst (N := 4) rfl ?_); refine boxE_ (N := 4) (cs := #[.int .i64 a0_0, .int .i64 a0_1, .slice A0_2 l0_2.length c0_2, .slice A0_3 l0_3.length c0_3]) (t := 28) ?_; intro gb115 hg w9 hbox hb; have n0_ := Aside0.mk (below_step (bl0_ HB.out) hb); have n1_ := Aside0.mk (hbox); have n2_ := Aside0.mk ((bs0_ hg HB.out : w.heap.size ≤ gb115)); have n3_ := Aside0.mk ((bs0_ hg HB.out : w.heap.size ≤ gb115)); clear HB; have HB := n0_; have BK115 := n1_; have GW115 := n2_; have GE115 := n3_; clear n0_ n1_ n2_ n3_; clear hb hbox hg; have hcz10_0 : w9.cell? ⟨gb115, 0, none⟩ = some (.int .i64 a0_0) := (blk_cell BK115.out 0).trans rfl; have hcz10_1 : w9.cell? ⟨gb115, 1, none⟩ = some (.int .i64 a0_1) := (blk_cell BK115.out 1).trans rfl; have hcz10_2 : w9.cell? ⟨gb115, 2, none⟩ = some (.slice A0_2 l0_2.length c0_2) := (blk_cell BK115.out 2).trans rfl; have hcz10_3 : w9.cell? ⟨gb115, 3, none⟩ = some (.slice A0_3 l0_3.length c0_3) := (blk_cell BK115.out 3).trans rfl; have hfz10_0 := blk_frozen BK115.out 0; have hfz10_1 := blk_frozen BK115.out 1; have hfz10_2 := blk_frozen BK115.out 2; have hfz10_3 := blk_frozen BK115.out 3) | (go_at_call 96; (with_reducible refine (spec_l1In.calls a2 0 a0_0 true _ A6.out).mono ?_); rintro e w' ⟨rfl, ⟨nd, rfl⟩⟩; (try first | exact ⟨rfl, _, World.drewN_drewN _ _ _⟩ | exact ⟨rfl, _, Eq.trans (World.drewN_drewN _ _ _) (congrArg (World.drewN _) (Nat.add_assoc _ _ _))⟩)) | (go_at_call 96; (with_reducible refine (spec_l1In.calls a3 0 (wrap64 (a0_1 - 1)) t117 _ A8.out).mono ?_); rintro e w' ⟨rfl, ⟨nd, rfl⟩⟩; (try first | exact ⟨rfl, _, World.drewN_drewN _ _ _⟩ | exact ⟨rfl, _, Eq.trans (World.drewN_drewN _ _ _) (congrArg (World.drewN _) (Nat.add_assoc _ _ _))⟩)))
   repeat (go_quiet (first | ((with_reducible refine gate_dst (N := 4) rfl ?_); refine boxE_ (N := 4) (cs := #[.int .i64 a0_0, .int .i64 a0_1, .slice A0_2 l0_2.length c0_2, .slice A0_3 l0_3.length c0_3]) (t := 28) ?_; intro gb115 hg w9 hbox hb; have n0_ := Aside0.mk (below_step (bl0_ HB.out) hb); have n1_ := Aside0.mk (hbox); have n2_ := Aside0.mk ((bs0_ hg HB.out : w.heap.size ≤ gb115)); have n3_ := Aside0.mk ((bs0_ hg HB.out : w.heap.size ≤ gb115)); clear HB; have HB := n0_; have BK115 := n1_; have GW115 := n2_; have GE115 := n3_; clear n0_ n1_ n2_ n3_; clear hb hbox hg; have hcz10_0 : w9.cell? ⟨gb115, 0, none⟩ = some (.int .i64 a0_0) := (blk_cell BK115.out 0).trans rfl; have hcz10_1 : w9.cell? ⟨gb115, 1, none⟩ = some (.int .i64 a0_1) := (blk_cell BK115.out 1).trans rfl; have hcz10_2 : w9.cell? ⟨gb115, 2, none⟩ = some (.slice A0_2 l0_2.length c0_2) := (blk_cell BK115.out 2).trans rfl; have hcz10_3 : w9.cell? ⟨gb115, 3, none⟩ = some (.slice A0_3 l0_3.length c0_3) := (blk_cell BK115.out 3).trans rfl; have hfz10_0 := blk_frozen BK115.out 0; have hfz10_1 := blk_frozen BK115.out 1; have hfz10_2 := blk_frozen BK115.out 2; have hfz10_3 := blk_frozen BK115.out 3) | (go_at_call 96; (with_reducible refine (spec_l1In.calls a2 0 a0_0 true _ A6.out).mono ?_); rintro e w' ⟨rfl, ⟨nd, rfl⟩⟩; (try first | exact ⟨rfl, _, World.drewN_drewN _ _ _⟩ | exact ⟨rfl, _, Eq.trans (World.drewN_drewN _ _ _) (congrArg (World.drewN _) (Nat.add_assoc _ _ _))⟩)) | (go_at_call 96; (with_reducible refine (spec_l1In.calls a3 0 (wrap64 (a0_1 - 1)) t117 _ A8.out).mono ?_); rintro e w' ⟨rfl, ⟨nd, rfl⟩⟩; (try first | exact ⟨rfl, _, World.drewN_drewN _ _ _⟩ | exact ⟨rfl, _, Eq.trans (World.drewN_drewN _ _ _) (congrArg (World.drewN _) (Nat.add_assoc _ _ _))⟩))); try go_wp2_with (first | ((with_reducible refine gate_dst (N := 4) rfl ?_); refine boxE_ (N := 4) (cs := #[.int .i64 a0_0, .int .i64 a0_1, .slice A0_2 l0_2.length c0_2, .slice A0_3 l0_3.length c0_3]) (t := 28) ?_; intro gb115 hg w9 hbox hb; have n0_ := Aside0.mk (below_step (bl0_ HB.out) hb); have n1_ := Aside0.mk (hbox); have n2_ := Aside0.mk ((bs0_ hg HB.out : w.heap.size ≤ gb115)); have n3_ := Aside0.mk ((bs0_ hg HB.out : w.heap.size ≤ gb115)); clear HB; have HB := n0_; have BK115 := n1_; have GW115 := n2_; have GE115 := n3_; clear n0_ n1_ n2_ n3_; clear hb hbox hg; have hcz10_0 : w9.cell? ⟨gb115, 0, none⟩ = some (.int .i64 a0_0) := (blk_cell BK115.out 0).trans rfl; have hcz10_1 : w9.cell? ⟨gb115, 1, none⟩ = some (.int .i64 a0_1) := (blk_cell BK115.out 1).trans rfl; have hcz10_2 : w9.cell? ⟨gb115, 2, none⟩ = some (.slice A0_2 l0_2.length c0_2) := (blk_cell BK115.out 2).trans rfl; have hcz10_3 : w9.cell? ⟨gb115, 3, none⟩ = some (.slice A0_3 l0_3.length c0_3) := (blk_cell BK115.out 3).trans rfl; have hfz10_0 := blk_frozen BK115.out 0; have hfz10_1 := blk_frozen BK115.out 1; have hfz10_2 := blk_frozen BK115.out 2; have hfz10_3 := blk_frozen BK115.out 3) | (go_at_call 96; (with_reducible refine (spec_l1In.calls a2 0 a0_0 true _ A6.out).mono ?_); rintro e w' ⟨rfl, ⟨nd, rfl⟩⟩; (try first | exact ⟨rfl, _, World.drewN_drewN _ _ _⟩ | exact ⟨rfl, _, Eq.trans (World.drewN_drewN _ _ _) (congrArg (World.drewN _) (Nat.add_assoc _ _ _))⟩)) | (go_at_call 96; (with_reducible refine (spec_l1In.calls a3 0 (wrap64 (a0_1 - 1)) t117 _ A8.out).mono ?_); rintro e w' ⟨rfl, ⟨nd, rfl⟩⟩; (try first | exact ⟨rfl, _, World.drewN_drewN _ _ _⟩ | exact ⟨rfl, _, Eq.trans (World.drewN_drewN _ _ _) (congrArg (World.drewN _) (Nat.add_assoc _ _ _))⟩))))
   go_ret2
   exact ⟨er_, bl1_ HB.out GE115.out⟩
  ·replace c7 := Bool.eq_false_iff.mpr c7
   subst c7
   have H1 : (some (wrap64 ((wrap64 (a3 * (wrap64 (a0_0 + 1)))) + a2), false)) = some (r1, r2) := by rw [if_neg (show ¬ (false = true) by decide)] at H; exact H
   clear H
   have H := H1
   clear H1
   simp only [Option.some.injEq, Prod.mk.injEq] at H
   obtain ⟨rfl, rfl⟩ := H
   go_enter Try.func125, Try.ntmps125
   go_wp2_with (first | ((with_reducible refine gate_dst (N := 4) rfl ?_); refine boxE_ (N := 4) (cs := #[.int .i64 a0_0, .int .i64 a0_1, .slice A0_2 l0_2.length c0_2, .slice A0_3 l0_3.length c0_3]) (t := 28) ?_; intro gb115 hg w11 hbox hb; have n0_ := Aside0.mk (below_step (bl0_ HB.out) hb); have n1_ := Aside0.mk (hbox); have n2_ := Aside0.mk ((bs0_ hg HB.out : w.heap.size ≤ gb115)); have n3_ := Aside0.mk ((bs0_ hg HB.out : w.heap.size ≤ gb115)); clear HB; have HB := n0_; have BK115 := n1_; have GW115 := n2_; have GE115 := n3_; clear n0_ n1_ n2_ n3_; clear hb hbox hg; have hcz12_0 : w11.cell? ⟨gb115, 0, none⟩ = some (.int .i64 a0_0) := (blk_cell BK115.out 0).trans rfl; have hcz12_1 : w11.cell? ⟨gb115, 1, none⟩ = some (.int .i64 a0_1) := (blk_cell BK115.out 1).trans rfl; have hcz12_2 : w11.cell? ⟨gb115, 2, none⟩ = some (.slice A0_2 l0_2.length c0_2) := (blk_cell BK115.out 2).trans rfl; have hcz12_3 : w11.cell? ⟨gb115, 3, none⟩ = some (.slice A0_3 l0_3.length c0_3) := (blk_cell BK115.out 3).trans rfl; have hfz12_0 := blk_frozen BK115.out 0; have hfz12_1 := blk_frozen BK115.out 1; have hfz12_2 := blk_frozen BK115.out 2; have hfz12_3 := blk_frozen BK115.out 3) | (go_at_call 96; (with_reducible refine (spec_l1In.calls a2 0 a0_0 false _ A6.out).mono ?_); rintro e w' ⟨rfl, ⟨nd, rfl⟩⟩; (try first | exact ⟨rfl, _, World.drewN_drewN _ _ _⟩ | exact ⟨rfl, _, Eq.trans (World.drewN_drewN _ _ _) (congrArg (World.drewN _) (Nat.add_assoc _ _ _))⟩)))
   repeat (go_quiet (first | ((with_reducible refine gate_dst (N := 4) rfl ?_); refine boxE_ (N := 4) (cs := #[.int .i64 a0_0, .int .i64 a0_1, .slice A0_2 l0_2.length c0_2, .slice A0_3 l0_3.length c0_3]) (t := 28) ?_; intro gb115 hg w11 hbox hb; have n0_ := Aside0.mk (below_step (bl0_ HB.out) hb); have n1_ := Aside0.mk (hbox); have n2_ := Aside0.mk ((bs0_ hg HB.out : w.heap.size ≤ gb115)); have n3_ := Aside0.mk ((bs0_ hg HB.out : w.heap.size ≤ gb115)); clear HB; have HB := n0_; have BK115 := n1_; have GW115 := n2_; have GE115 := n3_; clear n0_ n1_ n2_ n3_; clear hb hbox hg; have hcz12_0 : w11.cell? ⟨gb115, 0, none⟩ = some (.int .i64 a0_0) := (blk_cell BK115.out 0).trans rfl; have hcz12_1 : w11.cell? ⟨gb115, 1, none⟩ = some (.int .i64 a0_1) := (blk_cell BK115.out 1).trans rfl; have hcz12_2 : w11.cell? ⟨gb115, 2, none⟩ = some (.slice A0_2 l0_2.length c0_2) := (blk_cell BK115.out 2).trans rfl; have hcz12_3 : w11.cell? ⟨gb115, 3, none⟩ = some (.slice A0_3 l0_3.length c0_3) := (blk_cell BK115.out 3).trans rfl; have hfz12_0 := blk_frozen BK115.out 0; have hfz12_1 := blk_frozen BK115.out 1; have hfz12_2 := blk_frozen BK115.out 2; have hfz12_3 := blk_frozen BK115.out 3) | (go_at_call 96; (with_reducible refine (spec_l1In.calls a2 0 a0_0 false _ A6.out).mono ?_); rintro e w' ⟨rfl, ⟨nd, rfl⟩⟩; (try first | exact ⟨rfl, _, World.drewN_drewN _ _ _⟩ | exact ⟨rfl, _, Eq.trans (World.drewN_drewN _ _ _) (congrArg (World.drewN _) (Nat.add_assoc _ _ _))⟩))); try go_wp2_with (first | ((with_reducible refine gate_dst (N := 4) rfl ?_); refine boxE_ (N := 4) (cs := #[.int .i64 a0_0, .int .i64 a0_1, .slice A0_2 l0_2.length c0_2, .slice A0_3 l0_3.length c0_3]) (t := 28) ?_; intro gb115 hg w11 hbox hb; have n0_ := Aside0.mk (below_step (bl0_ HB.out) hb); have n1_ := Aside0.mk (hbox); have n2_ := Aside0.mk ((bs0_ hg HB.out : w.heap.size ≤ gb115)); have n3_ := Aside0.mk ((bs0_ hg HB.out : w.heap.size ≤ gb115)); clear HB; have HB := n0_; have BK115 := n1_; have GW115 := n2_; have GE115 := n3_; clear n0_ n1_ n2_ n3_; clear hb hbox hg; have hcz12_0 : w11.cell? ⟨gb115, 0, none⟩ = some (.int .i64 a0_0) := (blk_cell BK115.out 0).trans rfl; have hcz12_1 : w11.cell? ⟨gb115, 1, none⟩ = some (.int .i64 a0_1) := (blk_cell BK115.out 1).trans rfl; have hcz12_2 : w11.cell? ⟨gb115, 2, none⟩ = some (.slice A0_2 l0_2.length c0_2) := (blk_cell BK115.out 2).trans rfl; have hcz12_3 : w11.cell? ⟨gb115, 3, none⟩ = some (.slice A0_3 l0_3.length c0_3) := (blk_cell BK115.out 3).trans rfl; have hfz12_0 := blk_frozen BK115.out 0; have hfz12_1 := blk_frozen BK115.out 1; have hfz12_2 := blk_frozen BK115.out 2; have hfz12_3 := blk_frozen BK115.out 3) | (go_at_call 96; (with_reducible refine (spec_l1In.calls a2 0 a0_0 false _ A6.out).mono ?_); rintro e w' ⟨rfl, ⟨nd, rfl⟩⟩; (try first | exact ⟨rfl, _, World.drewN_drewN _ _ _⟩ | exact ⟨rfl, _, Eq.trans (World.drewN_drewN _ _ _) (congrArg (World.drewN _) (Nat.add_assoc _ _ _))⟩))))
   go_ret2
   exact ⟨er_, bl1_ HB.out GE115.out⟩
 ·replace c5 := Bool.eq_false_iff.mpr c5
  subst c5
  have H1 : ((spec_l1In.f a2 0 (wrap64 (a0_0 - 1))).bind fun t118 => (if t118 = true then ((spec_l1In.f a3 0 a0_1).bind fun t119 => (some (wrap64 ((wrap64 (a3 * a0_0)) + a2), t119))) else (some (wrap64 ((wrap64 (a3 * a0_0)) + a2), false)))) = some (r1, r2) := by rw [if_neg (show ¬ (false = true) by decide)] at H; exact H
  clear H
  have H := H1
  clear H1
  replace H := Option.bind_eq_some_iff.mp H
  obtain ⟨t118, A130, H⟩ := H
  replace H : (if t118 = true then ((spec_l1In.f a3 0 a0_1).bind fun t119 => (some (wrap64 ((wrap64 (a3 * a0_0)) + a2), t119))) else (some (wrap64 ((wrap64 (a3 * a0_0)) + a2), false))) = some (r1, r2) := H
  have A13 := Aside0.mk A130
  clear A130
  by_cases c14 : t118 = true
  ·subst c14
   have H1 : ((spec_l1In.f a3 0 a0_1).bind fun t119 => (some (wrap64 ((wrap64 (a3 * a0_0)) + a2), t119))) = some (r1, r2) := by rw [if_pos rfl] at H; exact H
   clear H
   have H := H1
   clear H1
   replace H := Option.bind_eq_some_iff.mp H
   obtain ⟨t119, A150, H⟩ := H
   replace H : (some (wrap64 ((wrap64 (a3 * a0_0)) + a2), t119)) = some (r1, r2) := H
   have A15 := Aside0.mk A150
   clear A150
   simp only [Option.some.injEq, Prod.mk.injEq] at H
   obtain ⟨rfl, rfl⟩ := H
   go_enter Try.func125, Try.ntmps125
   go_wp2_with (first | ((with_reducible refine gate_dst (N := 4) rfl ?_); refine boxE_ (N := 4) (cs := #[.int .i64 a0_0, .int .i64 a0_1, .slice A0_2 l0_2.length c0_2, .slice A0_3 l0_3.length c0_3]) (t := 28) ?_; intro gb115 hg w16 hbox hb; have n0_ := Aside0.mk (below_step (bl0_ HB.out) hb); have n1_ := Aside0.mk (hbox); have n2_ := Aside0.mk ((bs0_ hg HB.out : w.heap.size ≤ gb115)); have n3_ := Aside0.mk ((bs0_ hg HB.out : w.heap.size ≤ gb115)); clear HB; have HB := n0_; have BK115 := n1_; have GW115 := n2_; have GE115 := n3_; clear n0_ n1_ n2_ n3_; clear hb hbox hg; have hcz17_0 : w16.cell? ⟨gb115, 0, none⟩ = some (.int .i64 a0_0) := (blk_cell BK115.out 0).trans rfl; have hcz17_1 : w16.cell? ⟨gb115, 1, none⟩ = some (.int .i64 a0_1) := (blk_cell BK115.out 1).trans rfl; have hcz17_2 : w16.cell? ⟨gb115, 2, none⟩ = some (.slice A0_2 l0_2.length c0_2) := (blk_cell BK115.out 2).trans rfl; have hcz17_3 : w16.cell? ⟨gb115, 3, none⟩ = some (.slice A0_3 l0_3.length c0_3) := (blk_cell BK115.out 3).trans rfl; have hfz17_0 := blk_frozen BK115.out 0; have hfz17_1 := blk_frozen BK115.out 1; have hfz17_2 := blk_frozen BK115.out 2; have hfz17_3 := blk_frozen BK115.out 3) | (go_at_call 96; (with_reducible refine (spec_l1In.calls a2 0 (wrap64 (a0_0 - 1)) true _ A13.out).mono ?_); rintro e w' ⟨rfl, ⟨nd, rfl⟩⟩; (try first | exact ⟨rfl, _, World.drewN_drewN _ _ _⟩ | exact ⟨rfl, _, Eq.trans (World.drewN_drewN _ _ _) (congrArg (World.drewN _) (Nat.add_assoc _ _ _))⟩)) | (go_at_call 96; (with_reducible refine (spec_l1In.calls a3 0 a0_1 t119 _ A15.out).mono ?_); rintro e w' ⟨rfl, ⟨nd, rfl⟩⟩; (try first | exact ⟨rfl, _, World.drewN_drewN _ _ _⟩ | exact ⟨rfl, _, Eq.trans (World.drewN_drewN _ _ _) (congrArg (World.drewN _) (Nat.add_assoc _ _ _))⟩)))
   repeat (go_quiet (first | ((with_reducible refine gate_dst (N := 4) rfl ?_); refine boxE_ (N := 4) (cs := #[.int .i64 a0_0, .int .i64 a0_1, .slice A0_2 l0_2.length c0_2, .slice A0_3 l0_3.length c0_3]) (t := 28) ?_; intro gb115 hg w16 hbox hb; have n0_ := Aside0.mk (below_step (bl0_ HB.out) hb); have n1_ := Aside0.mk (hbox); have n2_ := Aside0.mk ((bs0_ hg HB.out : w.heap.size ≤ gb115)); have n3_ := Aside0.mk ((bs0_ hg HB.out : w.heap.size ≤ gb115)); clear HB; have HB := n0_; have BK115 := n1_; have GW115 := n2_; have GE115 := n3_; clear n0_ n1_ n2_ n3_; clear hb hbox hg; have hcz17_0 : w16.cell? ⟨gb115, 0, none⟩ = some (.int .i64 a0_0) := (blk_cell BK115.out 0).trans rfl; have hcz17_1 : w16.cell? ⟨gb115, 1, none⟩ = some (.int .i64 a0_1) := (blk_cell BK115.out 1).trans rfl; have hcz17_2 : w16.cell? ⟨gb115, 2, none⟩ = some (.slice A0_2 l0_2.length c0_2) := (blk_cell BK115.out 2).trans rfl; have hcz17_3 : w16.cell? ⟨gb115, 3, none⟩ = some (.slice A0_3 l0_3.length c0_3) := (blk_cell BK115.out 3).trans rfl; have hfz17_0 := blk_frozen BK115.out 0; have hfz17_1 := blk_frozen BK115.out 1; have hfz17_2 := blk_frozen BK115.out 2; have hfz17_3 := blk_frozen BK115.out 3) | (go_at_call 96; (with_reducible refine (spec_l1In.calls a2 0 (wrap64 (a0_0 - 1)) true _ A13.out).mono ?_); rintro e w' ⟨rfl, ⟨nd, rfl⟩⟩; (try first | exact ⟨rfl, _, World.drewN_drewN _ _ _⟩ | exact ⟨rfl, _, Eq.trans (World.drewN_drewN _ _ _) (congrArg (World.drewN _) (Nat.add_assoc _ _ _))⟩)) | (go_at_call 96; (with_reducible refine (spec_l1In.calls a3 0 a0_1 t119 _ A15.out).mono ?_); rintro e w' ⟨rfl, ⟨nd, rfl⟩⟩; (try first | exact ⟨rfl, _, World.drewN_drewN _ _ _⟩ | exact ⟨rfl, _, Eq.trans (World.drewN_drewN _ _ _) (congrArg (World.drewN _) (Nat.add_assoc _ _ _))⟩))); try go_wp2_with (first | ((with_reducible refine gate_dst (N := 4) rfl ?_); refine boxE_ (N := 4) (cs := #[.int .i64 a0_0, .int .i64 a0_1, .slice A0_2 l0_2.length c0_2, .slice A0_3 l0_3.length c0_3]) (t := 28) ?_; intro gb115 hg w16 hbox hb; have n0_ := Aside0.mk (below_step (bl0_ HB.out) hb); have n1_ := Aside0.mk (hbox); have n2_ := Aside0.mk ((bs0_ hg HB.out : w.heap.size ≤ gb115)); have n3_ := Aside0.mk ((bs0_ hg HB.out : w.heap.size ≤ gb115)); clear HB; have HB := n0_; have BK115 := n1_; have GW115 := n2_; have GE115 := n3_; clear n0_ n1_ n2_ n3_; clear hb hbox hg; have hcz17_0 : w16.cell? ⟨gb115, 0, none⟩ = some (.int .i64 a0_0) := (blk_cell BK115.out 0).trans rfl; have hcz17_1 : w16.cell? ⟨gb115, 1, none⟩ = some (.int .i64 a0_1) := (blk_cell BK115.out 1).trans rfl; have hcz17_2 : w16.cell? ⟨gb115, 2, none⟩ = some (.slice A0_2 l0_2.length c0_2) := (blk_cell BK115.out 2).trans rfl; have hcz17_3 : w16.cell? ⟨gb115, 3, none⟩ = some (.slice A0_3 l0_3.length c0_3) := (blk_cell BK115.out 3).trans rfl; have hfz17_0 := blk_frozen BK115.out 0; have hfz17_1 := blk_frozen BK115.out 1; have hfz17_2 := blk_frozen BK115.out 2; have hfz17_3 := blk_frozen BK115.out 3) | (go_at_call 96; (with_reducible refine (spec_l1In.calls a2 0 (wrap64 (a0_0 - 1)) true _ A13.out).mono ?_); rintro e w' ⟨rfl, ⟨nd, rfl⟩⟩; (try first | exact ⟨rfl, _, World.drewN_drewN _ _ _⟩ | exact ⟨rfl, _, Eq.trans (World.drewN_drewN _ _ _) (congrArg (World.drewN _) (Nat.add_assoc _ _ _))⟩)) | (go_at_call 96; (with_reducible refine (spec_l1In.calls a3 0 a0_1 t119 _ A15.out).mono ?_); rintro e w' ⟨rfl, ⟨nd, rfl⟩⟩; (try first | exact ⟨rfl, _, World.drewN_drewN _ _ _⟩ | exact ⟨rfl, _, Eq.trans (World.drewN_drewN _ _ _) (congrArg (World.drewN _) (Nat.add_assoc _ _ _))⟩))))
   go_ret2
   exact ⟨er_, bl1_ HB.out GE115.out⟩
  ·replace c14 := Bool.eq_false_iff.mpr c14
   subst c14
   have H1 : (some (wrap64 ((wrap64 (a3 * a0_0)) + a2), false)) = some (r1, r2) := by rw [if_neg (show ¬ (false = true) by decide)] at H; exact H
   clear H
   have H := H1
   clear H1
   simp only [Option.some.injEq, Prod.mk.injEq] at H
   obtain ⟨rfl, rfl⟩ := H
   go_enter Try.func125, Try.ntmps125
   go_wp2_with (first | ((with_reducible refine gate_dst (N := 4) rfl ?_); refine boxE_ (N := 4) (cs := #[.int .i64 a0_0, .int .i64 a0_1, .slice A0_2 l0_2.length c0_2, .slice A0_3 l0_3.length c0_3]) (t := 28) ?_; intro gb115 hg w18 hbox hb; have n0_ := Aside0.mk (below_step (bl0_ HB.out) hb); have n1_ := Aside0.mk (hbox); have n2_ := Aside0.mk ((bs0_ hg HB.out : w.heap.size ≤ gb115)); have n3_ := Aside0.mk ((bs0_ hg HB.out : w.heap.size ≤ gb115)); clear HB; have HB := n0_; have BK115 := n1_; have GW115 := n2_; have GE115 := n3_; clear n0_ n1_ n2_ n3_; clear hb hbox hg; have hcz19_0 : w18.cell? ⟨gb115, 0, none⟩ = some (.int .i64 a0_0) := (blk_cell BK115.out 0).trans rfl; have hcz19_1 : w18.cell? ⟨gb115, 1, none⟩ = some (.int .i64 a0_1) := (blk_cell BK115.out 1).trans rfl; have hcz19_2 : w18.cell? ⟨gb115, 2, none⟩ = some (.slice A0_2 l0_2.length c0_2) := (blk_cell BK115.out 2).trans rfl; have hcz19_3 : w18.cell? ⟨gb115, 3, none⟩ = some (.slice A0_3 l0_3.length c0_3) := (blk_cell BK115.out 3).trans rfl; have hfz19_0 := blk_frozen BK115.out 0; have hfz19_1 := blk_frozen BK115.out 1; have hfz19_2 := blk_frozen BK115.out 2; have hfz19_3 := blk_frozen BK115.out 3) | (go_at_call 96; (with_reducible refine (spec_l1In.calls a2 0 (wrap64 (a0_0 - 1)) false _ A13.out).mono ?_); rintro e w' ⟨rfl, ⟨nd, rfl⟩⟩; (try first | exact ⟨rfl, _, World.drewN_drewN _ _ _⟩ | exact ⟨rfl, _, Eq.trans (World.drewN_drewN _ _ _) (congrArg (World.drewN _) (Nat.add_assoc _ _ _))⟩)))
   repeat (go_quiet (first | ((with_reducible refine gate_dst (N := 4) rfl ?_); refine boxE_ (N := 4) (cs := #[.int .i64 a0_0, .int .i64 a0_1, .slice A0_2 l0_2.length c0_2, .slice A0_3 l0_3.length c0_3]) (t := 28) ?_; intro gb115 hg w18 hbox hb; have n0_ := Aside0.mk (below_step (bl0_ HB.out) hb); have n1_ := Aside0.mk (hbox); have n2_ := Aside0.mk ((bs0_ hg HB.out : w.heap.size ≤ gb115)); have n3_ := Aside0.mk ((bs0_ hg HB.out : w.heap.size ≤ gb115)); clear HB; have HB := n0_; have BK115 := n1_; have GW115 := n2_; have GE115 := n3_; clear n0_ n1_ n2_ n3_; clear hb hbox hg; have hcz19_0 : w18.cell? ⟨gb115, 0, none⟩ = some (.int .i64 a0_0) := (blk_cell BK115.out 0).trans rfl; have hcz19_1 : w18.cell? ⟨gb115, 1, none⟩ = some (.int .i64 a0_1) := (blk_cell BK115.out 1).trans rfl; have hcz19_2 : w18.cell? ⟨gb115, 2, none⟩ = some (.slice A0_2 l0_2.length c0_2) := (blk_cell BK115.out 2).trans rfl; have hcz19_3 : w18.cell? ⟨gb115, 3, none⟩ = some (.slice A0_3 l0_3.length c0_3) := (blk_cell BK115.out 3).trans rfl; have hfz19_0 := blk_frozen BK115.out 0; have hfz19_1 := blk_frozen BK115.out 1; have hfz19_2 := blk_frozen BK115.out 2; have hfz19_3 := blk_frozen BK115.out 3) | (go_at_call 96; (with_reducible refine (spec_l1In.calls a2 0 (wrap64 (a0_0 - 1)) false _ A13.out).mono ?_); rintro e w' ⟨rfl, ⟨nd, rfl⟩⟩; (try first | exact ⟨rfl, _, World.drewN_drewN _ _ _⟩ | exact ⟨rfl, _, Eq.trans (World.drewN_drewN _ _ _) (congrArg (World.drewN _) (Nat.add_assoc _ _ _))⟩))); try go_wp2_with (first | ((with_reducible refine gate_dst (N := 4) rfl ?_); refine boxE_ (N := 4) (cs := #[.int .i64 a0_0, .int .i64 a0_1, .slice A0_2 l0_2.length c0_2, .slice A0_3 l0_3.length c0_3]) (t := 28) ?_; intro gb115 hg w18 hbox hb; have n0_ := Aside0.mk (below_step (bl0_ HB.out) hb); have n1_ := Aside0.mk (hbox); have n2_ := Aside0.mk ((bs0_ hg HB.out : w.heap.size ≤ gb115)); have n3_ := Aside0.mk ((bs0_ hg HB.out : w.heap.size ≤ gb115)); clear HB; have HB := n0_; have BK115 := n1_; have GW115 := n2_; have GE115 := n3_; clear n0_ n1_ n2_ n3_; clear hb hbox hg; have hcz19_0 : w18.cell? ⟨gb115, 0, none⟩ = some (.int .i64 a0_0) := (blk_cell BK115.out 0).trans rfl; have hcz19_1 : w18.cell? ⟨gb115, 1, none⟩ = some (.int .i64 a0_1) := (blk_cell BK115.out 1).trans rfl; have hcz19_2 : w18.cell? ⟨gb115, 2, none⟩ = some (.slice A0_2 l0_2.length c0_2) := (blk_cell BK115.out 2).trans rfl; have hcz19_3 : w18.cell? ⟨gb115, 3, none⟩ = some (.slice A0_3 l0_3.length c0_3) := (blk_cell BK115.out 3).trans rfl; have hfz19_0 := blk_frozen BK115.out 0; have hfz19_1 := blk_frozen BK115.out 1; have hfz19_2 := blk_frozen BK115.out 2; have hfz19_3 := blk_frozen BK115.out 3) | (go_at_call 96; (with_reducible refine (spec_l1In.calls a2 0 (wrap64 (a0_0 - 1)) false _ A13.out).mono ?_); rintro e w' ⟨rfl, ⟨nd, rfl⟩⟩; (try first | exact ⟨rfl, _, World.drewN_drewN _ _ _⟩ | exact ⟨rfl, _, Eq.trans (World.drewN_drewN _ _ _) (congrArg (World.drewN _) (Nat.add_assoc _ _ _))⟩))))
   go_ret2
   exact ⟨er_, bl1_ HB.out GE115.out⟩


def spec_l1Has.l0 : Nat → Int → List Int → Int → Int → Option (Bool)
  | 0, _, _, _, _ => none
  | k + 1, x1, x7, x8, x9 => if x9 < x8 then (if 0 ≤ x9 then (if x9 < (x7.length : Int) then (if (rd x7 x9) = x1 then (some true) else (spec_l1Has.l0 k x1 x7 x8 (wrap64 (x9 + 1)))) else (none)) else (none)) else (some false)
def spec_l1Has.f (k : Nat) (l0 : List Int) (a1 : Int) : Option (Bool) := spec_l1Has.l0 k a1 l0 (l0.length : Int) 0
theorem spec_l1Has.mono_l : ∀ k, (∀ y0 y1 y2 y3, LeO (spec_l1Has.l0 k y0 y1 y2 y3) (spec_l1Has.l0 (k + 1) y0 y1 y2 y3))
  | 0 => fun _ _ _ _ r h => by simp [spec_l1Has.l0] at h
  | k + 1 => by
    have ih0 := spec_l1Has.mono_l k
    · intro y0 y1 y2 y3
      unfold spec_l1Has.l0
      repeat' first
      | (with_reducible exact ih0 _ _ _ _)
      | (with_reducible exact LeO.refl _)
      | (with_reducible exact LeO.none _)
      | (with_reducible refine LeO.ite ?_ ?_)
      | (with_reducible refine LeO.bind ?_ (fun _ => ?_))
      | exact ih0 _ _ _ _
      | exact LeO.none _
      | refine LeO.ite ?_ ?_
      | refine LeO.bind ?_ (fun _ => ?_)
theorem spec_l1Has.mono : ∀ a0 a1 k, LeO (spec_l1Has.f k a0 a1) (spec_l1Has.f (k + 1) a0 a1) := by
  intro a0 a1 k
  have ih0 := spec_l1Has.mono_l k
  unfold spec_l1Has.f
  repeat' first
      | (with_reducible exact ih0 _ _ _ _)
      | (with_reducible exact LeO.refl _)
      | (with_reducible exact LeO.none _)
      | (with_reducible refine LeO.ite ?_ ?_)
      | (with_reducible refine LeO.bind ?_ (fun _ => ?_))
      | exact ih0 _ _ _ _
      | exact LeO.none _
      | refine LeO.ite ?_ ?_
      | refine LeO.bind ?_ (fun _ => ?_)
set_option maxHeartbeats 8000000 in
set_option maxRecDepth 100000 in
theorem spec_l1Has.calls (k : Nat) (A0 : Option Addr) (c0 : Nat) (l0 : List Int) (a1 : Int) (r : Bool) (w : World) (hr0 : Kd.C (Kd.int .i64) w A0 l0.length l0) (hc0 : l0.length ≤ c0) (h : spec_l1Has.f k l0 a1 = some r) :
    Calls Try.prog 126 #[.slice A0 l0.length c0, .int .i64 a1] w fun e w' => e = .returned (.bool r) ∧ Drawn0 w w' := by
  have HR0 := Aside0.mk hr0
  have HC0 := Aside0.mk hc0
  clear hr0 hc0
  have H : (spec_l1Has.l0 k a1 l0 (l0.length : Int) 0) = some r := h
  clear h
  have H' := Aside0.mk H
  clear H
  go_enter Try.func126, Try.ntmps126
  go_wp2
  go_loopg [9] k (fun kq v9 w' => ∃ (x9_1 : Int), v9 = .int .i64 x9_1 ∧ Aside0 (spec_l1Has.l0 kq a1 l0 (l0.length : Int) x9_1 = some r) ∧ Aside0 (kq ≤ k) ∧ Drawn0 w w')
  case atStart => exact ⟨(0), rs_, H', ⟨Nat.le_refl _⟩, by repeat (first | exact Drawn0.refl _ | apply Drawn0.step)⟩
  case round =>
    clear H'
    try clear c1
    try clear p2
    obtain ⟨x9_1, rfl, HA, HK1, ⟨m1, rfl⟩⟩ := hrel
    cases gk with
    | zero => exact absurd HA.out (by simp [spec_l1Has.l0])
    | succ k1 =>
      have H := HA.out
      clear HA
      simp only [spec_l1Has.l0] at H
      by_cases c3 : x9_1 < (l0.length : Int)
      · rw [if_pos c3] at H
        have c3b0 : decide (x9_1 < (l0.length : Int)) = true := decide_eq_true c3
        clear c3
        by_cases c4 : 0 ≤ x9_1
        · rw [if_pos c4] at H
          have c4b0 : decide (0 ≤ x9_1) = true := decide_eq_true c4
          clear c4
          by_cases c5 : x9_1 < (l0.length : Int)
          · rw [if_pos c5] at H
            have c5b0 : decide (x9_1 < (l0.length : Int)) = true := decide_eq_true c5
            clear c5
            by_cases c6 : (rd l0 x9_1) = a1
            · rw [if_pos c6] at H
              have c6b0 : ((rd l0 x9_1) == a1) = true := beq_iff_eq.mpr c6
              have c6b1 : ((rd l0 x9_1) != a1) = false := bne_eq_false_iff_eq.mpr c6
              clear c6
              obtain rfl := Option.some.inj H
              have p120 : 0 ≤ (x9_1 : Int) := of_decide_eq_true as_
              have q120 : x9_1 < (l0.length : Int) := of_decide_eq_true as_
              obtain ⟨ad120, e120, hx120_0⟩ := Kd.at_int HR0.out x9_1 p120 q120
              cases e120
              replace p120 := eq_true p120
              replace q120 := eq_true q120
              go_wp2
              go_ret
              exact ⟨by first | rfl | (simp; done) | (simp [*]; done), by repeat (first | exact Drawn0.refl _ | apply Drawn0.step)⟩
            · rw [if_neg c6] at H
              have c6b0 : ((rd l0 x9_1) == a1) = false := beq_eq_false_iff_ne.mpr c6
              have c6b1 : ((rd l0 x9_1) != a1) = true := bne_iff_ne.mpr c6
              have H' := Aside0.mk H
              clear H
              have p120 : 0 ≤ (x9_1 : Int) := of_decide_eq_true as_
              have q120 : x9_1 < (l0.length : Int) := of_decide_eq_true as_
              obtain ⟨ad120, e120, hx120_0⟩ := Kd.at_int HR0.out x9_1 p120 q120
              cases e120
              replace p120 := eq_true p120
              replace q120 := eq_true q120
              go_wp2
              go_roundg k1
              case measure => have := HK1.out; omega
              case rel => exact ⟨(wrap64 (x9_1 + 1)), rs_, H', ⟨by have := HK1.out; omega⟩, by repeat (first | exact Drawn0.refl _ | apply Drawn0.step)⟩
          · rw [if_neg c5] at H
            exact absurd H (by simp)
        · rw [if_neg c4] at H
          exact absurd H (by simp)
      · rw [if_neg c3] at H
        have c3b0 : decide (x9_1 < (l0.length : Int)) = false := decide_eq_false c3
        clear c3
        obtain rfl := Option.some.inj H
        go_wp2
        go_ret
        exact ⟨by first | rfl | (simp; done) | (simp [*]; done), by repeat (first | exact Drawn0.refl _ | apply Drawn0.step)⟩


def spec_fiHas.f (k : Nat) (a0_0 : Int) (a0_1 : Int) (l0_2 : List Int) (l0_3 : List Int) (a1 : Bool) (a2 : Int) (a3 : Int) : Option (Bool) := (spec_fiEdge.f a0_0 a0_1 l0_2 l0_3 a1 a2 a3).bind fun bt122 => (if a1 = true then ((spec_l1Has.f k l0_3 bt122.1).bind fun t124 => (some t124)) else ((spec_l1Has.f k l0_2 bt122.1).bind fun t125 => (some t125)))
theorem spec_fiHas.mono : ∀ a0 a1 a2 a3 a4 a5 a6 k, LeO (spec_fiHas.f k a0 a1 a2 a3 a4 a5 a6) (spec_fiHas.f (k + 1) a0 a1 a2 a3 a4 a5 a6) := by
 intro a0 a1 a2 a3 a4 a5 a6 k
 unfold spec_fiHas.f
 repeat' first
   | (with_reducible exact spec_l1Has.mono _ _ _)
   | (with_reducible exact LeO.refl _)
   | (with_reducible exact LeO.none _)
   | (with_reducible refine LeO.ite ?_ ?_)
   | (with_reducible refine LeO.bind ?_ (fun _ => ?_))
   | exact spec_l1Has.mono _ _ _
   | exact LeO.none _
   | refine LeO.ite ?_ ?_
   | refine LeO.bind ?_ (fun _ => ?_)
set_option maxHeartbeats 8000000 in
set_option maxRecDepth 100000 in
theorem spec_fiHas.calls (k : Nat) (a0_0 : Int) (a0_1 : Int) (A0_2 : Option Addr) (c0_2 : Nat) (l0_2 : List Int) (A0_3 : Option Addr) (c0_3 : Nat) (l0_3 : List Int) (a1 : Bool) (a2 : Int) (a3 : Int) (r : Bool) (w : World) (hr0_2 : Kd.C (Kd.int .i64) w A0_2 l0_2.length l0_2) (hc0_2 : l0_2.length ≤ c0_2) (hr0_3 : Kd.C (Kd.int .i64) w A0_3 l0_3.length l0_3) (hc0_3 : l0_3.length ≤ c0_3) (h : spec_fiHas.f k a0_0 a0_1 l0_2 l0_3 a1 a2 a3 = some r) :
  Calls Try.prog 78 #[.agg #[.int .i64 a0_0, .int .i64 a0_1, .slice A0_2 l0_2.length c0_2, .slice A0_3 l0_3.length c0_3], .bool a1, .int .i64 a2, .int .i64 a3] w fun e w' => e = .returned (.bool r) ∧ Below w.heap.size w w' := by
 have hu28 := Try.underlying28
 have HR0_2 := Aside0.mk hr0_2
 have HC0_2 := Aside0.mk hc0_2
 clear hr0_2 hc0_2
 have HR0_3 := Aside0.mk hr0_3
 have HC0_3 := Aside0.mk hc0_3
 clear hr0_3 hc0_3
 have HB := Aside0.mk (Below.refl w.heap.size w)
 have H : ((spec_fiEdge.f a0_0 a0_1 l0_2 l0_3 a1 a2 a3).bind fun bt122 => (if a1 = true then ((spec_l1Has.f k l0_3 bt122.1).bind fun t124 => (some t124)) else ((spec_l1Has.f k l0_2 bt122.1).bind fun t125 => (some t125)))) = some r := h
 clear h
 replace H := Option.bind_eq_some_iff.mp H
 obtain ⟨⟨t122, t123⟩, A50, H⟩ := H
 replace H : (if a1 = true then ((spec_l1Has.f k l0_3 t122).bind fun t124 => (some t124)) else ((spec_l1Has.f k l0_2 t122).bind fun t125 => (some t125))) = some r := H
 have A5 := Aside0.mk A50
 clear A50
 by_cases c6 : a1 = true
 ·subst c6
  have H1 : ((spec_l1Has.f k l0_3 t122).bind fun t124 => (some t124)) = some r := by rw [if_pos rfl] at H; exact H
  clear H
  have H := H1
  clear H1
  replace H := Option.bind_eq_some_iff.mp H
  obtain ⟨t124, A70, H⟩ := H
  replace H : (some t124) = some r := H
  have A7 := Aside0.mk A70
  clear A70
  obtain rfl := Option.some.inj H
  go_enter Try.func78, Try.ntmps78
  go_wp2_with (first | ((with_reducible refine gate_dst (N := 4) rfl ?_); refine boxE_ (N := 4) (cs := #[.int .i64 a0_0, .int .i64 a0_1, .slice A0_2 l0_2.length c0_2, .slice A0_3 l0_3.length c0_3]) (t := 28) ?_; intro gb121 hg w8 hbox hb; have n0_ := Aside0.mk (below_step (bl0_ HB.out) hb); have n1_ := Aside0.mk (hbox); have n2_ := Aside0.mk ((bs0_ hg HB.out : w.heap.size ≤ gb121)); have n3_ := Aside0.mk ((bs0_ hg HB.out : w.heap.size ≤ gb121)); clear HB; have HB := n0_; have BK121 := n1_; have GW121 := n2_; have GE121 := n3_; clear n0_ n1_ n2_ n3_; clear hb hbox hg; have hcz9_0 : w8.cell? ⟨gb121, 0, none⟩ = some (.int .i64 a0_0) := (blk_cell BK121.out 0).trans rfl; have hcz9_1 : w8.cell? ⟨gb121, 1, none⟩ = some (.int .i64 a0_1) := (blk_cell BK121.out 1).trans rfl; have hcz9_2 : w8.cell? ⟨gb121, 2, none⟩ = some (.slice A0_2 l0_2.length c0_2) := (blk_cell BK121.out 2).trans rfl; have hcz9_3 : w8.cell? ⟨gb121, 3, none⟩ = some (.slice A0_3 l0_3.length c0_3) := (blk_cell BK121.out 3).trans rfl; have hfz9_0 := blk_frozen BK121.out 0; have hfz9_1 := blk_frozen BK121.out 1; have hfz9_2 := blk_frozen BK121.out 2; have hfz9_3 := blk_frozen BK121.out 3) | ((with_reducible refine gate_callee (f := 125) rfl ?_); refine goesL_ (some 16) rfl rfl Try.func125 (by kernel_rfl) rfl #[.agg #[.int .i64 a0_0, .int .i64 a0_1, .slice A0_2 l0_2.length c0_2, .slice A0_3 l0_3.length c0_3], .bool true, .int .i64 a2, .int .i64 a3] rfl ob_ ?_; (with_reducible refine (spec_fiEdge.calls a0_0 a0_1 _ _ l0_2 _ _ l0_3 true a2 a3 t122 t123 _ ?side1 ?side2 ?side3 ?side4 A5.out).mono ?_); (case side1 => exact kc_ (Kd.C_below HR0_2.out HB.out)); (case side2 => exact HC0_2.out); (case side3 => exact kc_ (Kd.C_below HR0_3.out HB.out)); (case side4 => exact HC0_3.out); rintro e w10 ⟨rfl, hb⟩; refine ⟨_, rfl, ?_⟩; have n0_ := Aside0.mk (bb_ BK121.out hb); have n1_ := Aside0.mk (below_step (bl1_ HB.out GE121.out) hb); clear BK121; clear HB; have BK121 := n0_; have HB := n1_; clear n0_ n1_; (try clear hb); (try clear hb2); (try clear hk); (try clear hi); have hcz11_0 : w10.cell? ⟨gb121, 0, none⟩ = some (.int .i64 a0_0) := (blk_cell BK121.out 0).trans rfl; have hcz11_1 : w10.cell? ⟨gb121, 1, none⟩ = some (.int .i64 a0_1) := (blk_cell BK121.out 1).trans rfl; have hcz11_2 : w10.cell? ⟨gb121, 2, none⟩ = some (.slice A0_2 l0_2.length c0_2) := (blk_cell BK121.out 2).trans rfl; have hcz11_3 : w10.cell? ⟨gb121, 3, none⟩ = some (.slice A0_3 l0_3.length c0_3) := (blk_cell BK121.out 3).trans rfl; have hfz11_0 := blk_frozen BK121.out 0; have hfz11_1 := blk_frozen BK121.out 1; have hfz11_2 := blk_frozen BK121.out 2; have hfz11_3 := blk_frozen BK121.out 3) | ((with_reducible refine gate_callee (f := 126) rfl ?_); refine goesL_ (some 23) rfl rfl Try.func126 (by kernel_rfl) rfl #[.slice A0_3 l0_3.length c0_3, .int .i64 t122] rfl ob_ ?_; (with_reducible refine (spec_l1Has.calls k _ _ l0_3 t122 t124 _ ?side1 ?side2 A7.out).mono ?_); (case side1 => exact kc_ (Kd.C_below HR0_3.out HB.out)); (case side2 => exact HC0_3.out); rintro e w' ⟨rfl, ⟨nd, rfl⟩⟩; refine ⟨_, rfl, ?_⟩))
  go_ret
  exact ⟨er_, bl1_ HB.out GE121.out⟩
 ·replace c6 := Bool.eq_false_iff.mpr c6
  subst c6
  have H1 : ((spec_l1Has.f k l0_2 t122).bind fun t125 => (some t125)) = some r := by rw [if_neg (show ¬ (false = true) by decide)] at H; exact H
  clear H
  have H := H1
  clear H1
  replace H := Option.bind_eq_some_iff.mp H
  obtain ⟨t125, A120, H⟩ := H
  replace H : (some t125) = some r := H
  have A12 := Aside0.mk A120
  clear A120
  obtain rfl := Option.some.inj H
  go_enter Try.func78, Try.ntmps78
  go_wp2_with (first | ((with_reducible refine gate_dst (N := 4) rfl ?_); refine boxE_ (N := 4) (cs := #[.int .i64 a0_0, .int .i64 a0_1, .slice A0_2 l0_2.length c0_2, .slice A0_3 l0_3.length c0_3]) (t := 28) ?_; intro gb121 hg w13 hbox hb; have n0_ := Aside0.mk (below_step (bl0_ HB.out) hb); have n1_ := Aside0.mk (hbox); have n2_ := Aside0.mk ((bs0_ hg HB.out : w.heap.size ≤ gb121)); have n3_ := Aside0.mk ((bs0_ hg HB.out : w.heap.size ≤ gb121)); clear HB; have HB := n0_; have BK121 := n1_; have GW121 := n2_; have GE121 := n3_; clear n0_ n1_ n2_ n3_; clear hb hbox hg; have hcz14_0 : w13.cell? ⟨gb121, 0, none⟩ = some (.int .i64 a0_0) := (blk_cell BK121.out 0).trans rfl; have hcz14_1 : w13.cell? ⟨gb121, 1, none⟩ = some (.int .i64 a0_1) := (blk_cell BK121.out 1).trans rfl; have hcz14_2 : w13.cell? ⟨gb121, 2, none⟩ = some (.slice A0_2 l0_2.length c0_2) := (blk_cell BK121.out 2).trans rfl; have hcz14_3 : w13.cell? ⟨gb121, 3, none⟩ = some (.slice A0_3 l0_3.length c0_3) := (blk_cell BK121.out 3).trans rfl; have hfz14_0 := blk_frozen BK121.out 0; have hfz14_1 := blk_frozen BK121.out 1; have hfz14_2 := blk_frozen BK121.out 2; have hfz14_3 := blk_frozen BK121.out 3) | ((with_reducible refine gate_callee (f := 125) rfl ?_); refine goesL_ (some 16) rfl rfl Try.func125 (by kernel_rfl) rfl #[.agg #[.int .i64 a0_0, .int .i64 a0_1, .slice A0_2 l0_2.length c0_2, .slice A0_3 l0_3.length c0_3], .bool false, .int .i64 a2, .int .i64 a3] rfl ob_ ?_; (with_reducible refine (spec_fiEdge.calls a0_0 a0_1 _ _ l0_2 _ _ l0_3 false a2 a3 t122 t123 _ ?side1 ?side2 ?side3 ?side4 A5.out).mono ?_); (case side1 => exact kc_ (Kd.C_below HR0_2.out HB.out)); (case side2 => exact HC0_2.out); (case side3 => exact kc_ (Kd.C_below HR0_3.out HB.out)); (case side4 => exact HC0_3.out); rintro e w15 ⟨rfl, hb⟩; refine ⟨_, rfl, ?_⟩; have n0_ := Aside0.mk (bb_ BK121.out hb); have n1_ := Aside0.mk (below_step (bl1_ HB.out GE121.out) hb); clear BK121; clear HB; have BK121 := n0_; have HB := n1_; clear n0_ n1_; (try clear hb); (try clear hb2); (try clear hk); (try clear hi); have hcz16_0 : w15.cell? ⟨gb121, 0, none⟩ = some (.int .i64 a0_0) := (blk_cell BK121.out 0).trans rfl; have hcz16_1 : w15.cell? ⟨gb121, 1, none⟩ = some (.int .i64 a0_1) := (blk_cell BK121.out 1).trans rfl; have hcz16_2 : w15.cell? ⟨gb121, 2, none⟩ = some (.slice A0_2 l0_2.length c0_2) := (blk_cell BK121.out 2).trans rfl; have hcz16_3 : w15.cell? ⟨gb121, 3, none⟩ = some (.slice A0_3 l0_3.length c0_3) := (blk_cell BK121.out 3).trans rfl; have hfz16_0 := blk_frozen BK121.out 0; have hfz16_1 := blk_frozen BK121.out 1; have hfz16_2 := blk_frozen BK121.out 2; have hfz16_3 := blk_frozen BK121.out 3) | ((with_reducible refine gate_callee (f := 126) rfl ?_); refine goesL_ (some 27) rfl rfl Try.func126 (by kernel_rfl) rfl #[.slice A0_2 l0_2.length c0_2, .int .i64 t122] rfl ob_ ?_; (with_reducible refine (spec_l1Has.calls k _ _ l0_2 t122 t125 _ ?side1 ?side2 A12.out).mono ?_); (case side1 => exact kc_ (Kd.C_below HR0_2.out HB.out)); (case side2 => exact HC0_2.out); rintro e w' ⟨rfl, ⟨nd, rfl⟩⟩; refine ⟨_, rfl, ?_⟩))
  go_ret
  exact ⟨er_, bl1_ HB.out GE121.out⟩


def impl_grid_level.f (a0_0 : Int) (a0_1 : Int) (a1 : Int) (a2 : Int) : Option (Int) := if 0 ≤ (wrap64 ((wrap64 (a2 * a0_0)) + a1)) then (some (shl .u64 1 (wrap64 ((wrap64 (a2 * a0_0)) + a1)))) else (none)
set_option maxHeartbeats 8000000 in
set_option maxRecDepth 100000 in
theorem impl_grid_level.calls (a0_0 : Int) (a0_1 : Int) (a1 : Int) (a2 : Int) (r : Int) (w : World) (h : impl_grid_level.f a0_0 a0_1 a1 a2 = some r) :
    Calls Try.prog 87 #[.agg #[.int .i64 a0_0, .int .i64 a0_1], .int .i64 a1, .int .i64 a2] w fun e w' => e = .returned (.int .u64 r) ∧ Below w.heap.size w w' := by
  have hu67 := Try.underlying67
  have HB := Aside0.mk (Below.refl w.heap.size w)
  have H : (if 0 ≤ (wrap64 ((wrap64 (a2 * a0_0)) + a1)) then (some (shl .u64 1 (wrap64 ((wrap64 (a2 * a0_0)) + a1)))) else (none)) = some r := h
  clear h
  obtain ⟨ji4, hji4⟩ : ∃ j_ : Int, (wrap64 ((wrap64 (a2 * a0_0)) + a1)) = j_ := ⟨_, rfl⟩
  replace H : (if 0 ≤ (ji4) then (some (shl .u64 1 (ji4))) else (none)) = some r := by first | (rw [hji4] at H; exact H) | (simp only [hji4] at H ⊢; exact H)
  have hji4w : (IntKind.i64.wrap ((wrap64 (a2 * a0_0)) + a1)) = ji4 := (i64_w _).trans hji4
  by_cases c5 : 0 ≤ (ji4)
  · rw [if_pos c5] at H
    have c5b0 := eq_true c5
    have c5b1 : decide (0 ≤ (ji4)) = true := decide_eq_true c5
    clear c5
    obtain ⟨ji6, hji6⟩ : ∃ j_ : Int, (shl .u64 1 (ji4)) = j_ := ⟨_, rfl⟩
    replace H : (some ji6) = some r := by first | (rw [hji6] at H; exact H) | (simp only [hji6] at H ⊢; exact H)
    have hji6_ : (IntKind.u64.wrap (1 * 2 ^ min (ji4).toNat 64)) = ji6 := hji6
    have hji6z : (ji4) ≤ 64 → (IntKind.u64.wrap (1 * 2 ^ (ji4).toNat)) = ji6 := shl_small hji6
    have hji6u : (IntKind.u64.wrap (2 ^ min (ji4).toNat 64)) = ji6 := by have h_ := hji6_; rw [Int.one_mul] at h_; exact h_
    have hji6v : (ji4) ≤ 64 → (IntKind.u64.wrap (2 ^ (ji4).toNat)) = ji6 := fun hle_ => by have h_ := hji6z hle_; rw [Int.one_mul] at h_; exact h_
    obtain rfl := Option.some.inj H
    go_enter Try.func87, Try.ntmps87
    go_wp2_with (first | ((with_reducible refine gate_dst (N := 3) rfl ?_); refine boxE_ (N := 3) (cs := #[.int .i64 a0_0, .int .i64 a0_1]) (t := 67) ?_; intro gb177 hg w7 hbox hb; have n0_ := Aside0.mk (below_step (bl0_ HB.out) hb); have n1_ := Aside0.mk (hbox); have n2_ := Aside0.mk ((bs0_ hg HB.out : w.heap.size ≤ gb177)); have n3_ := Aside0.mk ((bs0_ hg HB.out : w.heap.size ≤ gb177)); clear HB; have HB := n0_; have BK177 := n1_; have GW177 := n2_; have GE177 := n3_; clear n0_ n1_ n2_ n3_; clear hb hbox hg; have hcz8_0 : w7.cell? ⟨gb177, 0, none⟩ = some (.int .i64 a0_0) := (blk_cell BK177.out 0).trans rfl; have hcz8_1 : w7.cell? ⟨gb177, 1, none⟩ = some (.int .i64 a0_1) := (blk_cell BK177.out 1).trans rfl; have hfz8_0 := blk_frozen BK177.out 0; have hfz8_1 := blk_frozen BK177.out 1))
    go_ret
    exact ⟨by first | rfl | (simp [errW_none, errW_some] <;> rfl) | (simp only [← hji4, ← hji6]; first | rfl | (simp [errW_none, errW_some] <;> rfl)) | (simp [*, errW_none, errW_some] <;> rfl), bl1_ HB.out GE177.out⟩
  · rw [if_neg c5] at H
    exact absurd H (by simp)


def impl_grid_upright.f (a0_0 : Int) (a0_1 : Int) (a1 : Int) (a2 : Int) : Option (Int) := (impl_grid_levels.f a0_0 a0_1).bind fun t179 => (if 0 ≤ (wrap64 ((wrap64 (t179 + (wrap64 (a2 * (wrap64 (a0_0 + 1)))))) + a1)) then (some (shl .u64 1 (wrap64 ((wrap64 (t179 + (wrap64 (a2 * (wrap64 (a0_0 + 1)))))) + a1)))) else (none))
def impl_grid_upright.T1 : Bool × List (List Nat × List Nat) := (true, [([], []), ([0], [0]), ([], []), ([], []), ([3], [3]), ([4], [4]), ([2, 5], [2, 5]), ([1, 6], [1, 6]), ([], []), ([7, 8], [7, 8]), ([9], [9]), ([10, 1, 0, 1, 2, 3, 4, 5, 6, 7, 8, 9, 10], [10])])
def impl_grid_upright.B1 : List Nat := [0, 1, 0, 0, 8, 24, 60, 127, 0, 511, 1023, 2047]
theorem impl_grid_upright.tab1 : rtab .any (opsOf Try.f89 1) = impl_grid_upright.T1 := by kernel_rfl
theorem impl_grid_upright.bits1 : waitsOk impl_grid_upright.T1.2 impl_grid_upright.B1 = true := by kernel_rfl
set_option maxHeartbeats 8000000 in
set_option maxRecDepth 100000 in
theorem impl_grid_upright.calls (a0_0 : Int) (a0_1 : Int) (a1 : Int) (a2 : Int) (r : Int) (w : World) (h : impl_grid_upright.f a0_0 a0_1 a1 a2 = some r) :
  Calls Try.prog 89 #[.agg #[.int .i64 a0_0, .int .i64 a0_1], .int .i64 a1, .int .i64 a2] w fun e w' => e = .returned (.int .u64 r) ∧ Below w.heap.size w w' := by
 have hu67 := Try.underlying67
 have HB := Aside0.mk (Below.refl w.heap.size w)
 have H : ((impl_grid_levels.f a0_0 a0_1).bind fun t179 => (if 0 ≤ (wrap64 ((wrap64 (t179 + (wrap64 (a2 * (wrap64 (a0_0 + 1)))))) + a1)) then (some (shl .u64 1 (wrap64 ((wrap64 (t179 + (wrap64 (a2 * (wrap64 (a0_0 + 1)))))) + a1)))) else (none))) = some r := h
 clear h
 replace H := Option.bind_eq_some_iff.mp H
 obtain ⟨t179, A40, H⟩ := H
 replace H : (if 0 ≤ (wrap64 ((wrap64 (t179 + (wrap64 (a2 * (wrap64 (a0_0 + 1)))))) + a1)) then (some (shl .u64 1 (wrap64 ((wrap64 (t179 + (wrap64 (a2 * (wrap64 (a0_0 + 1)))))) + a1)))) else (none)) = some r := H
 have A4 := Aside0.mk A40
 clear A40
 obtain ⟨ji5, hji5⟩ : ∃ j_ : Int, (wrap64 ((wrap64 (t179 + (wrap64 (a2 * (wrap64 (a0_0 + 1)))))) + a1)) = j_ := ⟨_, rfl⟩
 replace H : (if 0 ≤ (ji5) then (some (shl .u64 1 (ji5))) else (none)) = some r := by first | (rw [hji5] at H; exact H) | (simp only [hji5] at H ⊢; exact H)
 (try rw [hji5] at A4)
 have hji5w : (IntKind.i64.wrap ((wrap64 (t179 + (wrap64 (a2 * (wrap64 (a0_0 + 1)))))) + a1)) = ji5 := (i64_w _).trans hji5
 by_cases c6 : 0 ≤ (ji5)
 ·rw [if_pos c6] at H
  have c6b0 := eq_true c6
  have c6b1 : decide (0 ≤ (ji5)) = true := decide_eq_true c6
  clear c6
  obtain ⟨ji7, hji7⟩ : ∃ j_ : Int, (shl .u64 1 (ji5)) = j_ := ⟨_, rfl⟩
  replace H : (some ji7) = some r := by first | (rw [hji7] at H; exact H) | (simp only [hji7] at H ⊢; exact H)
  (try rw [hji7] at A4)
  have hji7_ : (IntKind.u64.wrap (1 * 2 ^ min (ji5).toNat 64)) = ji7 := hji7
  have hji7z : (ji5) ≤ 64 → (IntKind.u64.wrap (1 * 2 ^ (ji5).toNat)) = ji7 := shl_small hji7
  have hji7u : (IntKind.u64.wrap (2 ^ min (ji5).toNat 64)) = ji7 := by have h_ := hji7_; rw [Int.one_mul] at h_; exact h_
  have hji7v : (ji5) ≤ 64 → (IntKind.u64.wrap (2 ^ (ji5).toNat)) = ji7 := fun hle_ => by have h_ := hji7z hle_; rw [Int.one_mul] at h_; exact h_
  obtain rfl := Option.some.inj H
  go_enter Try.func89, Try.ntmps89
  try go_wp2_with (first | ((with_reducible refine gate_dst (N := 3) rfl ?_); refine boxE_ (N := 3) (cs := #[.int .i64 a0_0, .int .i64 a0_1]) (t := 67) ?_; intro gb178 hg w8 hbox hb; have n0_ := Aside0.mk (below_step (bl0_ HB.out) hb); have n1_ := Aside0.mk (hbox); have n2_ := Aside0.mk ((bs0_ hg HB.out : w.heap.size ≤ gb178)); have n3_ := Aside0.mk ((bs0_ hg HB.out : w.heap.size ≤ gb178)); clear HB; have HB := n0_; have BK178 := n1_; have GW178 := n2_; have GE178 := n3_; clear n0_ n1_ n2_ n3_; clear hb hbox hg))
  have n0_ := Aside0.mk (blk_drew BK178.out)
  have n1_ := Aside0.mk (below_drew1 HB.out)
  clear BK178
  clear HB
  have BK178 := n0_
  have HB := n1_
  clear n0_ n1_
  refine start_ (n := 12) (S := fun w' => w'.cell? ⟨gb178, 0, none⟩ = some (.int .i64 a0_0) ∧ w'.cell? ⟨gb178, 1, none⟩ = some (.int .i64 a0_1)) (ds := []) #[false, false, false, false, false, false, false, false, false, false, false, false] (by kernel_rfl) rfl rfl ⟨(blk_cell BK178.out 0).trans rfl, (blk_cell BK178.out 1).trans rfl⟩ (fun hHeld => ?_); refine with_tabW impl_grid_upright.tab1 impl_grid_upright.bits1 (fun HT_ HW_ => ?_)
  generalize w8.drew = w9 at BK178 HB hHeld ⊢
  refine pure_ (i := 2) (N := some 9) (v := ?_) (a' := ?_) #[false, false, true, false, false, false, false, false, false, false, false, false] rfl rfl (any_of HT_.out (by kernel_rfl)) (fun _ _ _ h => h) (Or.inl ⟨by rfl, ?_⟩) ?_ ?_
  rotate_left
  ·intro w'
   go_simp
   with_reducible rfl
  rotate_left
  ·simp only [Act.put, List.setIfInBounds_toArray, List.set_cons_zero, List.set_cons_succ, i64_w, i32_w]
   rfl
  refine pure_ (i := 3) (N := some 10) (v := ?_) (a' := ?_) #[false, false, true, true, false, false, false, false, false, false, false, false] rfl rfl (any_of HT_.out (by kernel_rfl)) (fun _ _ _ h => h) (Or.inl ⟨by rfl, ?_⟩) ?_ ?_
  rotate_left
  ·intro w'
   go_simp
   with_reducible rfl
  rotate_left
  ·simp only [Act.put, List.setIfInBounds_toArray, List.set_cons_zero, List.set_cons_succ, i64_w, i32_w]
   rfl
  refine pure_ (i := 8) (N := some 15) (v := ?_) (a' := ?_) #[false, false, true, true, false, false, false, false, true, false, false, false] rfl rfl (any_of HT_.out (by kernel_rfl)) (fun _ _ _ h => h) (Or.inl ⟨by rfl, ?_⟩) ?_ ?_
  rotate_left
  ·intro w'
   go_simp
   with_reducible rfl
  rotate_left
  ·simp only [Act.put, List.setIfInBounds_toArray, List.set_cons_zero, List.set_cons_succ, i64_w, i32_w]
   rfl
  refine take_ (i := 0) (N := some 7) (v := ?_) (a' := ?_) #[true, false, true, true, false, false, false, false, true, false, false, false] rfl rfl (take_ofW HT_.out HW_.out (by kernel_rfl)) (fun _ _ _ h => h) (Or.inl ⟨by rfl, ?_⟩) hHeld ?_ ?_
  rotate_left
  ·rintro w' ⟨s0, s1⟩
   go_simp
   with_reducible rfl
  rotate_left
  ·simp only [Act.put, List.setIfInBounds_toArray, List.set_cons_zero, List.set_cons_succ, i64_w, i32_w]
   rfl
  refine take_ (i := 4) (N := some 11) (v := ?_) (a' := ?_) #[true, false, true, true, true, false, false, false, true, false, false, false] rfl rfl (take_ofW HT_.out HW_.out (by kernel_rfl)) (fun _ _ _ h => h) (Or.inl ⟨by rfl, ?_⟩) hHeld ?_ ?_
  rotate_left
  ·rintro w' ⟨s0, s1⟩
   go_simp
   with_reducible rfl
  rotate_left
  ·simp only [Act.put, List.setIfInBounds_toArray, List.set_cons_zero, List.set_cons_succ, i64_w, i32_w]
   rfl
  refine pure_ (i := 5) (N := some 12) (v := ?_) (a' := ?_) #[true, false, true, true, true, true, false, false, true, false, false, false] rfl rfl (any_of HT_.out (by kernel_rfl)) (fun _ _ _ h => h) (Or.inl ⟨by rfl, ?_⟩) ?_ ?_
  rotate_left
  ·intro w'
   go_simp
   with_reducible rfl
  rotate_left
  ·simp only [Act.put, List.setIfInBounds_toArray, List.set_cons_zero, List.set_cons_succ, i64_w, i32_w]
   rfl
  refine pure_ (i := 6) (N := some 13) (v := ?_) (a' := ?_) #[true, false, true, true, true, true, true, false, true, false, false, false] rfl rfl (any_of HT_.out (by kernel_rfl)) (fun _ _ _ h => h) (Or.inl ⟨by rfl, ?_⟩) ?_ ?_
  rotate_left
  ·intro w'
   go_simp
   with_reducible rfl
  rotate_left
  ·simp only [Act.put, List.setIfInBounds_toArray, List.set_cons_zero, List.set_cons_succ, i64_w, i32_w]
   rfl
  refine one_ (i := 1) (N := some 8) #[true, true, true, true, true, true, true, false, true, false, false, false] rfl rfl (one_of HT_.out (by kernel_rfl)) (by decide) (fun K hK => ?_)
  refine goes_ Try.func83 (by kernel_rfl) rfl #[.agg #[.int .i64 a0_0, .int .i64 a0_1]] (by rfl) rfl rfl ob_ ?_
  with_reducible refine (impl_grid_levels.calls a0_0 a0_1 t179 _ A4.out).mono ?_
  rintro e w10 ⟨rfl, hb⟩
  refine ⟨_, rfl, ?_⟩
  have n0_ := Aside0.mk (bb_ BK178.out hb)
  have n1_ := Aside0.mk (below_step (bl1_ HB.out GE178.out) hb)
  clear BK178
  clear HB
  have BK178 := n0_
  have HB := n1_
  clear n0_ n1_
  (try clear hb)
  (try clear hb2)
  (try clear hk)
  (try clear hi)
  refine hK.out _ _ ⟨(blk_cell BK178.out 0).trans rfl, (blk_cell BK178.out 1).trans rfl⟩ (fun hHeld => ?_)
  clear hK K
  refine norm_ (a' := ?_) ?_ ?_
  rotate_left
  ·show Act.put _ (some 8) _ = _
   simp only [Act.put, List.setIfInBounds_toArray, List.set_cons_zero, List.set_cons_succ, i64_w, i32_w]
   rfl
  refine pure_ (i := 7) (N := some 14) (v := ?_) (a' := ?_) #[true, true, true, true, true, true, true, true, true, false, false, false] rfl rfl (any_of HT_.out (by kernel_rfl)) (fun _ _ _ h => h) (Or.inl ⟨by rfl, ?_⟩) ?_ ?_
  rotate_left
  ·intro w'
   go_simp
   with_reducible rfl
  rotate_left
  ·simp only [Act.put, List.setIfInBounds_toArray, List.set_cons_zero, List.set_cons_succ, i64_w, i32_w]
   rfl
  refine pure_ (i := 9) (N := some 16) (v := ?_) (a' := ?_) #[true, true, true, true, true, true, true, true, true, true, false, false] rfl rfl (any_of HT_.out (by kernel_rfl)) (fun _ _ _ h => h) (Or.inl ⟨by rfl, ?_⟩) ?_ ?_
  rotate_left
  ·intro w'
   go_simp
   with_reducible rfl
  rotate_left
  ·simp only [Act.put, List.setIfInBounds_toArray, List.set_cons_zero, List.set_cons_succ, i64_w, i32_w]
   rfl
  refine pure_ (i := 10) (N := some 17) (v := ?_) (a' := ?_) #[true, true, true, true, true, true, true, true, true, true, true, false] rfl rfl (any_of HT_.out (by kernel_rfl)) (fun _ _ _ h => h) (Or.inl ⟨by rfl, ?_⟩) ?_ ?_
  rotate_left
  ·intro w'
   go_simp
   with_reducible rfl
  rotate_left
  ·simp only [Act.put, List.setIfInBounds_toArray, List.set_cons_zero, List.set_cons_succ, i64_w, i32_w]
   rfl
  refine pure_ (i := 11) (N := some 6) (v := ?_) (a' := ?_) #[true, true, true, true, true, true, true, true, true, true, true, true] rfl rfl (any_of HT_.out (by kernel_rfl)) (fun _ _ _ h => h) (Or.inl ⟨by rfl, ?_⟩) ?_ ?_
  rotate_left
  ·intro w'
   go_simp
   with_reducible rfl
  rotate_left
  ·simp only [Act.put, List.setIfInBounds_toArray, List.set_cons_zero, List.set_cons_succ, i64_w, i32_w]
   rfl
  refine done_ (done_of HT_.out (by kernel_rfl)) ?_
  try go_wp2
  go_ret
  exact ⟨by first | rfl | (simp [errW_none, errW_some] <;> rfl) | (simp only [← hji5, ← hji7]; first | rfl | (simp [errW_none, errW_some] <;> rfl)) | (simp [*, errW_none, errW_some] <;> rfl), bl1_ HB.out GE178.out⟩
 ·rw [if_neg c6] at H
  exact absurd H (by simp)


structure GridOK (w h : Int) : Prop where
  w1 : 1 ≤ w
  w4 : w ≤ 4
  h1 : 1 ≤ h
  h4 : h ≤ 4
theorem gridOK_of {w h : Int} {a u : List Int} (hf : figB w h a u = true) : GridOK w h := by
  unfold figB at hf
  simp only [Bool.and_eq_true] at hf
  obtain ⟨b1, b2, b3, b4⟩ := grid_bounds (by simp only [Bool.and_eq_true]; exact hf.1)
  exact ⟨b1, b2, b3, b4⟩
theorem prod_b {w y : Int} (h1 : 1 ≤ w) (h4 : w ≤ 5) (hy : 0 ≤ y) (hy4 : y ≤ 4) : 0 ≤ y * w ∧ y * w ≤ 20 := by
  have : y = 0 ∨ y = 1 ∨ y = 2 ∨ y = 3 ∨ y = 4 := by omega
  rcases this with rfl | rfl | rfl | rfl | rfl <;> omega
theorem level_f {w h x y : Int} (g : GridOK w h) (hx : 0 ≤ x) (hx4 : x ≤ 4) (hy : 0 ≤ y) (hy4 : y ≤ 4) : impl_grid_level.f w h x y = some ((2 ^ (y * w + x).toNat : Nat) : Int) := by
  obtain ⟨p1, p2⟩ := prod_b g.w1 (by have := g.w4; omega) hy hy4
  have e1 : wrap64 (y * w) = y * w := by unfold wrap64; omega
  have e2 : wrap64 (y * w + x) = (((y * w + x).toNat : Nat) : Int) := by unfold wrap64; omega
  unfold impl_grid_level.f
  rw [e1, e2, if_pos (Int.natCast_nonneg _), shl_u64 _ (by omega)]
theorem upright_f {w h x y : Int} (g : GridOK w h) (hx : 0 ≤ x) (hx4 : x ≤ 4) (hy : 0 ≤ y) (hy4 : y ≤ 4) : impl_grid_upright.f w h x y = some ((2 ^ ((w * (h + 1)).toNat + (y * (w + 1) + x).toNat) : Nat) : Int) := by
  obtain ⟨p1, p2⟩ := prod_b (w := w + 1) (by have := g.w1; omega) (by have := g.w4; omega) hy hy4
  obtain ⟨c1, c2, -, -⟩ := area_bounds g.w1 g.w4 g.h1 g.h4
  have w1 := g.w1
  have w4 := g.w4
  have h1 := g.h1
  have h4 := g.h4
  have e0 : wrap64 (h + 1) = h + 1 := by unfold wrap64; omega
  have e1 : wrap64 (w + 1) = w + 1 := by unfold wrap64; omega
  have e2 : wrap64 (w * (h + 1)) = w * (h + 1) := by unfold wrap64; omega
  have e3 : wrap64 (y * (w + 1)) = y * (w + 1) := by unfold wrap64; omega
  have e4 : wrap64 (w * (h + 1) + y * (w + 1)) = w * (h + 1) + y * (w + 1) := by unfold wrap64; omega
  have e5 : wrap64 (w * (h + 1) + y * (w + 1) + x) = (((w * (h + 1)).toNat + (y * (w + 1) + x).toNat : Nat) : Int) := by unfold wrap64; omega
  unfold impl_grid_upright.f impl_grid_levels.f
  rw [Option.bind_some, e0, e1, e2, e3, e4, e5, if_pos (Int.natCast_nonneg _), shl_u64 _ (by omega)]
theorem l1Has_l0 (l : List Int) (n : Int) (hL : l.length ≤ 4000000) : ∀ (d k i : Nat), l.length - i = d → i ≤ l.length → d < k → spec_l1Has.l0 k n l (l.length : Int) (i : Int) = some (decide (n ∈ l.drop i)) := by
  intro d
  induction d with
  | zero =>
    intro k i h1 h3 h4
    obtain ⟨k, rfl⟩ : ∃ m, k = m + 1 := ⟨k - 1, by omega⟩
    simp only [spec_l1Has.l0]
    rw [if_neg (by omega), List.drop_of_length_le (by omega)]
    rfl
  | succ d ih =>
    intro k i h1 h3 h4
    obtain ⟨k, rfl⟩ : ∃ m, k = m + 1 := ⟨k - 1, by omega⟩
    have e2 : wrap64 ((i : Int) + 1) = ((i + 1 : Nat) : Int) := by unfold wrap64; omega
    simp only [spec_l1Has.l0]
    rw [if_pos (by omega), if_pos (by omega), if_pos (by omega), rd_nat l i (by omega), e2, ih k (i + 1) (by omega) (by omega) (by omega), List.drop_eq_getElem_cons (show i < l.length by omega)]
    by_cases hn : l[i] = n
    · rw [if_pos hn, decide_eq_true (show n ∈ l[i] :: l.drop (i + 1) by rw [hn]; exact List.mem_cons_self)]
    · rw [if_neg hn]
      congr 1
      rw [decide_eq_decide, List.mem_cons]
      constructor
      · exact Or.inr
      · rintro (h | h)
        · exact absurd h.symm hn
        · exact h
theorem l1Has_f (l : List Int) (n : Int) (hL : l.length ≤ 4000000) (k : Nat) (hk : l.length < k) : spec_l1Has.f k l n = some (decide (n ∈ l)) := by
  unfold spec_l1Has.f
  exact l1Has_l0 l n hL l.length k 0 (by omega) (by omega) hk
theorem fiHas_level {w h : Int} {a u : List Int} (g : GridOK w h) (hf : figB w h a u = true) (ha : a.length ≤ 1000000) (k : Nat) (hk : 1000000 < k) (x y : Int) (hx0 : 0 ≤ x) (hx1 : x < w) (hy0 : 0 ≤ y) (hy1 : y ≤ h) :
    spec_fiHas.f k w h a u false x y = some ((figMask w h a u).testBit (y * w + x).toNat) := by
  have w1 := g.w1
  have w4 := g.w4
  have h1 := g.h1
  have h4 := g.h4
  obtain ⟨p1, p2⟩ := prod_b (w := w) (y := y) w1 (by omega) hy0 (by omega)
  have e0 : wrap64 (w - 1) = w - 1 := by unfold wrap64; omega
  have e1 : wrap64 (y * w) = y * w := by unfold wrap64; omega
  have e2 : wrap64 (y * w + x) = y * w + x := by unfold wrap64; omega
  have hlt : ((y * w + x).toNat : Int) < w * (h + 1) := by
    have c1 : y = 0 ∨ y = 1 ∨ y = 2 ∨ y = 3 ∨ y = 4 := by omega
    have c2 : h = 1 ∨ h = 2 ∨ h = 3 ∨ h = 4 := by omega
    clear e0 e1 e2 hf
    rcases c2 with rfl | rfl | rfl | rfl <;> rcases c1 with rfl | rfl | rfl | rfl | rfl <;> omega
  have ht : ((y * w + x).toNat : Int) = y * w + x := by omega
  unfold spec_fiHas.f spec_fiEdge.f
  rw [if_neg (by decide), l1In_f, Option.bind_some, e0, decide_eq_true hx0, decide_eq_true (show x ≤ w - 1 by omega), if_pos (show (true && true) = true from rfl), l1In_f, Option.bind_some, decide_eq_true hy0, decide_eq_true hy1, Option.bind_some, if_neg (show ¬ false = true by decide), e1, e2, l1Has_f a _ (by omega) k (by omega), Option.bind_some, figMask_level hf _ hlt, ht]
theorem fiHas_upright {w h : Int} {a u : List Int} (g : GridOK w h) (hf : figB w h a u = true) (hu : u.length ≤ 1000000) (k : Nat) (hk : 1000000 < k) (x y : Int) (hx0 : 0 ≤ x) (hx1 : x ≤ w) (hy0 : 0 ≤ y) (hy1 : y < h) :
    spec_fiHas.f k w h a u true x y = some ((figMask w h a u).testBit ((w * (h + 1)).toNat + (y * (w + 1) + x).toNat)) := by
  have w1 := g.w1
  have w4 := g.w4
  have h1 := g.h1
  have h4 := g.h4
  obtain ⟨p1, p2⟩ := prod_b (w := w + 1) (y := y) (by omega) (by omega) hy0 (by omega)
  have e0 : wrap64 (h - 1) = h - 1 := by unfold wrap64; omega
  have e3 : wrap64 (w + 1) = w + 1 := by unfold wrap64; omega
  have e1 : wrap64 (y * (w + 1)) = y * (w + 1) := by unfold wrap64; omega
  have e2 : wrap64 (y * (w + 1) + x) = y * (w + 1) + x := by unfold wrap64; omega
  have ht : ((y * (w + 1) + x).toNat : Int) = y * (w + 1) + x := by omega
  unfold spec_fiHas.f spec_fiEdge.f
  rw [if_pos rfl, l1In_f, Option.bind_some, e0, e3, decide_eq_true hx0, decide_eq_true hx1, if_pos (show (true && true) = true from rfl), l1In_f, Option.bind_some, Option.bind_some, if_pos rfl, e1, e2, l1Has_f u _ (by omega) k (by omega), Option.bind_some, figMask_upright hf, ht]
theorem and_two (e m : Nat) : 2 ^ e &&& m = if m.testBit e = true then 2 ^ e else 0 := by
  apply Nat.eq_of_testBit_eq
  intro i
  rw [Nat.testBit_and, Nat.testBit_two_pow]
  by_cases h : m.testBit e = true
  · rw [if_pos h, Nat.testBit_two_pow]
    by_cases hi : e = i
    · subst hi; simp [h]
    · simp [hi]
  · rw [if_neg h, Nat.zero_testBit]
    by_cases hi : e = i
    · subst hi; simpa using h
    · simp [hi]


theorem R_lit0 {α : Type} (d : Kd α) (e : Nat) (W : World) (base : Nat) (hb : base ≤ W.heap.size) : d.R e (W.alloc (.cells #[] e)) base (fun k => k = W.heap.size) (.slice (some ⟨W.heap.size, 0, none⟩) 0 0) ([] : List α) := by
  refine ⟨fun k hk => by simpa [Value.ownBlock] using hk.symm, [], ?_, Reps.none _ _⟩
  have h := World.ownsRow_lit (base := base) (e := e) (size := d.sz) W #[] 0 hb (by simp [maxLen]) (by simp)
  simpa using h
theorem lit1_C {α : Type} (enc : α → Value) (h1 : ∀ x, (enc x).oneCell' = true) (e : Nat) (W : World) (x : α) : (Kd.scalar enc h1).C (W.alloc (.cells #[enc x] e)) (some ⟨W.heap.size, 0, none⟩) 1 [x] := by
  refine Kd.C_of_reads (enc := enc) (d := x) (h1 := h1) ⟨rfl, by omega, fun _ => ⟨_, rfl, fun j hj => ?_⟩⟩
  obtain rfl : j = 0 := by omega
  exact World.cell?_alloc_at _ _ _ _ rfl

def joinB (xs : List ByteArray) (sep : ByteArray) : ByteArray := ⟨(Lib.join (xs.map (·.data.toList)) sep.data.toList).toArray⟩
theorem Join_any (xs : List ByteArray) (sep : ByteArray) (hn : xs.length ≤ 1000) (hl : (Lib.join (xs.map (·.data.toList)) sep.data.toList).length ≤ 140737488355328) (W : World) (base : Nat) (ok : Nat → Prop) (A : Option Addr) (c : Nat) (hR : Kd.R Kd.string 9 W base ok (.slice A xs.length c) xs) :
    Calls Try.prog 90 #[.slice A xs.length c, .string sep] W fun e w' => e = .returned (.string (joinB xs sep)) ∧ Below W.heap.size W w' := by
  rcases Nat.eq_zero_or_pos xs.length with h0 | h0
  · have hx : xs = [] := List.eq_nil_of_length_eq_zero h0
    subst hx
    refine (Try.strings_Join_none A c sep W).mono ?_
    rintro e w' ⟨rfl, rfl⟩
    exact ⟨rfl, Below.refl _ _⟩
  · obtain ⟨g, c', e, gb, gl, cl, HG⟩ := Kd.R_form hR h0
    injection e with e1 e2 e3
    subst e1
    have hr := (Kd.R_reads' hR).2.2
    exact Try.strings_Join g 0 c xs sep W (fun j x hj => by
      obtain ⟨hjl, hjx⟩ := List.getElem?_eq_some_iff.1 hj
      obtain ⟨ad, ea, hx⟩ := Kd.at_string hr (j : Int) (by omega) (by omega)
      cases ea
      rw [Int.toNat_natCast] at hx
      have hq : rdOf ByteArray.empty xs (j : Int) = x := by unfold rdOf; rw [Int.toNat_natCast, List.getD_eq_getElem?_getD, hj]; rfl
      rw [hq] at hx
      rw [Nat.zero_add]
      first | exact hx | simpa [add_plain] using hx) gl (by omega) (Kd.R_reads' hR).2.1 hl


theorem figE_level (gw gh x y r : Int) (g3 g7 : Nat) (W : World) (h1 : W.cell? ⟨g3, 0, none⟩ = some (.int .i64 gw)) (h2 : W.cell? ⟨g3, 1, none⟩ = some (.int .i64 gh)) (h3 : W.cell? ⟨g7, 0, none⟩ = some (.int .i64 y)) (hr : impl_grid_level.f gw gh x y = some r) :
    Calls Try.prog 86 #[.int .i64 x, .pointer (some ⟨g3, 0, none⟩), .pointer (some ⟨g7, 0, none⟩)] W fun e w' => e = .returned (.int .u64 r) ∧ Below W.heap.size W w' := by
  have HR := Aside0.mk hr
  clear hr
  go_enter Try.func86, Try.ntmps86
  go_wp2_with (go_at_call 87; refine (impl_grid_level.calls _ _ _ _ _ _ HR.out).mono ?_; rintro e w1 ⟨rfl, hb1⟩)
  go_ret
  exact ⟨rfl, hb1⟩
theorem figE_upright (gw gh x y r : Int) (g3 g7 : Nat) (W : World) (h1 : W.cell? ⟨g3, 0, none⟩ = some (.int .i64 gw)) (h2 : W.cell? ⟨g3, 1, none⟩ = some (.int .i64 gh)) (h3 : W.cell? ⟨g7, 0, none⟩ = some (.int .i64 y)) (hr : impl_grid_upright.f gw gh x y = some r) :
    Calls Try.prog 88 #[.int .i64 x, .pointer (some ⟨g3, 0, none⟩), .pointer (some ⟨g7, 0, none⟩)] W fun e w' => e = .returned (.int .u64 r) ∧ Below W.heap.size W w' := by
  have HR := Aside0.mk hr
  clear hr
  go_enter Try.func88, Try.ntmps88
  go_wp2_with (go_at_call 89; refine (impl_grid_upright.calls _ _ _ _ _ _ HR.out).mono ?_; rintro e w1 ⟨rfl, hb1⟩)
  go_ret
  exact ⟨rfl, hb1⟩
def FInv (Bo base : Nat) (acc : List ByteArray) (O : Nat → Prop) (W : World) : Prop :=
  ∃ v, W.cell? ⟨Bo, 0, none⟩ = some v ∧ W.frozen? ⟨Bo, 0, none⟩ = false ∧ Kd.R Kd.string 9 W base (fun k => k ≠ Bo) v acc ∧ ∀ k, O k ↔ k = Bo ∨ some k = v.ownBlock
theorem lit1F (W : World) (s : ByteArray) : Kd.C Kd.string (W.alloc (.cells #[.string s] 9)) (some ⟨W.heap.size, 0, none⟩) 1 [s] := by
  refine Kd.C_of_reads (enc := Value.string) (d := ByteArray.empty) (h1 := fun _ => rfl) ⟨rfl, by omega, fun _ => ⟨_, rfl, fun j hj => ?_⟩⟩
  obtain rfl : j = 0 := by omega
  exact World.cell?_alloc_at _ _ _ _ rfl
def rowF (sign : Int) (bt : Nat → Bool) (n : Nat) : List Int := (List.range n).map fun x => if bt x = true then sign else 46
theorem rowF_len (sign : Int) (bt : Nat → Bool) (n : Nat) : (rowF sign bt n).length = n := by unfold rowF; rw [List.length_map, List.length_range]
theorem rowF_yes (sign : Int) (bt : Nat → Bool) (n : Nat) (h : bt n = true) : rowF sign bt n ++ [sign] = rowF sign bt (n + 1) := by unfold rowF; rw [List.range_succ, List.map_append, List.map_cons, List.map_nil, if_pos h]
theorem rowF_no (sign : Int) (bt : Nat → Bool) (n : Nat) (h : bt n = false) : rowF sign bt n ++ [46] = rowF sign bt (n + 1) := by unfold rowF; rw [List.range_succ, List.map_append, List.map_cons, List.map_nil, if_neg (by rw [h]; decide)]
set_option maxRecDepth 100000 in
set_option maxHeartbeats 8000000 in
theorem figRow_any (Bo Bs base : Nat) (hbo : base ≤ Bo) (S sign : Int) (n : Nat) (hn : n ≤ 5) (bt : Nat → Bool) (ge : Nat) (cap : Array Value) (E : Nat → Int) (hE : ∀ x, x < n → (Go.bits .and .u64 S (E x) != 0) = bt x)
    (eg : ∀ args w, (callFunc ge args).run Try.prog w = .ok (.enter ge args) w) (acc : List ByteArray) (O : Nat → Prop) (w : World) (hlen : acc.length < 1000) (hI : FInv Bo base acc O w) (hS : w.cell? ⟨Bs, 0, none⟩ = some (.int .u64 S))
    (hC : ∀ W, Below w.heap.size w W → ∀ x : Nat, x < n → Calls Try.prog ge (#[.int .i64 (x : Int)] ++ cap) W fun e w' => e = .returned (.int .u64 (E x)) ∧ Below W.heap.size W w') :
    Calls Try.prog 85 #[.int .i64 (n : Int), .int .u8 sign, .func (.func ge) #[] cap, .pointer (some ⟨Bs, 0, none⟩), .pointer (some ⟨Bo, 0, none⟩)] w fun e w' => e = .returned (.tuple #[]) ∧ ∃ O', FInv Bo base (acc ++ [strOfNums (rowF sign bt n)]) O' w' ∧ FrameBut O w w' ∧ ∀ k, O' k → O k ∨ w.heap.size ≤ k := by
  obtain ⟨v, c1, f1, hR, hO⟩ := hI
  have b1 : Bo < w.heap.size := World.block_lt_of_cell? w _ c1
  have hnv : some Bo ≠ v.ownBlock := fun h => hR.1 Bo h.symm rfl
  have HR := Aside0.mk hR
  have HO := Aside0.mk hO
  have HL := Aside0.mk hlen
  have HE := Aside0.mk hE
  have HC := Aside0.mk hC
  have HS := Aside0.mk hS
  have HN := Aside0.mk hn
  have HK1 := Aside0.mk c1
  have HK2 := Aside0.mk f1
  have HNV := Aside0.mk hnv
  have HLT := Aside0.mk b1
  have HBB := Aside0.mk hbo
  have hi5 : (Try.prog.info? 5).map (fun i => (i.zero, i.size, i.bytes)) = some (some (.int .u8 0), 1, 1) := by kernel_rfl
  have hi9 : (Try.prog.info? 9).map (fun i => (i.zero, i.size, i.bytes)) = some (some (.string ByteArray.empty), 1, 16) := by kernel_rfl
  have R0 : Aside0 (Kd.R (Kd.int .u8) 5 (w.alloc (.cells #[] 5)) w.heap.size (fun _ => True) (.slice (some ⟨w.heap.size, 0, none⟩) 0 0) (rowF sign bt 0)) := ⟨Kd.R_mono (R_lit0 (Kd.int .u8) 5 w w.heap.size (Nat.le_refl _)) (fun _ _ => trivial)⟩
  have B0 := Aside0.mk (below_alloc (Below.refl w.heap.size w) (.cells #[] 5))
  clear hR hO hlen hE hC hS hn c1 f1 b1 hnv hbo
  go_enter Try.func85, Try.ntmps85
  go_wp2_with fail
  go_loopg [8, 12] n (fun gg u8 u12 wr => ∃ i : Nat, i ≤ n ∧ n - i ≤ gg ∧ u12 = .int .i64 i ∧ Aside0 (Kd.R (Kd.int .u8) 5 wr w.heap.size (fun _ => True) u8 (rowF sign bt i)) ∧ Aside0 (Below w.heap.size w wr))
  case atStart => exact ⟨0, Nat.zero_le _, by omega, rfl, R0, B0⟩
  case round =>
    clear R0 B0
    obtain ⟨i, hi, hgg, rfl, HU, HB⟩ := hrel
    by_cases hlt : i < n
    · have hltz : (i : Int) < (n : Int) := by omega
      have HCX := Aside0.mk (fun W hW => HC.out W hW i hlt)
      have hEx := HE.out i hlt
      have hB2 : (Go.bits .and .u64 S (E i) == 0) = !bt i := by rw [← hEx]; unfold bne; rw [Bool.not_not]
      have HLU : Aside0 ((rowF sign bt i).length < 10) := ⟨by rw [rowF_len]; have := HN.out; omega⟩
      have HY := Aside0.mk (rowF_yes sign bt i)
      have HZ := Aside0.mk (rowF_no sign bt i)
      have hsc : wr.cell? ⟨Bs, 0, none⟩ = some (.int .u64 S) := pw_cell_below HB.out HS.out
      generalize E i = Ei at HCX hEx hB2
      go_wp2_with fail
      have tok0 : True := trivial
      go_region_held3 (fun w' => w'.cell? ⟨Bs, 0, none⟩ = some (.int .u64 S))
        (first | (exact hsc) | (exact pw_cell_below hbA (by assumption)))
        ((go_at_fn ge; have _t := tok0; refine (HCX.out _ ?xB).mono ?_; (case xB => first | exact HB.out | exact below_drew1 HB.out); rintro e wA ⟨rfl, hbA⟩; clear _t tok0))
      have HBA : Aside0 (Below w.heap.size w wA) := ⟨below_step (below_drew1 HB.out) hbA⟩
      have HUA : Aside0 (Kd.R (Kd.int .u8) 5 wA w.heap.size (fun _ => True) u8 (rowF sign bt i)) := ⟨Kd.R_below (Kd.R_drew HU.out) hbA⟩
      clear hbA hsc HB HU HCX hEx hB2
      cases hbt : bt i with
      | true =>
        have HY2 := Aside0.mk (HY.out hbt)
        clear hbt HY HZ
        go_wp2_with ((at_builtin; refine Kd.R_append_row (w0 := w) (h1 := fun _ => rfl) (Value.int .u8) (0 : Int) w.heap.size rfl _ _ _ _ _ 1 rfl Try.underlying80 hi5 rfl (by decide) u8 (rowF sign bt i) [sign] _ 1 _ (fun _ => True) rfl rfl (fun _ _ => trivial) ?xA ?xB ?xC ?xD ?xE ?_; (case xA => exact Kd.R_alloc HUA.out _); (case xB => exact lit1_C (Value.int .u8) (fun _ => rfl) 5 wA _); (case xC => exact below_alloc HBA.out _); (case xD => have h_ := HBA.out.size; (try simp); omega); (case xE => have h_ := HLU.out; (try simp only [List.length_append, List.length_cons, List.length_nil]); omega); intro v1 w1 ho hb hg hat; rw [HY2.out] at ho; have HO1 := Aside0.mk ho; have HB1 := Aside0.mk hb; clear ho hb hg hat))
        go_roundg (n - (i + 1))
        case measure => omega
        case rel => exact ⟨i + 1, by omega, by omega, by have hn5 := HN.out; exact congrArg _ (show wrap64 ((i : Int) + 1) = ((i + 1 : Nat) : Int) by unfold wrap64; omega), HO1, HB1⟩
      | false =>
        have HY2 := Aside0.mk (HZ.out hbt)
        clear hbt HY HZ
        go_wp2_with ((at_builtin; refine Kd.R_append_row (w0 := w) (h1 := fun _ => rfl) (Value.int .u8) (0 : Int) w.heap.size rfl _ _ _ _ _ 1 rfl Try.underlying80 hi5 rfl (by decide) u8 (rowF sign bt i) [46] _ 1 _ (fun _ => True) rfl rfl (fun _ _ => trivial) ?xA ?xB ?xC ?xD ?xE ?_; (case xA => exact Kd.R_alloc HUA.out _); (case xB => exact lit1_C (Value.int .u8) (fun _ => rfl) 5 wA _); (case xC => exact below_alloc HBA.out _); (case xD => have h_ := HBA.out.size; (try simp); omega); (case xE => have h_ := HLU.out; (try simp only [List.length_append, List.length_cons, List.length_nil]); omega); intro v1 w1 ho hb hg hat; rw [HY2.out] at ho; have HO1 := Aside0.mk ho; have HB1 := Aside0.mk hb; clear ho hb hg hat))
        go_roundg (n - (i + 1))
        case measure => omega
        case rel => exact ⟨i + 1, by omega, by omega, by have hn5 := HN.out; exact congrArg _ (show wrap64 ((i : Int) + 1) = ((i + 1 : Nat) : Int) by unfold wrap64; omega), HO1, HB1⟩
    · have hltz : ¬ (i : Int) < (n : Int) := by omega
      obtain rfl : i = n := by omega
      obtain ⟨A8, c8, rfl⟩ := Kd.R_slice HU.out
      have hcv : (convert 80 9 (.slice A8 (rowF sign bt i).length c8)).run Try.prog wr = .ok (.string (strOfNums (rowF sign bt i))) wr := own_string Try.underlying80 Try.underlying5 Try.underlying9 (Kd.own_of_R HU.out)
      generalize hstr : strOfNums (rowF sign bt i) = str at hcv
      have hco : wr.cell? ⟨Bo, 0, none⟩ = some v := pw_cell_below HB.out HK1.out
      have hfo : wr.frozen? ⟨Bo, 0, none⟩ = false := (World.frozen?_of_block (w := w) (a := ⟨Bo, 0, none⟩) (HB.out.block Bo HLT.out)).trans HK2.out
      have HRw := Aside0.mk (Kd.R_below HR.out (HB.out))
      have HBB2 : Aside0 (base ≤ w.heap.size) := ⟨by have := HBB.out; have := HLT.out; omega⟩
      have HBo : Aside0 (Bo < wr.heap.size) := ⟨by have := HB.out.size; have := HLT.out; omega⟩
      have HLN : Aside0 ((acc ++ [str]).length = acc.length + 1) := ⟨by simp⟩
      have HBA : Aside0 (∀ o, Bo < (wr.alloc o).heap.size) := ⟨fun o => by simp; have := HBo.out; omega⟩
      clear HU
      go_wp2_with ((at_builtin; refine Kd.R_append_row (w0 := w) (h1 := fun _ => rfl) Value.string ByteArray.empty base rfl _ _ _ _ _ 16 rfl Try.underlying73 hi9 rfl (by decide) v acc [str] _ 1 _ (fun k => k ≠ Bo) rfl rfl ?xF ?xA ?xB ?xC ?xD ?xE ?_; (case xF => exact fun k hk => by have h_ := HBo.out; simp at hk; omega); (case xA => exact Kd.R_alloc HRw.out _); (case xB => exact lit1F wr str); (case xC => exact (below_alloc HB.out _).mono HBB2.out); (case xD => have h_ := HB.out.size; simp; have := HBB2.out; omega); (case xE => have h_ := HL.out; (try simp); omega); intro v1 w1 ho hb hg hat; obtain ⟨A1, d1, rfl⟩ := Kd.R_slice ho; have cx : w1.cell? ⟨Bo, 0, none⟩ = some v := cell_grown hg ((World.cell?_alloc_lt _ _ _ HBo.out).trans hco) HNV.out; have fx : w1.frozen? ⟨Bo, 0, none⟩ = false := (World.frozen?_of_block (a := ⟨Bo, 0, none⟩) (hg.block Bo (HBA.out _) HNV.out)).trans ((World.frozen?_of_block (w := wr) (a := ⟨Bo, 0, none⟩) (Below.heap_alloc _ _ _ HBo.out)).trans hfo); have HO1 := Aside0.mk ho; have HB1 := Aside0.mk hb; have HG1 := Aside0.mk hg; have HA1 := Aside0.mk hat; clear ho hb hg hat))
      refine bodyPost_end (v := .tuple #[]) (by simp [results, Try.results85, go_sem]) rfl ⟨rfl, fun k => k = Bo ∨ some k = (Value.slice A1 (acc ++ [str]).length d1).ownBlock, ⟨_, ?_, ?_, ?_, fun k => Iff.rfl⟩, ?_, fun k hk => ?_⟩
      · rw [HLN.out]; apply World.cell?_setCell_same; exact cx
      · rw [World.frozen?_setCell]; exact fx
      · first | exact Kd.R_far (p := ⟨Bo, 0, none⟩) HO1.out (fun k hk => hk) _ | (rw [hstr]; exact Kd.R_far (p := ⟨Bo, 0, none⟩) HO1.out (fun k hk => hk) _)
      · exact ((((FrameBut.of_below HB.out).alloc _).grown HG1.out (fun k hk => .inl ((HO.out k).2 (.inr hk.symm)))).setCell (.inl ((HO.out Bo).2 (.inl rfl))) _)
      · rcases hk with hk | hk
        · exact .inl ((HO.out k).2 (.inl hk))
        · rcases HA1.out with h | ⟨b, h, hb⟩
          · exact .inl ((HO.out k).2 (.inr (hk.trans h)))
          · rw [h] at hk
            cases hk
            have h_ := HB.out.size
            exact .inr (by simp at hb; omega)
def figT_T1 : Bool × List (List Nat × List Nat) := (true, [([], []), ([0], [0]), ([], []), ([2, 1], [2]), ([], []), ([], []), ([], []), ([], []), ([5, 1, 3, 0, 1, 5, 6, 7], [1, 5]), ([6, 3, 8, 0, 1, 2, 3, 5, 6, 7, 8], [3, 6]), ([7, 4, 9, 0, 1, 2, 3, 4, 5, 6, 7, 8, 9], [4, 7])])
def figT_B1 : List Nat := [0, 1, 0, 7, 0, 0, 0, 0, 239, 495, 1023]
theorem figT_tab1 : rtab .any (opsOf Try.f38 1) = figT_T1 := by kernel_rfl
theorem figT_bits1 : waitsOk figT_T1.2 figT_B1 = true := by kernel_rfl
theorem FInv.move {Bo base : Nat} {acc : List ByteArray} {O : Nat → Prop} {W W' : World} (hI : FInv Bo base acc O W) (hk : ∀ k, O k → W'.heap[k]? = W.heap[k]?) : FInv Bo base acc O W' := by
  obtain ⟨v, c1, f1, hR, hO⟩ := hI
  have hm := hk Bo ((hO Bo).2 (.inl rfl))
  exact ⟨v, (World.cell?_of_block (w := W) (a := ⟨Bo, 0, none⟩) hm).trans c1, (World.frozen?_of_block (w := W) (a := ⟨Bo, 0, none⟩) hm).trans f1, Kd.R_mono (Kd.R_move (Kd.R_tight rfl hR) (fun k h => hk k ((hO k).2 (.inr h)))) (fun k h => hR.1 k h.symm), hO⟩
theorem FInv.lt {Bo base : Nat} {acc : List ByteArray} {O : Nat → Prop} {W : World} (hI : FInv Bo base acc O W) : ∀ k, O k → k < W.heap.size := by
  intro k hk
  obtain ⟨v, c1, f1, hR, hO⟩ := hI
  rcases (hO k).1 hk with rfl | h
  · exact World.block_lt_of_cell? W _ c1
  · exact Kd.R_lt hR k h.symm
theorem FInv.ge {Bo base : Nat} {acc : List ByteArray} {O : Nat → Prop} {W : World} (hI : FInv Bo base acc O W) (hb : base ≤ Bo) : ∀ k, O k → base ≤ k := by
  intro k hk
  obtain ⟨v, c1, f1, hR, hO⟩ := hI
  rcases (hO k).1 hk with rfl | h
  · exact hb
  · exact Kd.R_base hR k h.symm
def levB (gw gh : Nat) (S : Int) (y x : Nat) : Bool := Go.bits .and .u64 S ((impl_grid_level.f (gw : Int) (gh : Int) (x : Int) (y : Int)).getD 0) != 0
def uprB (gw gh : Nat) (S : Int) (y x : Nat) : Bool := Go.bits .and .u64 S ((impl_grid_upright.f (gw : Int) (gh : Int) (x : Int) (y : Int)).getD 0) != 0
def levR (gw gh : Nat) (S : Int) (y : Nat) : ByteArray := strOfNums (rowF 45 (levB gw gh S y) gw)
def uprR (gw gh : Nat) (S : Int) (y : Nat) : ByteArray := strOfNums (rowF 124 (uprB gw gh S y) (gw + 1))
def figRows (gw gh : Nat) (S : Int) : Nat → List ByteArray
  | 0 => []
  | y + 1 => if y < gh then (figRows gw gh S y ++ [levR gw gh S y]) ++ [uprR gw gh S y] else figRows gw gh S y ++ [levR gw gh S y]
theorem figRows_len (gw gh : Nat) (S : Int) : ∀ y, (figRows gw gh S y).length ≤ 2 * y
  | 0 => Nat.le_refl _
  | y + 1 => by
    have := figRows_len gw gh S y
    unfold figRows
    split
    · simp only [List.length_append, List.length_singleton]; omega
    · simp only [List.length_append, List.length_singleton]; omega
def FSt (w : World) (g5 : Nat) (K : Nat → Nat → Value → Prop) (acc : List ByteArray) (W : World) : Prop := (∃ O, FInv g5 w.heap.size acc O W ∧ ∀ b i v, K b i v → W.cell? ⟨b, i, none⟩ = some v ∧ ¬ O b) ∧ Below w.heap.size w W
theorem FSt.cell {w : World} {g5 : Nat} {K : Nat → Nat → Value → Prop} {acc : List ByteArray} {W : World} (h : FSt w g5 K acc W) {b i : Nat} {v : Value} (hk : K b i v) : W.cell? ⟨b, i, none⟩ = some v := by
  obtain ⟨⟨O, -, hK⟩, -⟩ := h
  exact (hK b i v hk).1
theorem FSt.weak {w : World} {g5 : Nat} {K K' : Nat → Nat → Value → Prop} {acc : List ByteArray} {W : World} (h : FSt w g5 K acc W) (hk : ∀ b i v, K' b i v → K b i v) : FSt w g5 K' acc W := by
  obtain ⟨⟨O, hI, hK⟩, hB⟩ := h
  exact ⟨⟨O, hI, fun b i v q => hK b i v (hk b i v q)⟩, hB⟩
theorem FSt.grow {w : World} {g5 : Nat} {K : Nat → Nat → Value → Prop} {acc : List ByteArray} {W : World} (h : FSt w g5 K acc W) (t : TypeId) (u : Value) : FSt w g5 (fun b i v => K b i v ∨ (b = W.heap.size ∧ i = 0 ∧ v = u)) acc (W.alloc (.cells #[u] t (0, 0))) := by
  obtain ⟨⟨O, hI, hK⟩, hB⟩ := h
  have F : FrameBut (fun _ => False) W (W.alloc (.cells #[u] t (0, 0))) := (FrameBut.refl _ W).alloc _
  refine ⟨⟨O, hI.move (fun k hk => F.block k (hI.lt k hk) id), fun b i v q => ?_⟩, hB.trans (F.toBelow hB.size (fun _ _ => id))⟩
  rcases q with q | ⟨rfl, rfl, rfl⟩
  · exact ⟨F.cell (hK b i v q).1 id, (hK b i v q).2⟩
  · exact ⟨(blk_cell (blk_new W _) 0).trans rfl, fun q => absurd (hI.lt _ q) (Nat.lt_irrefl _)⟩
theorem FSt.row {w : World} {g5 : Nat} {K : Nat → Nat → Value → Prop} {acc : List ByteArray} {W : World} (h : FSt w g5 K acc W) (hg5 : w.heap.size ≤ g5) (Bs : Nat) (S sign : Int) (hS : K Bs 0 (.int .u64 S)) (n : Nat) (hn : n ≤ 5) (bt : Nat → Bool) (ge : Nat) (cap : Array Value) (E : Nat → Int) (hE : ∀ x, x < n → (Go.bits .and .u64 S (E x) != 0) = bt x)
    (eg : ∀ args w, (callFunc ge args).run Try.prog w = .ok (.enter ge args) w) (hlen : acc.length < 1000)
    (hC : ∀ W', (∀ b i v, K b i v → W'.cell? ⟨b, i, none⟩ = some v) → ∀ x : Nat, x < n → Calls Try.prog ge (#[.int .i64 (x : Int)] ++ cap) W' fun e w' => e = .returned (.int .u64 (E x)) ∧ Below W'.heap.size W' w') :
    Calls Try.prog 85 #[.int .i64 (n : Int), .int .u8 sign, .func (.func ge) #[] cap, .pointer (some ⟨Bs, 0, none⟩), .pointer (some ⟨g5, 0, none⟩)] W fun e w' => e = .returned (.tuple #[]) ∧ FSt w g5 K (acc ++ [strOfNums (rowF sign bt n)]) w' := by
  obtain ⟨⟨O, hI, hK⟩, hB⟩ := h
  refine (figRow_any g5 Bs w.heap.size hg5 S sign n hn bt ge cap E hE eg acc O W hlen hI (hK _ _ _ hS).1 (fun W' hW => hC W' (fun b i v q => pw_cell_below hW (hK b i v q).1))).mono ?_
  rintro e w' ⟨rfl, O', hI', hF, hO'⟩
  refine ⟨rfl, ⟨O', hI', fun b i v q => ⟨hF.cell (hK b i v q).1 (hK b i v q).2, fun q2 => ?_⟩⟩, hB.trans (hF.toBelow hB.size (fun k hk q => ?_))⟩
  · rcases hO' _ q2 with q3 | q3
    · exact (hK b i v q).2 q3
    · exact absurd (World.block_lt_of_cell? W _ (hK b i v q).1) (Nat.not_lt.2 q3)
  · have := hI.ge hg5 k q
    omega
def K34 (g3 g4 : Nat) (gw gh : Nat) (S : Int) (b i : Nat) (v : Value) : Prop := (b = g3 ∧ i = 0 ∧ v = .int .i64 (gw : Int)) ∨ (b = g3 ∧ i = 1 ∧ v = .int .i64 (gh : Int)) ∨ (b = g4 ∧ i = 0 ∧ v = .int .u64 S)
set_option maxRecDepth 100000 in
set_option maxHeartbeats 16000000 in
theorem figText_main (gw gh : Nat) (hgw : gw ≤ 4) (hgh : gh ≤ 4) (A2 A3 : Option Addr) (c2 c3 : Nat) (l2 l3 : List Int) (S : Int) (w : World)
    (hGR : ∀ W', Below w.heap.size w W' → Calls Try.prog 47 #[.agg #[.int .i64 gw, .int .i64 gh, .slice A2 l2.length c2, .slice A3 l3.length c3]] W' fun e w' => e = .returned (.agg #[.int .i64 gw, .int .i64 gh]) ∧ Below W'.heap.size W' w')
    (hSE : ∀ W', Below w.heap.size w W' → Calls Try.prog 49 #[.agg #[.int .i64 gw, .int .i64 gh, .slice A2 l2.length c2, .slice A3 l3.length c3]] W' fun e w' => e = .returned (.int .u64 S) ∧ Below W'.heap.size W' w')
    (hLV : ∀ x y : Nat, x < gw → y ≤ gh → impl_grid_level.f (gw : Int) (gh : Int) (x : Int) (y : Int) = some ((impl_grid_level.f (gw : Int) (gh : Int) (x : Int) (y : Int)).getD 0))
    (hUV : ∀ x y : Nat, x ≤ gw → y < gh → impl_grid_upright.f (gw : Int) (gh : Int) (x : Int) (y : Int) = some ((impl_grid_upright.f (gw : Int) (gh : Int) (x : Int) (y : Int)).getD 0))
    (J : List ByteArray → ByteArray) (hJ : ∀ (W : World) (base : Nat) (ok : Nat → Prop) (A : Option Addr) (c : Nat), Kd.R Kd.string 9 W base ok (.slice A (figRows gw gh S (gh + 1)).length c) (figRows gw gh S (gh + 1)) → Calls Try.prog 90 #[.slice A (figRows gw gh S (gh + 1)).length c, .string ⟨#[47]⟩] W fun e w' => e = .returned (.string (J (figRows gw gh S (gh + 1)))) ∧ Below W.heap.size W w') :
    Calls Try.prog 38 #[.agg #[.int .i64 gw, .int .i64 gh, .slice A2 l2.length c2, .slice A3 l3.length c3]] w fun e w' => e = .returned (.string (J (figRows gw gh S (gh + 1)))) ∧ Below w.heap.size w w' := by
  have HLV := Aside0.mk hLV
  have HUV := Aside0.mk hUV
  have HJ := Aside0.mk hJ
  clear hLV hUV hJ
  have HGR0 := Aside0.mk hGR
  have HSE0 := Aside0.mk hSE
  have eg1 : ∀ args w, (callFunc 85 args).run Try.prog w = .ok (.enter 85 args) w := Go.Proofs.enters_of Try.func85 (by kernel_rfl) rfl
  have eg2 : ∀ args w, (callFunc 86 args).run Try.prog w = .ok (.enter 86 args) w := Go.Proofs.enters_of Try.func86 (by kernel_rfl) rfl
  have eg3 : ∀ args w, (callFunc 88 args).run Try.prog w = .ok (.enter 88 args) w := Go.Proofs.enters_of Try.func88 (by kernel_rfl) rfl
  have hmf : ∀ (fn : Fn) (first cap : Array Value) (w : World), (Instr.makeFunc fn first cap).run Try.prog w = .ok (.func fn first cap) w := fun _ _ _ _ => rfl
  clear hGR hSE
  go_enter Try.func38, Try.ntmps38
  go_wp2_with fail
  have HX0 : Aside0 ((w.alloc (.cells #[.int .i64 gw, .int .i64 gh, .slice A2 l2.length c2, .slice A3 l3.length c3] 28 (0, 0))).cell? ⟨w.heap.size, 0, none⟩ = some (.int .i64 gw) ∧ (w.alloc (.cells #[.int .i64 gw, .int .i64 gh, .slice A2 l2.length c2, .slice A3 l3.length c3] 28 (0, 0))).cell? ⟨w.heap.size, 1, none⟩ = some (.int .i64 gh) ∧ (w.alloc (.cells #[.int .i64 gw, .int .i64 gh, .slice A2 l2.length c2, .slice A3 l3.length c3] 28 (0, 0))).cell? ⟨w.heap.size, 2, none⟩ = some (.slice A2 l2.length c2) ∧ (w.alloc (.cells #[.int .i64 gw, .int .i64 gh, .slice A2 l2.length c2, .slice A3 l3.length c3] 28 (0, 0))).cell? ⟨w.heap.size, 3, none⟩ = some (.slice A3 l3.length c3)) := ⟨⟨by go_simp, by go_simp, by go_simp, by go_simp⟩⟩
  have HB0 := Aside0.mk (below_alloc (Below.refl w.heap.size w) (.cells #[.int .i64 gw, .int .i64 gh, .slice A2 l2.length c2, .slice A3 l3.length c3] 28 (0, 0)))
  generalize w.alloc (.cells #[.int .i64 gw, .int .i64 gh, .slice A2 l2.length c2, .slice A3 l3.length c3] 28 (0, 0)) = W4 at HX0 HB0 ⊢
  have HGR : Aside0 (∀ W', Below W4.drew.heap.size W4.drew W' → _) := ⟨fun W' h => HGR0.out W' (below_step (below_drew1 HB0.out) h)⟩
  have HSE : Aside0 (∀ W', Below W4.drew.heap.size W4.drew W' → _) := ⟨fun W' h => HSE0.out W' (below_step (below_drew1 HB0.out) h)⟩
  have HX : Aside0 (W4.drew.cell? ⟨w.heap.size, 0, none⟩ = some (.int .i64 gw) ∧ W4.drew.cell? ⟨w.heap.size, 1, none⟩ = some (.int .i64 gh) ∧ W4.drew.cell? ⟨w.heap.size, 2, none⟩ = some (.slice A2 l2.length c2) ∧ W4.drew.cell? ⟨w.heap.size, 3, none⟩ = some (.slice A3 l3.length c3)) := ⟨HX0.out⟩
  have HB5 := Aside0.mk (below_drew1 HB0.out)
  have HB := Aside0.mk (Below.refl W4.drew.heap.size W4.drew)
  clear HX0 HGR0 HSE0 HB0
  refine start_ (n := 11) (S := fun w' => True) (ds := []) #[false, false, false, false, false, false, false, false, false, false, false] (by kernel_rfl) rfl rfl trivial (fun hHeld => ?_)
  generalize W4.drew = W5 at HGR HSE HX HB5 HB hHeld ⊢
  refine with_tabW figT_tab1 figT_bits1 (fun HT_ HW_ => ?_)
  refine inv_at [0, 1, 2, 3, 4, 5, 6, 7, 8, 9, 10] (fun a0_ b a w' => ∃ (g3 : Nat) (g4 : Nat) (g5 : Nat) (g12 : Nat) (m4_ : Value) (m5_ : Value) (m6_ : Value) (m7_ : Value), a = putSel a0_ b [(0, 8, .agg #[.int .i64 gw, .int .i64 gh, .slice A2 l2.length c2, .slice A3 l3.length c3]), (1, 9, .agg #[.int .i64 gw, .int .i64 gh]), (2, 10, .agg #[.int .i64 gw, .int .i64 gh, .slice A2 l2.length c2, .slice A3 l3.length c3]), (3, 11, .int .u64 S), (4, 12, m4_), (5, 3, m5_), (6, 4, m6_), (7, 5, m7_)] ∧ (Below W5.heap.size W5 w') ∧ (b 5 = true → b 8 = false → w'.heap[g3]? = some (.cells #[.int .i64 0, .int .i64 0] 67 (0, 0))) ∧ (b 8 = true → w'.heap[g3]? = some (.cells #[.int .i64 gw, .int .i64 gh] 67 (0, 0))) ∧ (b 5 = true → W5.heap.size ≤ g3) ∧ (b 6 = true → b 9 = false → w'.heap[g4]? = some (.cells #[.int .u64 0] 62 (0, 0))) ∧ (b 9 = true → w'.heap[g4]? = some (.cells #[.int .u64 S] 62 (0, 0))) ∧ (b 6 = true → W5.heap.size ≤ g4) ∧ (b 7 = true → b 10 = false → w'.heap[g5]? = some (.cells #[.slice none 0 0] 73 (0, 0))) ∧ (b 10 = true → w'.heap[g5]? = some (.cells #[.slice (some ⟨g12, 0, none⟩) 0 0] 73 (0, 0))) ∧ (b 7 = true → W5.heap.size ≤ g5) ∧ (b 4 = true → (w'.heap[g12]? = some (.cells #[] 9 (0, 0))) ∧ W5.heap.size ≤ g12 ∧ Kd.R Kd.string 9 w' W5.heap.size (fun k_ => k_ = g12) (.slice (some ⟨g12, 0, none⟩) 0 0) []) ∧ (b 4 = true → (m4_ : Value) = .slice (some ⟨g12, 0, none⟩) 0 0) ∧ (b 5 = true → (m5_ : Value) = .pointer (some ⟨g3, 0, none⟩)) ∧ (b 6 = true → (m6_ : Value) = .pointer (some ⟨g4, 0, none⟩)) ∧ (b 7 = true → (m7_ : Value) = .pointer (some ⟨g5, 0, none⟩))) HT_.out HW_.out (by kernel_rfl) (by kernel_rfl) ?_ ?_ ?_
  · exact ⟨0, 0, 0, 0, .bool false, .bool false, .bool false, .bool false, by simp only [putSel, Bool.false_eq_true, if_false], HB.out, fun h_ => absurd h_ (by decide), fun h_ => absurd h_ (by decide), fun h_ => absurd h_ (by decide), fun h_ => absurd h_ (by decide), fun h_ => absurd h_ (by decide), fun h_ => absurd h_ (by decide), fun h_ => absurd h_ (by decide), fun h_ => absurd h_ (by decide), fun h_ => absurd h_ (by decide), fun h_ => absurd h_ (by decide), fun h_ => absurd h_ (by decide), fun h_ => absurd h_ (by decide), fun h_ => absurd h_ (by decide), fun h_ => absurd h_ (by decide)⟩
  · skip
    clear HB
    refine steps_cons ?_ ?_
    · rintro b a w' ⟨g3, g4, g5, g12, m4_, m5_, m6_, m7_, ha, Q_HB, Q_H3, Q_H3b, Q_G3, Q_H4, Q_H4b, Q_G4, Q_H5, Q_H5b, Q_G5, Q_HR, Q_X4_, Q_X5_, Q_X6_, Q_X7_⟩ hb_ hon hoff
      refine ⟨_, rfl, fun K hK => ?_⟩
      have e1 : a.tmps[1]? = some (.pointer (some ⟨w.heap.size, 0, none⟩)) := by rw [ha]; exact (putSel_off rfl).trans rfl
      replace ha := Aside0.mk ha
      have HB := Aside0.mk Q_HB
      have hs0_ := (pw_cell_below HB.out HX.out.1)
      have hs1_ := (pw_cell_below HB.out HX.out.2.1)
      have hs2_ := (pw_cell_below HB.out HX.out.2.2.1)
      have hs3_ := (pw_cell_below HB.out HX.out.2.2.2)
      refine value_ (w1 := w') (v := .agg #[.int .i64 gw, .int .i64 gh, .slice A2 l2.length c2, .slice A3 l3.length c3]) (by rfl) rfl ?_ ?_
      · go_simp
        (try simp only [i64_w])
        try rfl
      refine hK.out _ _ ⟨g3, g4, g5, g12, m4_, m5_, m6_, m7_, (by rw [ha.out]; exact putSel_upk 0 hb_ rfl rfl rfl), Q_HB, Q_H3, fun h0_ => absurd ((hoff 8 (by kernel_rfl)).symm.trans h0_) (by decide), Q_G3, Q_H4, fun h0_ => absurd ((hoff 9 (by kernel_rfl)).symm.trans h0_) (by decide), Q_G4, Q_H5, fun h0_ => absurd ((hoff 10 (by kernel_rfl)).symm.trans h0_) (by decide), Q_G5, Q_HR, Q_X4_, Q_X5_, Q_X6_, Q_X7_⟩
    refine steps_cons ?_ ?_
    · rintro b a w' ⟨g3, g4, g5, g12, m4_, m5_, m6_, m7_, ha, Q_HB, Q_H3, Q_H3b, Q_G3, Q_H4, Q_H4b, Q_G4, Q_H5, Q_H5b, Q_G5, Q_HR, Q_X4_, Q_X5_, Q_X6_, Q_X7_⟩ hb_ hon hoff
      refine ⟨_, rfl, fun K hK => ?_⟩
      have e8 : a.tmps[8]? = some (.agg #[.int .i64 gw, .int .i64 gh, .slice A2 l2.length c2, .slice A3 l3.length c3]) := by rw [ha]; exact putSel_on (e := (0, 8, .agg #[.int .i64 gw, .int .i64 gh, .slice A2 l2.length c2, .slice A3 l3.length c3])) 0 rfl rfl (hon 0 (by kernel_rfl)) rfl
      replace ha := Aside0.mk ha
      have HB := Aside0.mk Q_HB
      refine goes_ Try.func47 (by kernel_rfl) rfl #[.agg #[.int .i64 gw, .int .i64 gh, .slice A2 l2.length c2, .slice A3 l3.length c3]] (by rfl) rfl rfl (by first | (simp only [List.map_toArray, List.map_cons, List.map_nil, Act.eval, Array.getD_eq_getD_getElem?, Option.getD_some, e8]; done) | (simp only [List.map_toArray, List.map_cons, List.map_nil, Act.eval, Array.getD_eq_getD_getElem?, Option.getD_some, e8]; rfl)) ?_
      refine (HGR.out w' HB.out).mono ?_
      rintro e v6 ⟨rfl, hb⟩
      refine ⟨_, rfl, ?_⟩
      refine hK.out _ _ ⟨g3, g4, g5, g12, m4_, m5_, m6_, m7_, (by rw [ha.out]; exact putSel_upk 1 hb_ rfl rfl rfl), below_step HB.out hb, fun h0_ h1_ => blk_below (Q_H3 h0_ h1_) hb, fun h0_ => absurd ((hoff 8 (by kernel_rfl)).symm.trans h0_) (by decide), Q_G3, fun h0_ h1_ => blk_below (Q_H4 h0_ h1_) hb, fun h0_ => absurd ((hoff 9 (by kernel_rfl)).symm.trans h0_) (by decide), Q_G4, fun h0_ h1_ => blk_below (Q_H5 h0_ h1_) hb, fun h0_ => absurd ((hoff 10 (by kernel_rfl)).symm.trans h0_) (by decide), Q_G5, fun h0_ => ⟨blk_below (Q_HR h0_).1 hb, (Q_HR h0_).2.1, Kd.R_below (Q_HR h0_).2.2 hb⟩, Q_X4_, Q_X5_, Q_X6_, Q_X7_⟩
    refine steps_cons ?_ ?_
    · rintro b a w' ⟨g3, g4, g5, g12, m4_, m5_, m6_, m7_, ha, Q_HB, Q_H3, Q_H3b, Q_G3, Q_H4, Q_H4b, Q_G4, Q_H5, Q_H5b, Q_G5, Q_HR, Q_X4_, Q_X5_, Q_X6_, Q_X7_⟩ hb_ hon hoff
      refine ⟨_, rfl, fun K hK => ?_⟩
      have e1 : a.tmps[1]? = some (.pointer (some ⟨w.heap.size, 0, none⟩)) := by rw [ha]; exact (putSel_off rfl).trans rfl
      replace ha := Aside0.mk ha
      have HB := Aside0.mk Q_HB
      have hs0_ := (pw_cell_below HB.out HX.out.1)
      have hs1_ := (pw_cell_below HB.out HX.out.2.1)
      have hs2_ := (pw_cell_below HB.out HX.out.2.2.1)
      have hs3_ := (pw_cell_below HB.out HX.out.2.2.2)
      refine value_ (w1 := w') (v := .agg #[.int .i64 gw, .int .i64 gh, .slice A2 l2.length c2, .slice A3 l3.length c3]) (by rfl) rfl ?_ ?_
      · go_simp
        (try simp only [i64_w])
        try rfl
      refine hK.out _ _ ⟨g3, g4, g5, g12, m4_, m5_, m6_, m7_, (by rw [ha.out]; exact putSel_upk 2 hb_ rfl rfl rfl), Q_HB, Q_H3, fun h0_ => absurd ((hoff 8 (by kernel_rfl)).symm.trans h0_) (by decide), Q_G3, Q_H4, fun h0_ => absurd ((hoff 9 (by kernel_rfl)).symm.trans h0_) (by decide), Q_G4, Q_H5, fun h0_ => absurd ((hoff 10 (by kernel_rfl)).symm.trans h0_) (by decide), Q_G5, Q_HR, Q_X4_, Q_X5_, Q_X6_, Q_X7_⟩
    refine steps_cons ?_ ?_
    · rintro b a w' ⟨g3, g4, g5, g12, m4_, m5_, m6_, m7_, ha, Q_HB, Q_H3, Q_H3b, Q_G3, Q_H4, Q_H4b, Q_G4, Q_H5, Q_H5b, Q_G5, Q_HR, Q_X4_, Q_X5_, Q_X6_, Q_X7_⟩ hb_ hon hoff
      refine ⟨_, rfl, fun K hK => ?_⟩
      have e10 : a.tmps[10]? = some (.agg #[.int .i64 gw, .int .i64 gh, .slice A2 l2.length c2, .slice A3 l3.length c3]) := by rw [ha]; exact putSel_on (e := (2, 10, .agg #[.int .i64 gw, .int .i64 gh, .slice A2 l2.length c2, .slice A3 l3.length c3])) 2 rfl rfl (hon 2 (by kernel_rfl)) rfl
      replace ha := Aside0.mk ha
      have HB := Aside0.mk Q_HB
      refine goes_ Try.func49 (by kernel_rfl) rfl #[.agg #[.int .i64 gw, .int .i64 gh, .slice A2 l2.length c2, .slice A3 l3.length c3]] (by rfl) rfl rfl (by first | (simp only [List.map_toArray, List.map_cons, List.map_nil, Act.eval, Array.getD_eq_getD_getElem?, Option.getD_some, e10]; done) | (simp only [List.map_toArray, List.map_cons, List.map_nil, Act.eval, Array.getD_eq_getD_getElem?, Option.getD_some, e10]; rfl)) ?_
      refine (HSE.out w' HB.out).mono ?_
      rintro e v6 ⟨rfl, hb⟩
      refine ⟨_, rfl, ?_⟩
      refine hK.out _ _ ⟨g3, g4, g5, g12, m4_, m5_, m6_, m7_, (by rw [ha.out]; exact putSel_upk 3 hb_ rfl rfl rfl), below_step HB.out hb, fun h0_ h1_ => blk_below (Q_H3 h0_ h1_) hb, fun h0_ => absurd ((hoff 8 (by kernel_rfl)).symm.trans h0_) (by decide), Q_G3, fun h0_ h1_ => blk_below (Q_H4 h0_ h1_) hb, fun h0_ => absurd ((hoff 9 (by kernel_rfl)).symm.trans h0_) (by decide), Q_G4, fun h0_ h1_ => blk_below (Q_H5 h0_ h1_) hb, fun h0_ => absurd ((hoff 10 (by kernel_rfl)).symm.trans h0_) (by decide), Q_G5, fun h0_ => ⟨blk_below (Q_HR h0_).1 hb, (Q_HR h0_).2.1, Kd.R_below (Q_HR h0_).2.2 hb⟩, Q_X4_, Q_X5_, Q_X6_, Q_X7_⟩
    refine steps_cons ?_ ?_
    · rintro b a w' ⟨g3, g4, g5, g12, m4_, m5_, m6_, m7_, ha, Q_HB, Q_H3, Q_H3b, Q_G3, Q_H4, Q_H4b, Q_G4, Q_H5, Q_H5b, Q_G5, Q_HR, Q_X4_, Q_X5_, Q_X6_, Q_X7_⟩ hb_ hon hoff
      refine ⟨_, rfl, fun K hK => ?_⟩
      replace ha := Aside0.mk ha
      have HB := Aside0.mk Q_HB
      refine value_ (w1 := w'.alloc (.cells #[] 9)) (v := .slice (some ⟨w'.heap.size, 0, none⟩) 0 0) (by rfl) rfl ?hrun4 ?hrest4
      case hrun4 =>
        first | (go_simp; done) | (go_simp; rfl)
      have hb : Below w'.heap.size w' (w'.alloc (.cells #[] 9)) := below_alloc (Below.refl _ _) _
      refine hK.out _ _ ⟨g3, g4, g5, w'.heap.size, (.slice (some ⟨w'.heap.size, 0, none⟩) 0 0), m5_, m6_, m7_, (by rw [ha.out]; exact putSel_upk 4 hb_ rfl rfl rfl), below_step HB.out hb, fun h0_ h1_ => blk_below (Q_H3 h0_ h1_) hb, fun h0_ => blk_below (Q_H3b h0_) hb, Q_G3, fun h0_ h1_ => blk_below (Q_H4 h0_ h1_) hb, fun h0_ => blk_below (Q_H4b h0_) hb, Q_G4, fun h0_ h1_ => blk_below (Q_H5 h0_ h1_) hb, fun h0_ => absurd ((hoff 10 (by kernel_rfl)).symm.trans h0_) (by decide), Q_G5, fun _ => ⟨heap_alloc_new w' _, HB.out.size, R_lit0 Kd.string 9 w' _ HB.out.size⟩, fun _ => rfl, Q_X5_, Q_X6_, Q_X7_⟩
    refine steps_cons ?_ ?_
    · rintro b a w' ⟨g3, g4, g5, g12, m4_, m5_, m6_, m7_, ha, Q_HB, Q_H3, Q_H3b, Q_G3, Q_H4, Q_H4b, Q_G4, Q_H5, Q_H5b, Q_G5, Q_HR, Q_X4_, Q_X5_, Q_X6_, Q_X7_⟩ hb_ hon hoff
      refine ⟨_, rfl, fun K hK => ?_⟩
      replace ha := Aside0.mk ha
      have HB := Aside0.mk Q_HB
      refine box_step ?hg (N := 3) ?hd (cs := #[.int .i64 0, .int .i64 0]) (t := 67) ?hr ?_; (case hd => rfl); (case hg => rfl); (case hr => first | (go_simp; done) | (go_simp; rfl))
      intro b3 hg w2 hbox hb
      have hge : W5.heap.size ≤ b3 := by rw [hg]; exact HB.out.size
      refine hK.out _ _ ⟨b3, g4, g5, g12, m4_, (.pointer (some ⟨b3, 0, none⟩)), m6_, m7_, (by rw [ha.out]; exact putSel_upk 5 hb_ rfl rfl rfl), below_step HB.out hb, fun _ _ => hbox, fun h0_ => absurd ((hoff 8 (by kernel_rfl)).symm.trans h0_) (by decide), fun _ => hge, fun h0_ h1_ => blk_below (Q_H4 h0_ h1_) hb, fun h0_ => absurd ((hoff 9 (by kernel_rfl)).symm.trans h0_) (by decide), Q_G4, fun h0_ h1_ => blk_below (Q_H5 h0_ h1_) hb, fun h0_ => absurd ((hoff 10 (by kernel_rfl)).symm.trans h0_) (by decide), Q_G5, fun h0_ => ⟨blk_below (Q_HR h0_).1 hb, (Q_HR h0_).2.1, Kd.R_below (Q_HR h0_).2.2 hb⟩, Q_X4_, fun _ => rfl, Q_X6_, Q_X7_⟩
    refine steps_cons ?_ ?_
    · rintro b a w' ⟨g3, g4, g5, g12, m4_, m5_, m6_, m7_, ha, Q_HB, Q_H3, Q_H3b, Q_G3, Q_H4, Q_H4b, Q_G4, Q_H5, Q_H5b, Q_G5, Q_HR, Q_X4_, Q_X5_, Q_X6_, Q_X7_⟩ hb_ hon hoff
      refine ⟨_, rfl, fun K hK => ?_⟩
      replace ha := Aside0.mk ha
      have HB := Aside0.mk Q_HB
      refine box_step ?hg (N := 4) ?hd (cs := #[.int .u64 0]) (t := 62) ?hr ?_; (case hd => rfl); (case hg => rfl); (case hr => first | (go_simp; done) | (go_simp; rfl))
      intro b4 hg w2 hbox hb
      have hge : W5.heap.size ≤ b4 := by rw [hg]; exact HB.out.size
      refine hK.out _ _ ⟨g3, b4, g5, g12, m4_, m5_, (.pointer (some ⟨b4, 0, none⟩)), m7_, (by rw [ha.out]; exact putSel_upk 6 hb_ rfl rfl rfl), below_step HB.out hb, fun h0_ h1_ => blk_below (Q_H3 h0_ h1_) hb, fun h0_ => absurd ((hoff 8 (by kernel_rfl)).symm.trans h0_) (by decide), Q_G3, fun _ _ => hbox, fun h0_ => absurd ((hoff 9 (by kernel_rfl)).symm.trans h0_) (by decide), fun _ => hge, fun h0_ h1_ => blk_below (Q_H5 h0_ h1_) hb, fun h0_ => absurd ((hoff 10 (by kernel_rfl)).symm.trans h0_) (by decide), Q_G5, fun h0_ => ⟨blk_below (Q_HR h0_).1 hb, (Q_HR h0_).2.1, Kd.R_below (Q_HR h0_).2.2 hb⟩, Q_X4_, Q_X5_, fun _ => rfl, Q_X7_⟩
    refine steps_cons ?_ ?_
    · rintro b a w' ⟨g3, g4, g5, g12, m4_, m5_, m6_, m7_, ha, Q_HB, Q_H3, Q_H3b, Q_G3, Q_H4, Q_H4b, Q_G4, Q_H5, Q_H5b, Q_G5, Q_HR, Q_X4_, Q_X5_, Q_X6_, Q_X7_⟩ hb_ hon hoff
      refine ⟨_, rfl, fun K hK => ?_⟩
      replace ha := Aside0.mk ha
      have HB := Aside0.mk Q_HB
      refine box_step ?hg (N := 5) ?hd (cs := #[.slice none 0 0]) (t := 73) ?hr ?_; (case hd => rfl); (case hg => rfl); (case hr => first | (go_simp; done) | (go_simp; rfl))
      intro b5 hg w2 hbox hb
      have hge : W5.heap.size ≤ b5 := by rw [hg]; exact HB.out.size
      refine hK.out _ _ ⟨g3, g4, b5, g12, m4_, m5_, m6_, (.pointer (some ⟨b5, 0, none⟩)), (by rw [ha.out]; exact putSel_upk 7 hb_ rfl rfl rfl), below_step HB.out hb, fun h0_ h1_ => blk_below (Q_H3 h0_ h1_) hb, fun h0_ => absurd ((hoff 8 (by kernel_rfl)).symm.trans h0_) (by decide), Q_G3, fun h0_ h1_ => blk_below (Q_H4 h0_ h1_) hb, fun h0_ => absurd ((hoff 9 (by kernel_rfl)).symm.trans h0_) (by decide), Q_G4, fun _ _ => hbox, fun h0_ => absurd ((hoff 10 (by kernel_rfl)).symm.trans h0_) (by decide), fun _ => hge, fun h0_ => ⟨blk_below (Q_HR h0_).1 hb, (Q_HR h0_).2.1, Kd.R_below (Q_HR h0_).2.2 hb⟩, Q_X4_, Q_X5_, Q_X6_, fun _ => rfl⟩
    refine steps_cons ?_ ?_
    · rintro b a w' ⟨g3, g4, g5, g12, m4_, m5_, m6_, m7_, ha, Q_HB, Q_H3, Q_H3b, Q_G3, Q_H4, Q_H4b, Q_G4, Q_H5, Q_H5b, Q_G5, Q_HR, Q_X4_, Q_X5_, Q_X6_, Q_X7_⟩ hb_ hon hoff
      refine ⟨_, rfl, fun K hK => ?_⟩
      have e3 : a.tmps[3]? = some (m5_) := by rw [ha]; exact putSel_on (e := (5, 3, m5_)) 5 rfl rfl (hon 5 (by kernel_rfl)) rfl
      rw [Q_X5_ (hon 5 (by kernel_rfl))] at e3
      have e9 : a.tmps[9]? = some (.agg #[.int .i64 gw, .int .i64 gh]) := by rw [ha]; exact putSel_on (e := (1, 9, .agg #[.int .i64 gw, .int .i64 gh])) 1 rfl rfl (hon 1 (by kernel_rfl)) rfl
      replace ha := Aside0.mk ha
      have HB := Aside0.mk Q_HB
      have H3 := Aside0.mk (Q_H3 (hon 5 (by kernel_rfl)) hb_)
      have G3 := Aside0.mk (Q_G3 (hon 5 (by kernel_rfl)))
      have H4 := Aside0.mk (Q_H4 (hon 6 (by kernel_rfl)) (hoff 9 (by kernel_rfl)))
      have G4 := Aside0.mk (Q_G4 (hon 6 (by kernel_rfl)))
      have H5 := Aside0.mk (Q_H5 (hon 7 (by kernel_rfl)) (hoff 10 (by kernel_rfl)))
      have G5 := Aside0.mk (Q_G5 (hon 7 (by kernel_rfl)))
      have hs30 := (blk_cell H3.out 0).trans rfl
      have hs31 := (blk_cell H3.out 1).trans rfl
      have hf30 := blk_frozen H3.out 0
      have hf31 := blk_frozen H3.out 1
      refine skip_ (w1 := (w'.setCell ⟨g3, 0, none⟩ (.int .i64 gw)).setCell ⟨g3, 1, none⟩ (.int .i64 gh)) (by rfl) rfl ?hrun8 ?hrest8
      case hrun8 =>
        first | (go_simp; done) | (go_simp; rfl)
      have n34 : g3 ≠ g4 := fun h_ => blk_ne H3.out H4.out (by decide) h_
      have n35 : g3 ≠ g5 := fun h_ => blk_ne H3.out H5.out (by decide) h_
      refine hK.out _ _ ⟨g3, g4, g5, g12, m4_, m5_, m6_, m7_, (by rw [ha.out]; exact putSel_none (v := undef) rfl), below_set (below_set HB.out G3.out) G3.out, fun _ h1_ => absurd ((up_self b 8).symm.trans h1_) (by decide), fun _ => blk_put (cs := #[.int .i64 gw, .int .i64 0]) (blk_put (cs := #[.int .i64 0, .int .i64 0]) H3.out 0 _ rfl) 1 _ rfl, Q_G3, fun _ _ => blk_far (blk_far H4.out n34.symm _) n34.symm _, fun h0_ => absurd ((hoff 9 (by kernel_rfl)).symm.trans h0_) (by decide), Q_G4, fun _ _ => blk_far (blk_far H5.out n35.symm _) n35.symm _, fun h0_ => absurd ((hoff 10 (by kernel_rfl)).symm.trans h0_) (by decide), Q_G5, fun h0_ => ⟨blk_far (blk_far (Q_HR h0_).1 (fun h_ => blk_ne (Q_HR h0_).1 H3.out (by decide) h_) _) (fun h_ => blk_ne (Q_HR h0_).1 H3.out (by decide) h_) _, (Q_HR h0_).2.1, Kd.R_far (p := ⟨g3, 1, none⟩) (Kd.R_far (p := ⟨g3, 0, none⟩) (Q_HR h0_).2.2 (fun k_ hk_ => hk_ ▸ (fun h_ => blk_ne (Q_HR h0_).1 H3.out (by decide) h_)) _) (fun k_ hk_ => hk_ ▸ (fun h_ => blk_ne (Q_HR h0_).1 H3.out (by decide) h_)) _⟩, Q_X4_, Q_X5_, Q_X6_, Q_X7_⟩
    refine steps_cons ?_ ?_
    · rintro b a w' ⟨g3, g4, g5, g12, m4_, m5_, m6_, m7_, ha, Q_HB, Q_H3, Q_H3b, Q_G3, Q_H4, Q_H4b, Q_G4, Q_H5, Q_H5b, Q_G5, Q_HR, Q_X4_, Q_X5_, Q_X6_, Q_X7_⟩ hb_ hon hoff
      refine ⟨_, rfl, fun K hK => ?_⟩
      have e4 : a.tmps[4]? = some (m6_) := by rw [ha]; exact putSel_on (e := (6, 4, m6_)) 6 rfl rfl (hon 6 (by kernel_rfl)) rfl
      rw [Q_X6_ (hon 6 (by kernel_rfl))] at e4
      have e11 : a.tmps[11]? = some (.int .u64 S) := by rw [ha]; exact putSel_on (e := (3, 11, .int .u64 S)) 3 rfl rfl (hon 3 (by kernel_rfl)) rfl
      replace ha := Aside0.mk ha
      have HB := Aside0.mk Q_HB
      have H3b := Aside0.mk (Q_H3b (hon 8 (by kernel_rfl)))
      have G3 := Aside0.mk (Q_G3 (hon 5 (by kernel_rfl)))
      have H4 := Aside0.mk (Q_H4 (hon 6 (by kernel_rfl)) hb_)
      have G4 := Aside0.mk (Q_G4 (hon 6 (by kernel_rfl)))
      have H5 := Aside0.mk (Q_H5 (hon 7 (by kernel_rfl)) (hoff 10 (by kernel_rfl)))
      have G5 := Aside0.mk (Q_G5 (hon 7 (by kernel_rfl)))
      have hs40 := (blk_cell H4.out 0).trans rfl
      have hf40 := blk_frozen H4.out 0
      refine skip_ (w1 := w'.setCell ⟨g4, 0, none⟩ (.int .u64 S)) (by rfl) rfl ?hrun9 ?hrest9
      case hrun9 =>
        first | (go_simp; done) | (go_simp; rfl)
      have n43 : g4 ≠ g3 := fun h_ => blk_ne H4.out H3b.out (by decide) h_
      have n45 : g4 ≠ g5 := fun h_ => blk_ne H4.out H5.out (by decide) h_
      refine hK.out _ _ ⟨g3, g4, g5, g12, m4_, m5_, m6_, m7_, (by rw [ha.out]; exact putSel_none (v := undef) rfl), below_set HB.out G4.out, fun _ h1_ => absurd ((hon 8 (by kernel_rfl)).symm.trans h1_) (by decide), fun _ => blk_far H3b.out n43.symm _, Q_G3, fun _ h1_ => absurd ((up_self b 9).symm.trans h1_) (by decide), fun _ => blk_put (cs := #[.int .u64 0]) H4.out 0 _ rfl, Q_G4, fun _ _ => blk_far H5.out n45.symm _, fun h0_ => absurd ((hoff 10 (by kernel_rfl)).symm.trans h0_) (by decide), Q_G5, fun h0_ => ⟨blk_far (Q_HR h0_).1 (fun h_ => blk_ne (Q_HR h0_).1 H4.out (by decide) h_) _, (Q_HR h0_).2.1, Kd.R_far (p := ⟨g4, 0, none⟩) (Q_HR h0_).2.2 (fun k_ hk_ => hk_ ▸ (fun h_ => blk_ne (Q_HR h0_).1 H4.out (by decide) h_)) _⟩, Q_X4_, Q_X5_, Q_X6_, Q_X7_⟩
    refine steps_cons ?_ ?_
    · rintro b a w' ⟨g3, g4, g5, g12, m4_, m5_, m6_, m7_, ha, Q_HB, Q_H3, Q_H3b, Q_G3, Q_H4, Q_H4b, Q_G4, Q_H5, Q_H5b, Q_G5, Q_HR, Q_X4_, Q_X5_, Q_X6_, Q_X7_⟩ hb_ hon hoff
      refine ⟨_, rfl, fun K hK => ?_⟩
      have e5 : a.tmps[5]? = some (m7_) := by rw [ha]; exact putSel_on (e := (7, 5, m7_)) 7 rfl rfl (hon 7 (by kernel_rfl)) rfl
      rw [Q_X7_ (hon 7 (by kernel_rfl))] at e5
      have e12 : a.tmps[12]? = some (m4_) := by rw [ha]; exact putSel_on (e := (4, 12, m4_)) 4 rfl rfl (hon 4 (by kernel_rfl)) rfl
      rw [Q_X4_ (hon 4 (by kernel_rfl))] at e12
      replace ha := Aside0.mk ha
      have HB := Aside0.mk Q_HB
      have H3b := Aside0.mk (Q_H3b (hon 8 (by kernel_rfl)))
      have G3 := Aside0.mk (Q_G3 (hon 5 (by kernel_rfl)))
      have H4b := Aside0.mk (Q_H4b (hon 9 (by kernel_rfl)))
      have G4 := Aside0.mk (Q_G4 (hon 6 (by kernel_rfl)))
      have H5 := Aside0.mk (Q_H5 (hon 7 (by kernel_rfl)) hb_)
      have G5 := Aside0.mk (Q_G5 (hon 7 (by kernel_rfl)))
      have HR := Aside0.mk (Q_HR (hon 4 (by kernel_rfl)))
      have hs50 := (blk_cell H5.out 0).trans rfl
      have hf50 := blk_frozen H5.out 0
      refine skip_ (w1 := w'.setCell ⟨g5, 0, none⟩ (.slice (some ⟨g12, 0, none⟩) 0 0)) (by rfl) rfl ?hrun10 ?hrest10
      case hrun10 =>
        first | (go_simp; done) | (go_simp; rfl)
      have n53 : g5 ≠ g3 := fun h_ => blk_ne H5.out H3b.out (by decide) h_
      have n54 : g5 ≠ g4 := fun h_ => blk_ne H5.out H4b.out (by decide) h_
      have n5r : g5 ≠ g12 := fun h_ => blk_ne H5.out HR.out.1 (by decide) h_
      refine hK.out _ _ ⟨g3, g4, g5, g12, m4_, m5_, m6_, m7_, (by rw [ha.out]; exact putSel_none (v := undef) rfl), below_set HB.out G5.out, fun _ h1_ => absurd ((hon 8 (by kernel_rfl)).symm.trans h1_) (by decide), fun _ => blk_far H3b.out n53.symm _, Q_G3, fun _ h1_ => absurd ((hon 9 (by kernel_rfl)).symm.trans h1_) (by decide), fun _ => blk_far H4b.out n54.symm _, Q_G4, fun _ h1_ => absurd ((up_self b 10).symm.trans h1_) (by decide), fun _ => blk_put (cs := #[.slice none 0 0]) H5.out 0 _ rfl, Q_G5, fun _ => ⟨blk_far HR.out.1 n5r.symm _, HR.out.2.1, Kd.R_far (p := ⟨g5, 0, none⟩) HR.out.2.2 (fun k_ hk_ => hk_ ▸ n5r.symm) _⟩, Q_X4_, Q_X5_, Q_X6_, Q_X7_⟩
    exact steps_nil
  rintro b a w' hall ⟨g3, g4, g5, g12, m4_, m5_, m6_, m7_, ha, Q_HB, Q_H3, Q_H3b, Q_G3, Q_H4, Q_H4b, Q_G4, Q_H5, Q_H5b, Q_G5, Q_HR, Q_X4_, Q_X5_, Q_X6_, Q_X7_⟩
  clear HB
  have hb0_ := hall 0 (by kernel_rfl)
  have hb1_ := hall 1 (by kernel_rfl)
  have hb2_ := hall 2 (by kernel_rfl)
  have hb3_ := hall 3 (by kernel_rfl)
  have hb4_ := hall 4 (by kernel_rfl)
  have hb5_ := hall 5 (by kernel_rfl)
  have hb6_ := hall 6 (by kernel_rfl)
  have hb7_ := hall 7 (by kernel_rfl)
  have hb8_ := hall 8 (by kernel_rfl)
  have hb9_ := hall 9 (by kernel_rfl)
  have hb10_ := hall 10 (by kernel_rfl)
  subst ha
  obtain rfl := Q_X4_ hb4_
  obtain rfl := Q_X5_ hb5_
  obtain rfl := Q_X6_ hb6_
  obtain rfl := Q_X7_ hb7_
  simp only [putSel, hb0_, hb1_, hb2_, hb3_, hb4_, hb5_, hb6_, hb7_, hb8_, hb9_, hb10_, if_true, Act.put, List.setIfInBounds_toArray, List.set_cons_zero, List.set_cons_succ]
  have HB := Aside0.mk Q_HB
  clear Q_HB
  clear Q_H3
  have H3b := Aside0.mk (Q_H3b hb8_)
  clear Q_H3b
  have G3 := Aside0.mk (Q_G3 hb5_)
  clear Q_G3
  clear Q_H4
  have H4b := Aside0.mk (Q_H4b hb9_)
  clear Q_H4b
  have G4 := Aside0.mk (Q_G4 hb6_)
  clear Q_G4
  clear Q_H5
  have H5b := Aside0.mk (Q_H5b hb10_)
  clear Q_H5b
  have G5 := Aside0.mk (Q_G5 hb7_)
  clear Q_G5
  have HR := Aside0.mk (Q_HR hb4_)
  clear Q_HR
  clear hall hb0_ hb1_ hb2_ hb3_ hb4_ hb5_ hb6_ hb7_ hb8_ hb9_ hb10_
  have N53 : g5 ≠ g3 := fun h_ => blk_ne H5b.out H3b.out (by decide) h_
  have N54 : g5 ≠ g4 := fun h_ => blk_ne H5b.out H4b.out (by decide) h_
  have N5r : g5 ≠ g12 := fun h_ => blk_ne H5b.out HR.out.1 (by decide) h_
  have N3r : g3 ≠ g12 := fun h_ => blk_ne H3b.out HR.out.1 (by decide) h_
  have N4r : g4 ≠ g12 := fun h_ => blk_ne H4b.out HR.out.1 (by decide) h_
  have SZ : w.heap.size ≤ W5.heap.size := HB5.out.size
  have HI0 : Aside0 (FSt w g5 (K34 g3 g4 gw gh S) (figRows gw gh S 0) w') := ⟨⟨⟨fun k => k = g5 ∨ some k = (Value.slice (some ⟨g12, 0, none⟩) 0 0).ownBlock, ⟨_, (blk_cell H5b.out 0).trans rfl, blk_frozen H5b.out 0, Kd.R_mono (Kd.R_lower HR.out.2.2 SZ) (fun k hk => hk ▸ N5r.symm), fun k => Iff.rfl⟩, fun b i v q => by
    have no : ∀ b, b ≠ g5 → b ≠ g12 → ¬ (b = g5 ∨ some b = (Value.slice (some ⟨g12, 0, none⟩) 0 0).ownBlock) := fun b h1 h2 h => by
      rcases h with h | h
      · exact h1 h
      · simp only [Value.ownBlock] at h
        injection h with h
        exact h2 h
    rcases q with ⟨rfl, rfl, rfl⟩ | ⟨rfl, rfl, rfl⟩ | ⟨rfl, rfl, rfl⟩
    · exact ⟨(blk_cell H3b.out 0).trans rfl, no _ N53.symm N3r⟩
    · exact ⟨(blk_cell H3b.out 1).trans rfl, no _ N53.symm N3r⟩
    · exact ⟨(blk_cell H4b.out 0).trans rfl, no _ N54.symm N4r⟩⟩, below_step HB5.out (HB.out.mono (Nat.le_refl _))⟩⟩
  have HG5 : Aside0 (w.heap.size ≤ g5) := ⟨Nat.le_trans SZ G5.out⟩
  have hc31 : w'.cell? ⟨g3, 1, none⟩ = some (.int .i64 (gh : Int)) := (blk_cell H3b.out 1).trans rfl
  have hw1 : wrap64 ((gh : Int) + 1) = ((gh + 1 : Nat) : Int) := by unfold wrap64; omega
  clear N53 N54 N5r N3r N4r SZ H3b H4b H5b G3 G4 G5 HR HB HB5 HX HGR HSE hHeld
  go_wp2_with fail
  go_loopg [17] (gh + 1) (fun gg u17 wr => ∃ y : Nat, y ≤ gh + 1 ∧ gh + 1 - y ≤ gg ∧ u17 = .int .i64 y ∧ Aside0 (FSt w g5 (K34 g3 g4 gw gh S) (figRows gw gh S y) wr))
  case atStart => exact ⟨0, Nat.zero_le _, by omega, rfl, HI0⟩
  case round =>
    clear HI0 hc31
    obtain ⟨y, hy, hgg, rfl, HI⟩ := hrel
    by_cases hlt : y < gh + 1
    · have hltz : (y : Int) < (gh : Int) + 1 := by omega
      have HN := Aside0.mk (HI.out.grow 3 (.int .i64 (y : Int)))
      have hn30 := HN.out.cell (.inl (.inl ⟨rfl, rfl, rfl⟩))
      have hn31 := HN.out.cell (.inl (.inr (.inl ⟨rfl, rfl, rfl⟩)))
      have hn7 := HN.out.cell (.inr ⟨rfl, rfl, rfl⟩)
      have HL := figRows_len gw gh S y
      have HGW : Aside0 (gw ≤ 4 ∧ gh ≤ 4) := ⟨hgw, hgh⟩
      have HLN : Aside0 ((figRows gw gh S y).length ≤ 10) := ⟨by omega⟩
      have HY : Aside0 (y ≤ gh) := ⟨by omega⟩
      have hgz : wrap64 ((gw : Int) + 1) = ((gw + 1 : Nat) : Int) := by unfold wrap64; omega
      have hyz : wrap64 ((y : Int) + 1) = ((y + 1 : Nat) : Int) := by unfold wrap64; omega
      clear HL HI
      have tok0 : True := trivial
      by_cases c : y < gh
      · have HC := Aside0.mk c
        have cz : (y : Int) < (gh : Int) := by omega
        go_wp2_with (first
          | (go_at_fn 85; have _t := tok0; refine (HN.out.row HG5.out g4 S 45 (.inl (.inr (.inr ⟨rfl, rfl, rfl⟩))) gw (by have := HGW.out; omega) (levB gw gh S y) 86 #[.pointer (some ⟨g3, 0, none⟩), .pointer (some ⟨wr.heap.size, 0, none⟩)] (fun x => (impl_grid_level.f (gw : Int) (gh : Int) (x : Int) (y : Int)).getD 0) (fun x _ => rfl) eg2 (by have := HLN.out; omega) ?hL).mono ?_
             (case hL => exact fun W' hW x hx => figE_level _ _ _ _ _ g3 _ W' (hW _ _ _ (.inl (.inl ⟨rfl, rfl, rfl⟩))) (hW _ _ _ (.inl (.inr (.inl ⟨rfl, rfl, rfl⟩)))) (hW _ _ _ (.inr ⟨rfl, rfl, rfl⟩)) (HLV.out x y hx HY.out))
             rintro e w7 ⟨rfl, hst⟩
             have HM := Aside0.mk hst
             have hm30 := hst.cell (.inl (.inl ⟨rfl, rfl, rfl⟩))
             have hm31 := hst.cell (.inl (.inr (.inl ⟨rfl, rfl, rfl⟩)))
             have hm7 := hst.cell (.inr ⟨rfl, rfl, rfl⟩)
             clear hst hn30 hn31 hn7 _t tok0
             have tok1 : True := trivial)
          | (go_at_fn 85; have _t := tok1; refine (HM.out.row HG5.out g4 S 124 (.inl (.inr (.inr ⟨rfl, rfl, rfl⟩))) (gw + 1) (by have := HGW.out; omega) (uprB gw gh S y) 88 #[.pointer (some ⟨g3, 0, none⟩), .pointer (some ⟨wr.heap.size, 0, none⟩)] (fun x => (impl_grid_upright.f (gw : Int) (gh : Int) (x : Int) (y : Int)).getD 0) (fun x _ => rfl) eg3 (by have := HLN.out; simp only [List.length_append, List.length_singleton]; omega) ?hU).mono ?_
             (case hU => exact fun W' hW x hx => figE_upright _ _ _ _ _ g3 _ W' (hW _ _ _ (.inl (.inl ⟨rfl, rfl, rfl⟩))) (hW _ _ _ (.inl (.inr (.inl ⟨rfl, rfl, rfl⟩)))) (hW _ _ _ (.inr ⟨rfl, rfl, rfl⟩)) (HUV.out x y (by omega) HC.out))
             rintro e w8 ⟨rfl, hst⟩
             have HP := Aside0.mk hst
             clear hst hm30 hm31 hm7 _t tok1))
        go_roundg (gh + 1 - (y + 1))
        case measure => omega
        case rel => exact ⟨y + 1, by omega, by omega, by first | rfl | (exact congrArg _ hyz) | go_num, ⟨by unfold figRows; rw [if_pos HC.out]; exact HP.out.weak (fun b i v q => .inl q)⟩⟩
      · have HC := Aside0.mk c
        have cz : ¬ (y : Int) < (gh : Int) := by omega
        go_wp2_with (first
          | (go_at_fn 85; have _t := tok0; refine (HN.out.row HG5.out g4 S 45 (.inl (.inr (.inr ⟨rfl, rfl, rfl⟩))) gw (by have := HGW.out; omega) (levB gw gh S y) 86 #[.pointer (some ⟨g3, 0, none⟩), .pointer (some ⟨wr.heap.size, 0, none⟩)] (fun x => (impl_grid_level.f (gw : Int) (gh : Int) (x : Int) (y : Int)).getD 0) (fun x _ => rfl) eg2 (by have := HLN.out; omega) ?hL).mono ?_
             (case hL => exact fun W' hW x hx => figE_level _ _ _ _ _ g3 _ W' (hW _ _ _ (.inl (.inl ⟨rfl, rfl, rfl⟩))) (hW _ _ _ (.inl (.inr (.inl ⟨rfl, rfl, rfl⟩)))) (hW _ _ _ (.inr ⟨rfl, rfl, rfl⟩)) (HLV.out x y hx HY.out))
             rintro e w7 ⟨rfl, hst⟩
             have HM := Aside0.mk hst
             have hm30 := hst.cell (.inl (.inl ⟨rfl, rfl, rfl⟩))
             have hm31 := hst.cell (.inl (.inr (.inl ⟨rfl, rfl, rfl⟩)))
             have hm7 := hst.cell (.inr ⟨rfl, rfl, rfl⟩)
             clear hst hn30 hn31 hn7 _t tok0
             have tok1 : True := trivial))
        go_roundg (gh + 1 - (y + 1))
        case measure => omega
        case rel => exact ⟨y + 1, by omega, by omega, by first | rfl | (exact congrArg _ hyz) | go_num, ⟨by unfold figRows; rw [if_neg HC.out]; exact HM.out.weak (fun b i v q => .inl q)⟩⟩
    · obtain rfl : y = gh + 1 := by omega
      have hltz : ¬ (((gh + 1 : Nat) : Int)) < (gh : Int) + 1 := by omega
      obtain ⟨⟨O, hI, -⟩, hB⟩ := HI.out
      obtain ⟨v, c1, f1, hR, hO⟩ := hI
      obtain ⟨Av, cv, rfl⟩ := Kd.R_slice hR
      have HR := Aside0.mk hR
      have HB := Aside0.mk hB
      clear hR hB hO HI f1
      go_wp2_with (go_at_call 90; refine (HJ.out _ _ _ Av cv HR.out).mono ?_; rintro e w9 ⟨rfl, hb⟩; have HB9 := Aside0.mk (below_step HB.out hb); clear hb)
      go_ret
      exact ⟨rfl, HB9.out⟩
theorem join_len (sep : List UInt8) (m : Nat) : ∀ (xs : List (List UInt8)), (∀ x ∈ xs, x.length ≤ m) → (Lib.join xs sep).length ≤ xs.length * (m + sep.length) := by
  have tail : ∀ (r : List (List UInt8)), (∀ x ∈ r, x.length ≤ m) → (Lib.joinTail sep r).length ≤ r.length * (m + sep.length) := by
    intro r
    induction r with
    | nil => intro _; exact Nat.zero_le _
    | cons x r ih =>
      intro h
      have h1 := h x List.mem_cons_self
      have h2 := ih (fun y hy => h y (List.mem_cons_of_mem _ hy))
      unfold Lib.joinTail at h2 ⊢
      rw [List.map_cons, List.flatten_cons, List.length_append, List.length_append, List.length_cons, Nat.succ_mul]
      omega
  intro xs h
  cases xs with
  | nil => exact Nat.zero_le _
  | cons x r =>
    rw [Lib.join_cons, List.length_append, List.length_cons, Nat.succ_mul]
    have h1 := h x List.mem_cons_self
    have h2 := tail r (fun y hy => h y (List.mem_cons_of_mem _ hy))
    omega
theorem figRows_size (gw gh : Nat) (S : Int) : ∀ y, ∀ x ∈ figRows gw gh S y, x.size ≤ gw + 1
  | 0, x, h => by cases h
  | y + 1, x, h => by
    have ih := figRows_size gw gh S y
    have e1 : (levR gw gh S y).size = gw := by unfold levR; rw [strOfNums_size, rowF_len]
    have e2 : (uprR gw gh S y).size = gw + 1 := by unfold uprR; rw [strOfNums_size, rowF_len]
    unfold figRows at h
    split at h
    · rcases List.mem_append.1 h with h | h
      · rcases List.mem_append.1 h with h | h
        · exact ih x h
        · rw [List.mem_singleton.1 h]; omega
      · rw [List.mem_singleton.1 h]; omega
    · rcases List.mem_append.1 h with h | h
      · exact ih x h
      · rw [List.mem_singleton.1 h]; omega
def impl_figureText.f (k : Nat) (a0_0 a0_1 : Int) (l0_2 l0_3 : List Int) : Option ByteArray := (impl_Figure_set.f k a0_0 a0_1 l0_2 l0_3).bind fun S => if (1 ≤ a0_0 ∧ a0_0 ≤ 4) ∧ (1 ≤ a0_1 ∧ a0_1 ≤ 4) then some (joinB (figRows a0_0.toNat a0_1.toNat S (a0_1.toNat + 1)) ⟨#[47]⟩) else none
theorem impl_figureText.mono : ∀ a0 a1 a2 a3 k, LeO (impl_figureText.f k a0 a1 a2 a3) (impl_figureText.f (k + 1) a0 a1 a2 a3) := by
  intro a0 a1 a2 a3 k
  unfold impl_figureText.f
  exact LeO.bind (impl_Figure_set.mono _ _ _ _ _) (fun _ => LeO.refl _)
theorem impl_figureText.calls (k : Nat) (a0_0 : Int) (a0_1 : Int) (A0_2 : Option Addr) (c0_2 : Nat) (l0_2 : List Int) (A0_3 : Option Addr) (c0_3 : Nat) (l0_3 : List Int) (r : ByteArray) (w : World) (hr0_2 : Kd.C (Kd.int .i64) w A0_2 l0_2.length l0_2) (hc0_2 : l0_2.length ≤ c0_2) (hr0_3 : Kd.C (Kd.int .i64) w A0_3 l0_3.length l0_3) (hc0_3 : l0_3.length ≤ c0_3) (h : impl_figureText.f k a0_0 a0_1 l0_2 l0_3 = some r) :
    Calls Try.prog 38 #[.agg #[.int .i64 a0_0, .int .i64 a0_1, .slice A0_2 l0_2.length c0_2, .slice A0_3 l0_3.length c0_3]] w fun e w' => e = .returned (.string r) ∧ Below w.heap.size w w' := by
  unfold impl_figureText.f at h
  obtain ⟨S, h1, h⟩ := Option.bind_eq_some_iff.mp h
  split at h
  · rename_i hb
    obtain rfl := Option.some.inj h
    obtain ⟨gw, rfl⟩ := Int.eq_ofNat_of_zero_le (show 0 ≤ a0_0 by omega)
    obtain ⟨gh, rfl⟩ := Int.eq_ofNat_of_zero_le (show 0 ≤ a0_1 by omega)
    have g : GridOK (gw : Int) (gh : Int) := ⟨hb.1.1, hb.1.2, hb.2.1, hb.2.2⟩
    have hgw : gw ≤ 4 := by omega
    have hgh : gh ≤ 4 := by omega
    rw [Int.toNat_natCast, Int.toNat_natCast]
    have hlen := figRows_len gw gh S (gh + 1)
    refine figText_main gw gh hgw hgh A0_2 A0_3 c0_2 c0_3 l0_2 l0_3 S w ?_ ?_ ?_ ?_ (fun xs => joinB xs ⟨#[47]⟩) ?_
    · intro W' hW
      exact impl_Figure_grid.calls _ _ _ _ _ _ _ _ _ _ W' (Kd.C_below hr0_2 hW) hc0_2 (Kd.C_below hr0_3 hW) hc0_3 rfl
    · intro W' hW
      exact impl_Figure_set.calls k _ _ _ _ _ _ _ _ _ W' (Kd.C_below hr0_2 hW) hc0_2 (Kd.C_below hr0_3 hW) hc0_3 h1
    · intro x y hx hy
      rw [level_f g (Int.natCast_nonneg x) (by omega) (Int.natCast_nonneg y) (by omega)]
      rfl
    · intro x y hx hy
      rw [upright_f g (Int.natCast_nonneg x) (by omega) (Int.natCast_nonneg y) (by omega)]
      rfl
    · intro W base ok A c hR
      refine Join_any _ _ (by omega) ?_ W base ok A c hR
      have hj := join_len (⟨#[47]⟩ : ByteArray).data.toList 5 ((figRows gw gh S (gh + 1)).map (·.data.toList)) (fun x hx => by
        obtain ⟨b, hb2, rfl⟩ := List.mem_map.1 hx
        have := figRows_size gw gh S (gh + 1) b hb2
        have e : b.data.toList.length = b.size := by simp
        omega)
      rw [List.length_map] at hj
      have e1 : (⟨#[47]⟩ : ByteArray).data.toList.length = 1 := rfl
      rw [e1] at hj
      refine Nat.le_trans hj ?_
      have : (figRows gw gh S (gh + 1)).length * (5 + 1) ≤ 10 * 6 := Nat.mul_le_mul_right 6 (by omega)
      omega
  · cases h


def impl_FigureText.f (k : Nat) (a0_0 : Int) (a0_1 : Int) (l0_2 : List Int) (l0_3 : List Int) : Option (ByteArray × Bool) := (impl_IsFigure.f k a0_0 a0_1 l0_2 l0_3).bind fun t181 => (if t181 = true then ((impl_figureText.f k a0_0 a0_1 l0_2 l0_3).bind fun t182 => (some (t182, true))) else (some ((⟨#[]⟩ : ByteArray), false)))
theorem impl_FigureText.mono : ∀ a0 a1 a2 a3 k, LeO (impl_FigureText.f k a0 a1 a2 a3) (impl_FigureText.f (k + 1) a0 a1 a2 a3) := by
 intro a0 a1 a2 a3 k
 unfold impl_FigureText.f
 repeat' first
   | (with_reducible exact impl_IsFigure.mono _ _ _ _ _)
   | (with_reducible exact impl_figureText.mono _ _ _ _ _)
   | (with_reducible exact LeO.refl _)
   | (with_reducible exact LeO.none _)
   | (with_reducible refine LeO.ite ?_ ?_)
   | (with_reducible refine LeO.bind ?_ (fun _ => ?_))
   | exact impl_IsFigure.mono _ _ _ _ _
   | exact impl_figureText.mono _ _ _ _ _
   | exact LeO.none _
   | refine LeO.ite ?_ ?_
   | refine LeO.bind ?_ (fun _ => ?_)
set_option maxHeartbeats 8000000 in
set_option maxRecDepth 100000 in
theorem impl_FigureText.calls (k : Nat) (a0_0 : Int) (a0_1 : Int) (A0_2 : Option Addr) (c0_2 : Nat) (l0_2 : List Int) (A0_3 : Option Addr) (c0_3 : Nat) (l0_3 : List Int) (r1 : ByteArray) (r2 : Bool) (w : World) (hr0_2 : Kd.C (Kd.int .i64) w A0_2 l0_2.length l0_2) (hc0_2 : l0_2.length ≤ c0_2) (hr0_3 : Kd.C (Kd.int .i64) w A0_3 l0_3.length l0_3) (hc0_3 : l0_3.length ≤ c0_3) (h : impl_FigureText.f k a0_0 a0_1 l0_2 l0_3 = some (r1, r2)) :
  Calls Try.prog 13 #[.agg #[.int .i64 a0_0, .int .i64 a0_1, .slice A0_2 l0_2.length c0_2, .slice A0_3 l0_3.length c0_3]] w fun e w' => e = .returned (.tuple #[.string r1, .bool r2]) ∧ Below w.heap.size w w' := by
 have hu28 := Try.underlying28
 have HR0_2 := Aside0.mk hr0_2
 have HC0_2 := Aside0.mk hc0_2
 clear hr0_2 hc0_2
 have HR0_3 := Aside0.mk hr0_3
 have HC0_3 := Aside0.mk hc0_3
 clear hr0_3 hc0_3
 have HB := Aside0.mk (Below.refl w.heap.size w)
 have H : ((impl_IsFigure.f k a0_0 a0_1 l0_2 l0_3).bind fun t181 => (if t181 = true then ((impl_figureText.f k a0_0 a0_1 l0_2 l0_3).bind fun t182 => (some (t182, true))) else (some ((⟨#[]⟩ : ByteArray), false)))) = some (r1, r2) := h
 clear h
 replace H := Option.bind_eq_some_iff.mp H
 obtain ⟨t181, A20, H⟩ := H
 replace H : (if t181 = true then ((impl_figureText.f k a0_0 a0_1 l0_2 l0_3).bind fun t182 => (some (t182, true))) else (some ((⟨#[]⟩ : ByteArray), false))) = some (r1, r2) := H
 have A2 := Aside0.mk A20
 clear A20
 by_cases c3 : t181 = true
 ·subst c3
  have H1 : ((impl_figureText.f k a0_0 a0_1 l0_2 l0_3).bind fun t182 => (some (t182, true))) = some (r1, r2) := by rw [if_pos rfl] at H; exact H
  clear H
  have H := H1
  clear H1
  replace H := Option.bind_eq_some_iff.mp H
  obtain ⟨t182, A40, H⟩ := H
  replace H : (some (t182, true)) = some (r1, r2) := H
  have A4 := Aside0.mk A40
  clear A40
  simp only [Option.some.injEq, Prod.mk.injEq] at H
  obtain ⟨rfl, rfl⟩ := H
  go_enter Try.func13, Try.ntmps13
  go_wp2_with (first | ((with_reducible refine gate_dst (N := 1) rfl ?_); refine boxE_ (N := 1) (cs := #[.int .i64 a0_0, .int .i64 a0_1, .slice A0_2 l0_2.length c0_2, .slice A0_3 l0_3.length c0_3]) (t := 28) ?_; intro gb180 hg w5 hbox hb; have n0_ := Aside0.mk (below_step (bl0_ HB.out) hb); have n1_ := Aside0.mk (hbox); have n2_ := Aside0.mk ((bs0_ hg HB.out : w.heap.size ≤ gb180)); have n3_ := Aside0.mk ((bs0_ hg HB.out : w.heap.size ≤ gb180)); clear HB; have HB := n0_; have BK180 := n1_; have GW180 := n2_; have GE180 := n3_; clear n0_ n1_ n2_ n3_; clear hb hbox hg; have hcz6_0 : w5.cell? ⟨gb180, 0, none⟩ = some (.int .i64 a0_0) := (blk_cell BK180.out 0).trans rfl; have hcz6_1 : w5.cell? ⟨gb180, 1, none⟩ = some (.int .i64 a0_1) := (blk_cell BK180.out 1).trans rfl; have hcz6_2 : w5.cell? ⟨gb180, 2, none⟩ = some (.slice A0_2 l0_2.length c0_2) := (blk_cell BK180.out 2).trans rfl; have hcz6_3 : w5.cell? ⟨gb180, 3, none⟩ = some (.slice A0_3 l0_3.length c0_3) := (blk_cell BK180.out 3).trans rfl; have hfz6_0 := blk_frozen BK180.out 0; have hfz6_1 := blk_frozen BK180.out 1; have hfz6_2 := blk_frozen BK180.out 2; have hfz6_3 := blk_frozen BK180.out 3) | ((with_reducible refine gate_callee (f := 37) rfl ?_); refine goesL_ (some 5) rfl rfl Try.func37 (by kernel_rfl) rfl #[.agg #[.int .i64 a0_0, .int .i64 a0_1, .slice A0_2 l0_2.length c0_2, .slice A0_3 l0_3.length c0_3]] rfl ob_ ?_; (with_reducible refine (impl_IsFigure.calls k a0_0 a0_1 _ _ l0_2 _ _ l0_3 true _ ?side1 ?side2 ?side3 ?side4 A2.out).mono ?_); (case side1 => exact kc_ (Kd.C_below HR0_2.out HB.out)); (case side2 => exact HC0_2.out); (case side3 => exact kc_ (Kd.C_below HR0_3.out HB.out)); (case side4 => exact HC0_3.out); rintro e w7 ⟨rfl, hb⟩; refine ⟨_, rfl, ?_⟩; have n0_ := Aside0.mk (bb_ BK180.out hb); have n1_ := Aside0.mk (below_step (bl1_ HB.out GE180.out) hb); clear BK180; clear HB; have BK180 := n0_; have HB := n1_; clear n0_ n1_; (try clear hb); (try clear hb2); (try clear hk); (try clear hi); have hcz8_0 : w7.cell? ⟨gb180, 0, none⟩ = some (.int .i64 a0_0) := (blk_cell BK180.out 0).trans rfl; have hcz8_1 : w7.cell? ⟨gb180, 1, none⟩ = some (.int .i64 a0_1) := (blk_cell BK180.out 1).trans rfl; have hcz8_2 : w7.cell? ⟨gb180, 2, none⟩ = some (.slice A0_2 l0_2.length c0_2) := (blk_cell BK180.out 2).trans rfl; have hcz8_3 : w7.cell? ⟨gb180, 3, none⟩ = some (.slice A0_3 l0_3.length c0_3) := (blk_cell BK180.out 3).trans rfl; have hfz8_0 := blk_frozen BK180.out 0; have hfz8_1 := blk_frozen BK180.out 1; have hfz8_2 := blk_frozen BK180.out 2; have hfz8_3 := blk_frozen BK180.out 3) | ((with_reducible refine gate_callee (f := 38) rfl ?_); refine goesL_ (some 8) rfl rfl Try.func38 (by kernel_rfl) rfl #[.agg #[.int .i64 a0_0, .int .i64 a0_1, .slice A0_2 l0_2.length c0_2, .slice A0_3 l0_3.length c0_3]] rfl ob_ ?_; (with_reducible refine (impl_figureText.calls k a0_0 a0_1 _ _ l0_2 _ _ l0_3 t182 _ ?side1 ?side2 ?side3 ?side4 A4.out).mono ?_); (case side1 => exact kc_ (Kd.C_below HR0_2.out HB.out)); (case side2 => exact HC0_2.out); (case side3 => exact kc_ (Kd.C_below HR0_3.out HB.out)); (case side4 => exact HC0_3.out); rintro e w9 ⟨rfl, hb⟩; refine ⟨_, rfl, ?_⟩; have n0_ := Aside0.mk (bb_ BK180.out hb); have n1_ := Aside0.mk (below_step (bl1_ HB.out GE180.out) hb); clear BK180; clear HB; have BK180 := n0_; have HB := n1_; clear n0_ n1_; (try clear hb); (try clear hb2); (try clear hk); (try clear hi)))
  go_ret2
  exact ⟨er_, bl1_ HB.out GE180.out⟩
 ·replace c3 := Bool.eq_false_iff.mpr c3
  subst c3
  have H1 : (some ((⟨#[]⟩ : ByteArray), false)) = some (r1, r2) := by rw [if_neg (show ¬ (false = true) by decide)] at H; exact H
  clear H
  have H := H1
  clear H1
  simp only [Option.some.injEq, Prod.mk.injEq] at H
  obtain ⟨rfl, rfl⟩ := H
  go_enter Try.func13, Try.ntmps13
  go_wp2_with (first | ((with_reducible refine gate_dst (N := 1) rfl ?_); refine boxE_ (N := 1) (cs := #[.int .i64 a0_0, .int .i64 a0_1, .slice A0_2 l0_2.length c0_2, .slice A0_3 l0_3.length c0_3]) (t := 28) ?_; intro gb180 hg w10 hbox hb; have n0_ := Aside0.mk (below_step (bl0_ HB.out) hb); have n1_ := Aside0.mk (hbox); have n2_ := Aside0.mk ((bs0_ hg HB.out : w.heap.size ≤ gb180)); have n3_ := Aside0.mk ((bs0_ hg HB.out : w.heap.size ≤ gb180)); clear HB; have HB := n0_; have BK180 := n1_; have GW180 := n2_; have GE180 := n3_; clear n0_ n1_ n2_ n3_; clear hb hbox hg; have hcz11_0 : w10.cell? ⟨gb180, 0, none⟩ = some (.int .i64 a0_0) := (blk_cell BK180.out 0).trans rfl; have hcz11_1 : w10.cell? ⟨gb180, 1, none⟩ = some (.int .i64 a0_1) := (blk_cell BK180.out 1).trans rfl; have hcz11_2 : w10.cell? ⟨gb180, 2, none⟩ = some (.slice A0_2 l0_2.length c0_2) := (blk_cell BK180.out 2).trans rfl; have hcz11_3 : w10.cell? ⟨gb180, 3, none⟩ = some (.slice A0_3 l0_3.length c0_3) := (blk_cell BK180.out 3).trans rfl; have hfz11_0 := blk_frozen BK180.out 0; have hfz11_1 := blk_frozen BK180.out 1; have hfz11_2 := blk_frozen BK180.out 2; have hfz11_3 := blk_frozen BK180.out 3) | ((with_reducible refine gate_callee (f := 37) rfl ?_); refine goesL_ (some 5) rfl rfl Try.func37 (by kernel_rfl) rfl #[.agg #[.int .i64 a0_0, .int .i64 a0_1, .slice A0_2 l0_2.length c0_2, .slice A0_3 l0_3.length c0_3]] rfl ob_ ?_; (with_reducible refine (impl_IsFigure.calls k a0_0 a0_1 _ _ l0_2 _ _ l0_3 false _ ?side1 ?side2 ?side3 ?side4 A2.out).mono ?_); (case side1 => exact kc_ (Kd.C_below HR0_2.out HB.out)); (case side2 => exact HC0_2.out); (case side3 => exact kc_ (Kd.C_below HR0_3.out HB.out)); (case side4 => exact HC0_3.out); rintro e w12 ⟨rfl, hb⟩; refine ⟨_, rfl, ?_⟩; have n0_ := Aside0.mk (bb_ BK180.out hb); have n1_ := Aside0.mk (below_step (bl1_ HB.out GE180.out) hb); clear BK180; clear HB; have BK180 := n0_; have HB := n1_; clear n0_ n1_; (try clear hb); (try clear hb2); (try clear hk); (try clear hi)))
  go_ret2
  exact ⟨er_, bl1_ HB.out GE180.out⟩


mutual
def spec_fiText.l0 : Nat → ByteArray → Int → Int → Int → List Int → List Int → Option (ByteArray)
 | 0, _, _, _, _, _, _ => none
 | k + 1, x3, x4, x127000, x127001, x127002, x127003 => if x4 ≤ x127001 then (if x4 > 0 then (if x3.size + 1 ≤ 9223372036854775807 then (spec_fiText.j1 k (x3 ++ (⟨#[47]⟩ : ByteArray)) x4 x127000 x127001 x127002 x127003) else (none)) else (spec_fiText.j1 k x3 x4 x127000 x127001 x127002 x127003)) else (some x3)
def spec_fiText.j1 : Nat → ByteArray → Int → Int → Int → List Int → List Int → Option (ByteArray)
 | 0, _, _, _, _, _, _ => none
 | k + 1, x3, x4, x127000, x127001, x127002, x127003 => spec_fiText.l1 k x3 x4 0 x127000 x127001 x127002 x127003
def spec_fiText.l1 : Nat → ByteArray → Int → Int → Int → Int → List Int → List Int → Option (ByteArray)
 | 0, _, _, _, _, _, _, _ => none
 | k + 1, x3, x4, x5, x127000, x127001, x127002, x127003 => if x5 < x127000 then ((spec_fiHas.f k x127000 x127001 x127002 x127003 false x5 x4).bind fun t127 => (if t127 = true then (if x3.size + 1 ≤ 9223372036854775807 then (spec_fiText.l1 k (x3 ++ (⟨#[45]⟩ : ByteArray)) x4 (wrap64 (x5 + 1)) x127000 x127001 x127002 x127003) else (none)) else (if x3.size + 1 ≤ 9223372036854775807 then (spec_fiText.l1 k (x3 ++ (⟨#[46]⟩ : ByteArray)) x4 (wrap64 (x5 + 1)) x127000 x127001 x127002 x127003) else (none)))) else (if x4 = x127001 then (some x3) else (if x3.size + 1 ≤ 9223372036854775807 then (spec_fiText.l2 k (x3 ++ (⟨#[47]⟩ : ByteArray)) x4 0 x127000 x127001 x127002 x127003) else (none)))
def spec_fiText.l2 : Nat → ByteArray → Int → Int → Int → Int → List Int → List Int → Option (ByteArray)
 | 0, _, _, _, _, _, _, _ => none
 | k + 1, x3, x4, x6, x127000, x127001, x127002, x127003 => if x6 ≤ x127000 then ((spec_fiHas.f k x127000 x127001 x127002 x127003 true x6 x4).bind fun t128 => (if t128 = true then (if x3.size + 1 ≤ 9223372036854775807 then (spec_fiText.l2 k (x3 ++ (⟨#[124]⟩ : ByteArray)) x4 (wrap64 (x6 + 1)) x127000 x127001 x127002 x127003) else (none)) else (if x3.size + 1 ≤ 9223372036854775807 then (spec_fiText.l2 k (x3 ++ (⟨#[46]⟩ : ByteArray)) x4 (wrap64 (x6 + 1)) x127000 x127001 x127002 x127003) else (none)))) else (spec_fiText.l0 k x3 (wrap64 (x4 + 1)) x127000 x127001 x127002 x127003)
end
def spec_fiText.f (k : Nat) (a0_0 : Int) (a0_1 : Int) (l0_2 : List Int) (l0_3 : List Int) : Option (ByteArray) := spec_fiText.l0 k (⟨#[]⟩ : ByteArray) 0 a0_0 a0_1 l0_2 l0_3
theorem spec_fiText.mono_l : ∀ k, (∀ y0 y1 y2 y3 y4 y5, LeO (spec_fiText.l0 k y0 y1 y2 y3 y4 y5) (spec_fiText.l0 (k + 1) y0 y1 y2 y3 y4 y5)) ∧ (∀ y0 y1 y2 y3 y4 y5, LeO (spec_fiText.j1 k y0 y1 y2 y3 y4 y5) (spec_fiText.j1 (k + 1) y0 y1 y2 y3 y4 y5)) ∧ (∀ y0 y1 y2 y3 y4 y5 y6, LeO (spec_fiText.l1 k y0 y1 y2 y3 y4 y5 y6) (spec_fiText.l1 (k + 1) y0 y1 y2 y3 y4 y5 y6)) ∧ (∀ y0 y1 y2 y3 y4 y5 y6, LeO (spec_fiText.l2 k y0 y1 y2 y3 y4 y5 y6) (spec_fiText.l2 (k + 1) y0 y1 y2 y3 y4 y5 y6))
 | 0 => ⟨fun _ _ _ _ _ _ r h => by simp [spec_fiText.l0] at h, fun _ _ _ _ _ _ r h => by simp [spec_fiText.j1] at h, fun _ _ _ _ _ _ _ r h => by simp [spec_fiText.l1] at h, fun _ _ _ _ _ _ _ r h => by simp [spec_fiText.l2] at h⟩
 | k + 1 => by
  obtain ⟨ih0, ih1, ih2, ih3⟩ := spec_fiText.mono_l k
  refine ⟨?_, ?_, ?_, ?_⟩
  ·intro y0 y1 y2 y3 y4 y5
   unfold spec_fiText.l0
   repeat' first
   | (with_reducible exact ih0 _ _ _ _ _ _)
   | (with_reducible exact ih1 _ _ _ _ _ _)
   | (with_reducible exact ih2 _ _ _ _ _ _ _)
   | (with_reducible exact ih3 _ _ _ _ _ _ _)
   | (with_reducible exact spec_fiHas.mono _ _ _ _ _ _ _ _)
   | (with_reducible exact LeO.refl _)
   | (with_reducible exact LeO.none _)
   | (with_reducible refine LeO.ite ?_ ?_)
   | (with_reducible refine LeO.bind ?_ (fun _ => ?_))
   | exact ih0 _ _ _ _ _ _
   | exact ih1 _ _ _ _ _ _
   | exact ih2 _ _ _ _ _ _ _
   | exact ih3 _ _ _ _ _ _ _
   | exact spec_fiHas.mono _ _ _ _ _ _ _ _
   | exact LeO.none _
   | refine LeO.ite ?_ ?_
   | refine LeO.bind ?_ (fun _ => ?_)
  ·intro y0 y1 y2 y3 y4 y5
   unfold spec_fiText.j1
   repeat' first
   | (with_reducible exact ih0 _ _ _ _ _ _)
   | (with_reducible exact ih1 _ _ _ _ _ _)
   | (with_reducible exact ih2 _ _ _ _ _ _ _)
   | (with_reducible exact ih3 _ _ _ _ _ _ _)
   | (with_reducible exact spec_fiHas.mono _ _ _ _ _ _ _ _)
   | (with_reducible exact LeO.refl _)
   | (with_reducible exact LeO.none _)
   | (with_reducible refine LeO.ite ?_ ?_)
   | (with_reducible refine LeO.bind ?_ (fun _ => ?_))
   | exact ih0 _ _ _ _ _ _
   | exact ih1 _ _ _ _ _ _
   | exact ih2 _ _ _ _ _ _ _
   | exact ih3 _ _ _ _ _ _ _
   | exact spec_fiHas.mono _ _ _ _ _ _ _ _
   | exact LeO.none _
   | refine LeO.ite ?_ ?_
   | refine LeO.bind ?_ (fun _ => ?_)
  ·intro y0 y1 y2 y3 y4 y5 y6
   unfold spec_fiText.l1
   repeat' first
   | (with_reducible exact ih0 _ _ _ _ _ _)
   | (with_reducible exact ih1 _ _ _ _ _ _)
   | (with_reducible exact ih2 _ _ _ _ _ _ _)
   | (with_reducible exact ih3 _ _ _ _ _ _ _)
   | (with_reducible exact spec_fiHas.mono _ _ _ _ _ _ _ _)
   | (with_reducible exact LeO.refl _)
   | (with_reducible exact LeO.none _)
   | (with_reducible refine LeO.ite ?_ ?_)
   | (with_reducible refine LeO.bind ?_ (fun _ => ?_))
   | exact ih0 _ _ _ _ _ _
   | exact ih1 _ _ _ _ _ _
   | exact ih2 _ _ _ _ _ _ _
   | exact ih3 _ _ _ _ _ _ _
   | exact spec_fiHas.mono _ _ _ _ _ _ _ _
   | exact LeO.none _
   | refine LeO.ite ?_ ?_
   | refine LeO.bind ?_ (fun _ => ?_)
  ·intro y0 y1 y2 y3 y4 y5 y6
   unfold spec_fiText.l2
   repeat' first
   | (with_reducible exact ih0 _ _ _ _ _ _)
   | (with_reducible exact ih1 _ _ _ _ _ _)
   | (with_reducible exact ih2 _ _ _ _ _ _ _)
   | (with_reducible exact ih3 _ _ _ _ _ _ _)
   | (with_reducible exact spec_fiHas.mono _ _ _ _ _ _ _ _)
   | (with_reducible exact LeO.refl _)
   | (with_reducible exact LeO.none _)
   | (with_reducible refine LeO.ite ?_ ?_)
   | (with_reducible refine LeO.bind ?_ (fun _ => ?_))
   | exact ih0 _ _ _ _ _ _
   | exact ih1 _ _ _ _ _ _
   | exact ih2 _ _ _ _ _ _ _
   | exact ih3 _ _ _ _ _ _ _
   | exact spec_fiHas.mono _ _ _ _ _ _ _ _
   | exact LeO.none _
   | refine LeO.ite ?_ ?_
   | refine LeO.bind ?_ (fun _ => ?_)
theorem spec_fiText.mono : ∀ a0 a1 a2 a3 k, LeO (spec_fiText.f k a0 a1 a2 a3) (spec_fiText.f (k + 1) a0 a1 a2 a3) := by
 intro a0 a1 a2 a3 k
 obtain ⟨ih0, ih1, ih2, ih3⟩ := spec_fiText.mono_l k
 unfold spec_fiText.f
 repeat' first
   | (with_reducible exact ih0 _ _ _ _ _ _)
   | (with_reducible exact ih1 _ _ _ _ _ _)
   | (with_reducible exact ih2 _ _ _ _ _ _ _)
   | (with_reducible exact ih3 _ _ _ _ _ _ _)
   | (with_reducible exact spec_fiHas.mono _ _ _ _ _ _ _ _)
   | (with_reducible exact LeO.refl _)
   | (with_reducible exact LeO.none _)
   | (with_reducible refine LeO.ite ?_ ?_)
   | (with_reducible refine LeO.bind ?_ (fun _ => ?_))
   | exact ih0 _ _ _ _ _ _
   | exact ih1 _ _ _ _ _ _
   | exact ih2 _ _ _ _ _ _ _
   | exact ih3 _ _ _ _ _ _ _
   | exact spec_fiHas.mono _ _ _ _ _ _ _ _
   | exact LeO.none _
   | refine LeO.ite ?_ ?_
   | refine LeO.bind ?_ (fun _ => ?_)
set_option maxHeartbeats 8000000 in
set_option maxRecDepth 100000 in
theorem spec_fiText.calls (k : Nat) (a0_0 : Int) (a0_1 : Int) (A0_2 : Option Addr) (c0_2 : Nat) (l0_2 : List Int) (A0_3 : Option Addr) (c0_3 : Nat) (l0_3 : List Int) (r : ByteArray) (w : World) (hr0_2 : Kd.C (Kd.int .i64) w A0_2 l0_2.length l0_2) (hc0_2 : l0_2.length ≤ c0_2) (hr0_3 : Kd.C (Kd.int .i64) w A0_3 l0_3.length l0_3) (hc0_3 : l0_3.length ≤ c0_3) (h : spec_fiText.f k a0_0 a0_1 l0_2 l0_3 = some r) :
  Calls Try.prog 35 #[.agg #[.int .i64 a0_0, .int .i64 a0_1, .slice A0_2 l0_2.length c0_2, .slice A0_3 l0_3.length c0_3]] w fun e w' => e = .returned (.string r) ∧ Below w.heap.size w w' := by
 have hu28 := Try.underlying28
 have HR0_2 := Aside0.mk hr0_2
 have HC0_2 := Aside0.mk hc0_2
 clear hr0_2 hc0_2
 have HR0_3 := Aside0.mk hr0_3
 have HC0_3 := Aside0.mk hc0_3
 clear hr0_3 hc0_3
 have HB := Aside0.mk (Below.refl w.heap.size w)
 have H : (spec_fiText.l0 k (⟨#[]⟩ : ByteArray) 0 a0_0 a0_1 l0_2 l0_3) = some r := h
 clear h
 have H' := Aside0.mk H
 clear H
 go_enter Try.func35, Try.ntmps35
 go_wp2_with (first | ((with_reducible refine gate_dst (N := 1) rfl ?_); refine boxE_ (N := 1) (cs := #[.int .i64 a0_0, .int .i64 a0_1, .slice A0_2 l0_2.length c0_2, .slice A0_3 l0_3.length c0_3]) (t := 28) ?_; intro gb126 hg w2 hbox hb; have n0_ := Aside0.mk (below_step (bl0_ HB.out) hb); have n1_ := Aside0.mk (hbox); have n2_ := Aside0.mk ((bs0_ hg HB.out : w.heap.size ≤ gb126)); have n3_ := Aside0.mk ((bs0_ hg HB.out : w.heap.size ≤ gb126)); clear HB; have HB := n0_; have BK126 := n1_; have GW126 := n2_; have GE126 := n3_; clear n0_ n1_ n2_ n3_; clear hb hbox hg))
 go_loopg [3, 4] k (fun kq v3 v4 w' => ∃ (x3_1 : ByteArray) (x4_1 : Int), v3 = .string x3_1 ∧ v4 = .int .i64 x4_1 ∧ Aside0 (spec_fiText.l0 kq x3_1 x4_1 a0_0 a0_1 l0_2 l0_3 = some r) ∧ Aside0 (kq ≤ k) ∧ Aside0 (w'.heap[gb126]? = some (.cells #[.int .i64 a0_0, .int .i64 a0_1, (.slice A0_2 l0_2.length c0_2), (.slice A0_3 l0_3.length c0_3)] 28 (0, 0))) ∧ Aside0 (Below w.heap.size w w'))
 case atStart => exact ⟨((⟨#[]⟩ : ByteArray)), (0), rs_, rs_, H', ⟨Nat.le_refl _⟩, ⟨bk_ BK126.out⟩, ⟨bl1_ HB.out GE126.out⟩⟩
 case round =>
  clear H'
  try clear p2
  obtain ⟨x3_1, x4_1, rfl, rfl, HA, HK1, BK126, HB⟩ := hrel
  cases gk with
  | zero => exact absurd HA.out (by simp [spec_fiText.l0])
  | succ k1 =>
   have H := HA.out
   clear HA
   simp only [spec_fiText.l0] at H
   by_cases c3 : x4_1 ≤ a0_1
   ·rw [if_pos c3] at H
    have c3b0 : decide (x4_1 ≤ a0_1) = true := decide_eq_true c3
    clear c3
    have HC4 := Aside0.mk H
    clear H
    have hcz5_0 : wr.cell? ⟨gb126, 0, none⟩ = some (.int .i64 a0_0) := (blk_cell BK126.out 0).trans rfl
    have hcz5_1 : wr.cell? ⟨gb126, 1, none⟩ = some (.int .i64 a0_1) := (blk_cell BK126.out 1).trans rfl
    have hcz5_2 : wr.cell? ⟨gb126, 2, none⟩ = some (.slice A0_2 l0_2.length c0_2) := (blk_cell BK126.out 2).trans rfl
    have hcz5_3 : wr.cell? ⟨gb126, 3, none⟩ = some (.slice A0_3 l0_3.length c0_3) := (blk_cell BK126.out 3).trans rfl
    have hfz5_0 := blk_frozen BK126.out 0
    have hfz5_1 := blk_frozen BK126.out 1
    have hfz5_2 := blk_frozen BK126.out 2
    have hfz5_3 := blk_frozen BK126.out 3
    go_upto_if 14 with (fail)
    go_cut [3] (fun v3 wc => ∃ (kq : Nat) (x3_3 : ByteArray), v3 = .string x3_3 ∧ Aside0 (spec_fiText.j1 kq x3_3 x4_1 a0_0 a0_1 l0_2 l0_3 = some r) ∧ Aside0 (kq ≤ k1) ∧ Aside0 (wc.heap[gb126]? = some (.cells #[.int .i64 a0_0, .int .i64 a0_1, (.slice A0_2 l0_2.length c0_2), (.slice A0_3 l0_3.length c0_3)] 28 (0, 0))) ∧ Aside0 (Below w.heap.size w wc))
    case first =>
     have H := HC4.out
     clear HC4
     by_cases c6 : x4_1 > 0
     ·rw [if_pos c6] at H
      have c6b0 : decide (0 < x4_1) = true := decide_eq_true c6
      clear c6
      (first | rw [c6b0] | (simp only [i64_w, i32_w]; rw [c6b0]) | skip)
      by_cases c7 : x3_1.size + 1 ≤ 9223372036854775807
      ·rw [if_pos c7] at H
       have c7b0 := eq_true c7
       have c7b1 : decide (x3_1.size + 1 ≤ 9223372036854775807) = true := decide_eq_true c7
       try have c7b2 : (9223372036854775807 < x3_1.size + 1) = False := eq_false (Nat.not_lt.2 c7)
       have H' := Aside0.mk H
       clear H
       go_wp2
       go_meet
       case rel => exact ⟨_, (x3_1 ++ (⟨#[47]⟩ : ByteArray)), rs_, H', ⟨by have := HK1.out; first | omega | exact Nat.le_refl _⟩, ⟨bk_ BK126.out⟩, ⟨bl1_ HB.out GE126.out⟩⟩
      ·rw [if_neg c7] at H
       exact absurd H (by simp)
     ·rw [if_neg c6] at H
      have c6b0 : decide (0 < x4_1) = false := decide_eq_false c6
      clear c6
      (first | rw [c6b0] | (simp only [i64_w, i32_w]; rw [c6b0]) | skip)
      have H' := Aside0.mk H
      clear H
      go_wp2
      go_meet
      case rel => exact ⟨_, (x3_1), rs_, H', ⟨by have := HK1.out; first | omega | exact Nat.le_refl _⟩, ⟨bk_ BK126.out⟩, ⟨bl1_ HB.out GE126.out⟩⟩
    case rest =>
     clear HC4
     try clear p2
     try clear c3
     try clear c3b0
     try clear c6
     try clear c6b0
     try clear c7
     try clear c7b0
     try clear c7b1
     try clear c7b2
     try clear hcz5_0
     try clear hcz5_1
     try clear hcz5_2
     try clear hcz5_3
     try clear hfz5_0
     try clear hfz5_1
     try clear hfz5_2
     try clear hfz5_3
     try clear p2
     obtain ⟨kq, x3_3, rfl, HA, HJ3, BK126, HB⟩ := hcut
     cases kq with
     | zero => exact absurd HA.out (by simp [spec_fiText.j1])
     | succ kj3 =>
      have H := HA.out
      clear HA
      simp only [spec_fiText.j1] at H
      have H' := Aside0.mk H
      clear H
      go_wp2
      go_loopg [3, 5] kj3 (fun kq v3 v5 w' => ∃ (x3_3 : ByteArray) (x5_3 : Int), v3 = .string x3_3 ∧ v5 = .int .i64 x5_3 ∧ Aside0 (spec_fiText.l1 kq x3_3 x4_1 x5_3 a0_0 a0_1 l0_2 l0_3 = some r) ∧ Aside0 (kq ≤ kj3) ∧ Aside0 (w'.heap[gb126]? = some (.cells #[.int .i64 a0_0, .int .i64 a0_1, (.slice A0_2 l0_2.length c0_2), (.slice A0_3 l0_3.length c0_3)] 28 (0, 0))) ∧ Aside0 (Below w.heap.size w w'))
      case atStart => exact ⟨(x3_3), (0), rs_, rs_, H', ⟨Nat.le_refl _⟩, ⟨bk_ BK126.out⟩, ⟨bl1_ HB.out GE126.out⟩⟩
      case round =>
       clear H'
       try clear p2
       try clear c3
       try clear c3b0
       try clear c6
       try clear c6b0
       try clear c7
       try clear c7b0
       try clear c7b1
       try clear c7b2
       try clear hcz5_0
       try clear hcz5_1
       try clear hcz5_2
       try clear hcz5_3
       try clear hfz5_0
       try clear hfz5_1
       try clear hfz5_2
       try clear hfz5_3
       try clear p2
       obtain ⟨x3_3, x5_3, rfl, rfl, HA, HK3, BK126, HB⟩ := hrel
       cases gk with
       | zero => exact absurd HA.out (by simp [spec_fiText.l1])
       | succ k3 =>
        have H := HA.out
        clear HA
        simp only [spec_fiText.l1] at H
        by_cases c8 : x5_3 < a0_0
        ·rw [if_pos c8] at H
         have c8b0 : decide (x5_3 < a0_0) = true := decide_eq_true c8
         clear c8
         replace H := Option.bind_eq_some_iff.mp H
         obtain ⟨t127, A90, H⟩ := H
         replace H : (if t127 = true then (if x3_3.size + 1 ≤ 9223372036854775807 then (spec_fiText.l1 k3 (x3_3 ++ (⟨#[45]⟩ : ByteArray)) x4_1 (wrap64 (x5_3 + 1)) a0_0 a0_1 l0_2 l0_3) else (none)) else (if x3_3.size + 1 ≤ 9223372036854775807 then (spec_fiText.l1 k3 (x3_3 ++ (⟨#[46]⟩ : ByteArray)) x4_1 (wrap64 (x5_3 + 1)) a0_0 a0_1 l0_2 l0_3) else (none))) = some r := H
         have A9 := Aside0.mk A90
         clear A90
         by_cases c10 : t127 = true
         ·subst c10
          have H1 : (if x3_3.size + 1 ≤ 9223372036854775807 then (spec_fiText.l1 k3 (x3_3 ++ (⟨#[45]⟩ : ByteArray)) x4_1 (wrap64 (x5_3 + 1)) a0_0 a0_1 l0_2 l0_3) else (none)) = some r := by rw [if_pos rfl] at H; exact H
          clear H
          have H := H1
          clear H1
          by_cases c11 : x3_3.size + 1 ≤ 9223372036854775807
          ·rw [if_pos c11] at H
           have c11b0 := eq_true c11
           have c11b1 : decide (x3_3.size + 1 ≤ 9223372036854775807) = true := decide_eq_true c11
           try have c11b2 : (9223372036854775807 < x3_3.size + 1) = False := eq_false (Nat.not_lt.2 c11)
           have H' := Aside0.mk H
           clear H
           have hcz12_0 : wr.cell? ⟨gb126, 0, none⟩ = some (.int .i64 a0_0) := (blk_cell BK126.out 0).trans rfl
           have hcz12_1 : wr.cell? ⟨gb126, 1, none⟩ = some (.int .i64 a0_1) := (blk_cell BK126.out 1).trans rfl
           have hcz12_2 : wr.cell? ⟨gb126, 2, none⟩ = some (.slice A0_2 l0_2.length c0_2) := (blk_cell BK126.out 2).trans rfl
           have hcz12_3 : wr.cell? ⟨gb126, 3, none⟩ = some (.slice A0_3 l0_3.length c0_3) := (blk_cell BK126.out 3).trans rfl
           have hfz12_0 := blk_frozen BK126.out 0
           have hfz12_1 := blk_frozen BK126.out 1
           have hfz12_2 := blk_frozen BK126.out 2
           have hfz12_3 := blk_frozen BK126.out 3
           go_wp2_with (first | ((with_reducible refine gate_callee (f := 78) rfl ?_); refine goesL_ (some 26) rfl rfl Try.func78 (by kernel_rfl) rfl #[.agg #[.int .i64 a0_0, .int .i64 a0_1, .slice A0_2 l0_2.length c0_2, .slice A0_3 l0_3.length c0_3], .bool false, .int .i64 x5_3, .int .i64 x4_1] rfl ob_ ?_; (with_reducible refine (spec_fiHas.calls k3 a0_0 a0_1 _ _ l0_2 _ _ l0_3 false x5_3 x4_1 true _ ?side1 ?side2 ?side3 ?side4 A9.out).mono ?_); (case side1 => exact kc_ (Kd.C_below HR0_2.out HB.out)); (case side2 => exact HC0_2.out); (case side3 => exact kc_ (Kd.C_below HR0_3.out HB.out)); (case side4 => exact HC0_3.out); rintro e w13 ⟨rfl, hb⟩; refine ⟨_, rfl, ?_⟩; have n0_ := Aside0.mk (bb_ BK126.out hb); have n1_ := Aside0.mk (below_step (bl1_ HB.out GE126.out) hb); clear BK126; clear HB; have BK126 := n0_; have HB := n1_; clear n0_ n1_; (try clear hb); (try clear hb2); (try clear hk); (try clear hi)))
           go_roundg k3
           case measure => have := HK1.out; have := HJ3.out; have := HK3.out; omega
           case rel => exact ⟨(x3_3 ++ (⟨#[45]⟩ : ByteArray)), (wrap64 (x5_3 + 1)), rs_, rs_, H', ⟨by have := HK1.out; have := HJ3.out; have := HK3.out; omega⟩, ⟨bk_ BK126.out⟩, ⟨bl1_ HB.out GE126.out⟩⟩
          ·rw [if_neg c11] at H
           exact absurd H (by simp)
         ·replace c10 := Bool.eq_false_iff.mpr c10
          subst c10
          have H1 : (if x3_3.size + 1 ≤ 9223372036854775807 then (spec_fiText.l1 k3 (x3_3 ++ (⟨#[46]⟩ : ByteArray)) x4_1 (wrap64 (x5_3 + 1)) a0_0 a0_1 l0_2 l0_3) else (none)) = some r := by rw [if_neg (show ¬ (false = true) by decide)] at H; exact H
          clear H
          have H := H1
          clear H1
          by_cases c14 : x3_3.size + 1 ≤ 9223372036854775807
          ·rw [if_pos c14] at H
           have c14b0 := eq_true c14
           have c14b1 : decide (x3_3.size + 1 ≤ 9223372036854775807) = true := decide_eq_true c14
           try have c14b2 : (9223372036854775807 < x3_3.size + 1) = False := eq_false (Nat.not_lt.2 c14)
           have H' := Aside0.mk H
           clear H
           have hcz15_0 : wr.cell? ⟨gb126, 0, none⟩ = some (.int .i64 a0_0) := (blk_cell BK126.out 0).trans rfl
           have hcz15_1 : wr.cell? ⟨gb126, 1, none⟩ = some (.int .i64 a0_1) := (blk_cell BK126.out 1).trans rfl
           have hcz15_2 : wr.cell? ⟨gb126, 2, none⟩ = some (.slice A0_2 l0_2.length c0_2) := (blk_cell BK126.out 2).trans rfl
           have hcz15_3 : wr.cell? ⟨gb126, 3, none⟩ = some (.slice A0_3 l0_3.length c0_3) := (blk_cell BK126.out 3).trans rfl
           have hfz15_0 := blk_frozen BK126.out 0
           have hfz15_1 := blk_frozen BK126.out 1
           have hfz15_2 := blk_frozen BK126.out 2
           have hfz15_3 := blk_frozen BK126.out 3
           go_wp2_with (first | ((with_reducible refine gate_callee (f := 78) rfl ?_); refine goesL_ (some 26) rfl rfl Try.func78 (by kernel_rfl) rfl #[.agg #[.int .i64 a0_0, .int .i64 a0_1, .slice A0_2 l0_2.length c0_2, .slice A0_3 l0_3.length c0_3], .bool false, .int .i64 x5_3, .int .i64 x4_1] rfl ob_ ?_; (with_reducible refine (spec_fiHas.calls k3 a0_0 a0_1 _ _ l0_2 _ _ l0_3 false x5_3 x4_1 false _ ?side1 ?side2 ?side3 ?side4 A9.out).mono ?_); (case side1 => exact kc_ (Kd.C_below HR0_2.out HB.out)); (case side2 => exact HC0_2.out); (case side3 => exact kc_ (Kd.C_below HR0_3.out HB.out)); (case side4 => exact HC0_3.out); rintro e w16 ⟨rfl, hb⟩; refine ⟨_, rfl, ?_⟩; have n0_ := Aside0.mk (bb_ BK126.out hb); have n1_ := Aside0.mk (below_step (bl1_ HB.out GE126.out) hb); clear BK126; clear HB; have BK126 := n0_; have HB := n1_; clear n0_ n1_; (try clear hb); (try clear hb2); (try clear hk); (try clear hi)))
           go_roundg k3
           case measure => have := HK1.out; have := HJ3.out; have := HK3.out; omega
           case rel => exact ⟨(x3_3 ++ (⟨#[46]⟩ : ByteArray)), (wrap64 (x5_3 + 1)), rs_, rs_, H', ⟨by have := HK1.out; have := HJ3.out; have := HK3.out; omega⟩, ⟨bk_ BK126.out⟩, ⟨bl1_ HB.out GE126.out⟩⟩
          ·rw [if_neg c14] at H
           exact absurd H (by simp)
        ·rw [if_neg c8] at H
         have c8b0 : decide (x5_3 < a0_0) = false := decide_eq_false c8
         clear c8
         by_cases c17 : x4_1 = a0_1
         ·rw [if_pos c17] at H
          have c17b0 : (x4_1 == a0_1) = true := beq_iff_eq.mpr c17
          have c17b1 : (x4_1 != a0_1) = false := bne_eq_false_iff_eq.mpr c17
          clear c17
          obtain rfl := Option.some.inj H
          have hcz18_0 : wr.cell? ⟨gb126, 0, none⟩ = some (.int .i64 a0_0) := (blk_cell BK126.out 0).trans rfl
          have hcz18_1 : wr.cell? ⟨gb126, 1, none⟩ = some (.int .i64 a0_1) := (blk_cell BK126.out 1).trans rfl
          have hcz18_2 : wr.cell? ⟨gb126, 2, none⟩ = some (.slice A0_2 l0_2.length c0_2) := (blk_cell BK126.out 2).trans rfl
          have hcz18_3 : wr.cell? ⟨gb126, 3, none⟩ = some (.slice A0_3 l0_3.length c0_3) := (blk_cell BK126.out 3).trans rfl
          have hfz18_0 := blk_frozen BK126.out 0
          have hfz18_1 := blk_frozen BK126.out 1
          have hfz18_2 := blk_frozen BK126.out 2
          have hfz18_3 := blk_frozen BK126.out 3
          go_wp2
          go_ret
          exact ⟨er_, bl1_ HB.out GE126.out⟩
         ·rw [if_neg c17] at H
          have c17b0 : (x4_1 == a0_1) = false := beq_eq_false_iff_ne.mpr c17
          have c17b1 : (x4_1 != a0_1) = true := bne_iff_ne.mpr c17
          by_cases c19 : x3_3.size + 1 ≤ 9223372036854775807
          ·rw [if_pos c19] at H
           have c19b0 := eq_true c19
           have c19b1 : decide (x3_3.size + 1 ≤ 9223372036854775807) = true := decide_eq_true c19
           try have c19b2 : (9223372036854775807 < x3_3.size + 1) = False := eq_false (Nat.not_lt.2 c19)
           have H' := Aside0.mk H
           clear H
           have hcz20_0 : wr.cell? ⟨gb126, 0, none⟩ = some (.int .i64 a0_0) := (blk_cell BK126.out 0).trans rfl
           have hcz20_1 : wr.cell? ⟨gb126, 1, none⟩ = some (.int .i64 a0_1) := (blk_cell BK126.out 1).trans rfl
           have hcz20_2 : wr.cell? ⟨gb126, 2, none⟩ = some (.slice A0_2 l0_2.length c0_2) := (blk_cell BK126.out 2).trans rfl
           have hcz20_3 : wr.cell? ⟨gb126, 3, none⟩ = some (.slice A0_3 l0_3.length c0_3) := (blk_cell BK126.out 3).trans rfl
           have hfz20_0 := blk_frozen BK126.out 0
           have hfz20_1 := blk_frozen BK126.out 1
           have hfz20_2 := blk_frozen BK126.out 2
           have hfz20_3 := blk_frozen BK126.out 3
           go_wp2
           go_loopg [3, 6] k3 (fun kq v3 v6 w' => ∃ (x3_4 : ByteArray) (x6_4 : Int), v3 = .string x3_4 ∧ v6 = .int .i64 x6_4 ∧ Aside0 (spec_fiText.l2 kq x3_4 x4_1 x6_4 a0_0 a0_1 l0_2 l0_3 = some r) ∧ Aside0 (kq ≤ k3) ∧ Aside0 (w'.heap[gb126]? = some (.cells #[.int .i64 a0_0, .int .i64 a0_1, (.slice A0_2 l0_2.length c0_2), (.slice A0_3 l0_3.length c0_3)] 28 (0, 0))) ∧ Aside0 (Below w.heap.size w w'))
           case atStart => exact ⟨(x3_3 ++ (⟨#[47]⟩ : ByteArray)), (0), rs_, rs_, H', ⟨Nat.le_refl _⟩, ⟨bk_ BK126.out⟩, ⟨bl1_ HB.out GE126.out⟩⟩
           case round =>
            clear H'
            try clear c1
            try clear p2
            try clear c3
            try clear c3b0
            try clear c6
            try clear c6b0
            try clear p6
            try clear c7
            try clear c7b0
            try clear c7b1
            try clear c7b2
            try clear c8
            try clear c8b0
            try clear c10
            try clear c11
            try clear c11b0
            try clear c11b1
            try clear c11b2
            try clear c14
            try clear c14b0
            try clear c14b1
            try clear c14b2
            try clear c17
            try clear c17b0
            try clear c17b1
            try clear c19
            try clear c19b0
            try clear c19b1
            try clear c19b2
            try clear hcz12_0
            try clear hcz12_1
            try clear hcz12_2
            try clear hcz12_3
            try clear hcz15_0
            try clear hcz15_1
            try clear hcz15_2
            try clear hcz15_3
            try clear hcz18_0
            try clear hcz18_1
            try clear hcz18_2
            try clear hcz18_3
            try clear hcz20_0
            try clear hcz20_1
            try clear hcz20_2
            try clear hcz20_3
            try clear hcz5_0
            try clear hcz5_1
            try clear hcz5_2
            try clear hcz5_3
            try clear hfz12_0
            try clear hfz12_1
            try clear hfz12_2
            try clear hfz12_3
            try clear hfz15_0
            try clear hfz15_1
            try clear hfz15_2
            try clear hfz15_3
            try clear hfz18_0
            try clear hfz18_1
            try clear hfz18_2
            try clear hfz18_3
            try clear hfz20_0
            try clear hfz20_1
            try clear hfz20_2
            try clear hfz20_3
            try clear hfz5_0
            try clear hfz5_1
            try clear hfz5_2
            try clear hfz5_3
            try clear p2
            obtain ⟨x3_4, x6_4, rfl, rfl, HA, HK4, BK126, HB⟩ := hrel
            cases gk with
            | zero => exact absurd HA.out (by simp [spec_fiText.l2])
            | succ k4 =>
             have H := HA.out
             clear HA
             simp only [spec_fiText.l2] at H
             by_cases c21 : x6_4 ≤ a0_0
             ·rw [if_pos c21] at H
              have c21b0 : decide (x6_4 ≤ a0_0) = true := decide_eq_true c21
              clear c21
              replace H := Option.bind_eq_some_iff.mp H
              obtain ⟨t128, A220, H⟩ := H
              replace H : (if t128 = true then (if x3_4.size + 1 ≤ 9223372036854775807 then (spec_fiText.l2 k4 (x3_4 ++ (⟨#[124]⟩ : ByteArray)) x4_1 (wrap64 (x6_4 + 1)) a0_0 a0_1 l0_2 l0_3) else (none)) else (if x3_4.size + 1 ≤ 9223372036854775807 then (spec_fiText.l2 k4 (x3_4 ++ (⟨#[46]⟩ : ByteArray)) x4_1 (wrap64 (x6_4 + 1)) a0_0 a0_1 l0_2 l0_3) else (none))) = some r := H
              have A22 := Aside0.mk A220
              clear A220
              by_cases c23 : t128 = true
              ·subst c23
               have H1 : (if x3_4.size + 1 ≤ 9223372036854775807 then (spec_fiText.l2 k4 (x3_4 ++ (⟨#[124]⟩ : ByteArray)) x4_1 (wrap64 (x6_4 + 1)) a0_0 a0_1 l0_2 l0_3) else (none)) = some r := by rw [if_pos rfl] at H; exact H
               clear H
               have H := H1
               clear H1
               by_cases c24 : x3_4.size + 1 ≤ 9223372036854775807
               ·rw [if_pos c24] at H
                have c24b0 := eq_true c24
                have c24b1 : decide (x3_4.size + 1 ≤ 9223372036854775807) = true := decide_eq_true c24
                try have c24b2 : (9223372036854775807 < x3_4.size + 1) = False := eq_false (Nat.not_lt.2 c24)
                have H' := Aside0.mk H
                clear H
                have hcz25_0 : wr.cell? ⟨gb126, 0, none⟩ = some (.int .i64 a0_0) := (blk_cell BK126.out 0).trans rfl
                have hcz25_1 : wr.cell? ⟨gb126, 1, none⟩ = some (.int .i64 a0_1) := (blk_cell BK126.out 1).trans rfl
                have hcz25_2 : wr.cell? ⟨gb126, 2, none⟩ = some (.slice A0_2 l0_2.length c0_2) := (blk_cell BK126.out 2).trans rfl
                have hcz25_3 : wr.cell? ⟨gb126, 3, none⟩ = some (.slice A0_3 l0_3.length c0_3) := (blk_cell BK126.out 3).trans rfl
                have hfz25_0 := blk_frozen BK126.out 0
                have hfz25_1 := blk_frozen BK126.out 1
                have hfz25_2 := blk_frozen BK126.out 2
                have hfz25_3 := blk_frozen BK126.out 3
                go_wp2_with (first | ((with_reducible refine gate_callee (f := 78) rfl ?_); refine goesL_ (some 46) rfl rfl Try.func78 (by kernel_rfl) rfl #[.agg #[.int .i64 a0_0, .int .i64 a0_1, .slice A0_2 l0_2.length c0_2, .slice A0_3 l0_3.length c0_3], .bool true, .int .i64 x6_4, .int .i64 x4_1] rfl ob_ ?_; (with_reducible refine (spec_fiHas.calls k4 a0_0 a0_1 _ _ l0_2 _ _ l0_3 true x6_4 x4_1 true _ ?side1 ?side2 ?side3 ?side4 A22.out).mono ?_); (case side1 => exact kc_ (Kd.C_below HR0_2.out HB.out)); (case side2 => exact HC0_2.out); (case side3 => exact kc_ (Kd.C_below HR0_3.out HB.out)); (case side4 => exact HC0_3.out); rintro e w26 ⟨rfl, hb⟩; refine ⟨_, rfl, ?_⟩; have n0_ := Aside0.mk (bb_ BK126.out hb); have n1_ := Aside0.mk (below_step (bl1_ HB.out GE126.out) hb); clear BK126; clear HB; have BK126 := n0_; have HB := n1_; clear n0_ n1_; (try clear hb); (try clear hb2); (try clear hk); (try clear hi)))
                go_roundg k4
                case measure => have := HK1.out; have := HJ3.out; have := HK3.out; have := HK4.out; omega
                case rel => exact ⟨(x3_4 ++ (⟨#[124]⟩ : ByteArray)), (wrap64 (x6_4 + 1)), rs_, rs_, H', ⟨by have := HK1.out; have := HJ3.out; have := HK3.out; have := HK4.out; omega⟩, ⟨bk_ BK126.out⟩, ⟨bl1_ HB.out GE126.out⟩⟩
               ·rw [if_neg c24] at H
                exact absurd H (by simp)
              ·replace c23 := Bool.eq_false_iff.mpr c23
               subst c23
               have H1 : (if x3_4.size + 1 ≤ 9223372036854775807 then (spec_fiText.l2 k4 (x3_4 ++ (⟨#[46]⟩ : ByteArray)) x4_1 (wrap64 (x6_4 + 1)) a0_0 a0_1 l0_2 l0_3) else (none)) = some r := by rw [if_neg (show ¬ (false = true) by decide)] at H; exact H
               clear H
               have H := H1
               clear H1
               by_cases c27 : x3_4.size + 1 ≤ 9223372036854775807
               ·rw [if_pos c27] at H
                have c27b0 := eq_true c27
                have c27b1 : decide (x3_4.size + 1 ≤ 9223372036854775807) = true := decide_eq_true c27
                try have c27b2 : (9223372036854775807 < x3_4.size + 1) = False := eq_false (Nat.not_lt.2 c27)
                have H' := Aside0.mk H
                clear H
                have hcz28_0 : wr.cell? ⟨gb126, 0, none⟩ = some (.int .i64 a0_0) := (blk_cell BK126.out 0).trans rfl
                have hcz28_1 : wr.cell? ⟨gb126, 1, none⟩ = some (.int .i64 a0_1) := (blk_cell BK126.out 1).trans rfl
                have hcz28_2 : wr.cell? ⟨gb126, 2, none⟩ = some (.slice A0_2 l0_2.length c0_2) := (blk_cell BK126.out 2).trans rfl
                have hcz28_3 : wr.cell? ⟨gb126, 3, none⟩ = some (.slice A0_3 l0_3.length c0_3) := (blk_cell BK126.out 3).trans rfl
                have hfz28_0 := blk_frozen BK126.out 0
                have hfz28_1 := blk_frozen BK126.out 1
                have hfz28_2 := blk_frozen BK126.out 2
                have hfz28_3 := blk_frozen BK126.out 3
                go_wp2_with (first | ((with_reducible refine gate_callee (f := 78) rfl ?_); refine goesL_ (some 46) rfl rfl Try.func78 (by kernel_rfl) rfl #[.agg #[.int .i64 a0_0, .int .i64 a0_1, .slice A0_2 l0_2.length c0_2, .slice A0_3 l0_3.length c0_3], .bool true, .int .i64 x6_4, .int .i64 x4_1] rfl ob_ ?_; (with_reducible refine (spec_fiHas.calls k4 a0_0 a0_1 _ _ l0_2 _ _ l0_3 true x6_4 x4_1 false _ ?side1 ?side2 ?side3 ?side4 A22.out).mono ?_); (case side1 => exact kc_ (Kd.C_below HR0_2.out HB.out)); (case side2 => exact HC0_2.out); (case side3 => exact kc_ (Kd.C_below HR0_3.out HB.out)); (case side4 => exact HC0_3.out); rintro e w29 ⟨rfl, hb⟩; refine ⟨_, rfl, ?_⟩; have n0_ := Aside0.mk (bb_ BK126.out hb); have n1_ := Aside0.mk (below_step (bl1_ HB.out GE126.out) hb); clear BK126; clear HB; have BK126 := n0_; have HB := n1_; clear n0_ n1_; (try clear hb); (try clear hb2); (try clear hk); (try clear hi)))
                go_roundg k4
                case measure => have := HK1.out; have := HJ3.out; have := HK3.out; have := HK4.out; omega
                case rel => exact ⟨(x3_4 ++ (⟨#[46]⟩ : ByteArray)), (wrap64 (x6_4 + 1)), rs_, rs_, H', ⟨by have := HK1.out; have := HJ3.out; have := HK3.out; have := HK4.out; omega⟩, ⟨bk_ BK126.out⟩, ⟨bl1_ HB.out GE126.out⟩⟩
               ·rw [if_neg c27] at H
                exact absurd H (by simp)
             ·rw [if_neg c21] at H
              have c21b0 : decide (x6_4 ≤ a0_0) = false := decide_eq_false c21
              clear c21
              have H' := Aside0.mk H
              clear H
              have hcz30_0 : wr.cell? ⟨gb126, 0, none⟩ = some (.int .i64 a0_0) := (blk_cell BK126.out 0).trans rfl
              have hcz30_1 : wr.cell? ⟨gb126, 1, none⟩ = some (.int .i64 a0_1) := (blk_cell BK126.out 1).trans rfl
              have hcz30_2 : wr.cell? ⟨gb126, 2, none⟩ = some (.slice A0_2 l0_2.length c0_2) := (blk_cell BK126.out 2).trans rfl
              have hcz30_3 : wr.cell? ⟨gb126, 3, none⟩ = some (.slice A0_3 l0_3.length c0_3) := (blk_cell BK126.out 3).trans rfl
              have hfz30_0 := blk_frozen BK126.out 0
              have hfz30_1 := blk_frozen BK126.out 1
              have hfz30_2 := blk_frozen BK126.out 2
              have hfz30_3 := blk_frozen BK126.out 3
              go_wp2
              go_roundg k4
              case measure => have := HK1.out; have := HJ3.out; have := HK3.out; have := HK4.out; omega
              case rel => exact ⟨(x3_4), (wrap64 (x4_1 + 1)), rs_, rs_, H', ⟨by have := HK1.out; have := HJ3.out; have := HK3.out; have := HK4.out; omega⟩, ⟨bk_ BK126.out⟩, ⟨bl1_ HB.out GE126.out⟩⟩
          ·rw [if_neg c19] at H
           exact absurd H (by simp)
   ·rw [if_neg c3] at H
    have c3b0 : decide (x4_1 ≤ a0_1) = false := decide_eq_false c3
    clear c3
    obtain rfl := Option.some.inj H
    have hcz31_0 : wr.cell? ⟨gb126, 0, none⟩ = some (.int .i64 a0_0) := (blk_cell BK126.out 0).trans rfl
    have hcz31_1 : wr.cell? ⟨gb126, 1, none⟩ = some (.int .i64 a0_1) := (blk_cell BK126.out 1).trans rfl
    have hcz31_2 : wr.cell? ⟨gb126, 2, none⟩ = some (.slice A0_2 l0_2.length c0_2) := (blk_cell BK126.out 2).trans rfl
    have hcz31_3 : wr.cell? ⟨gb126, 3, none⟩ = some (.slice A0_3 l0_3.length c0_3) := (blk_cell BK126.out 3).trans rfl
    have hfz31_0 := blk_frozen BK126.out 0
    have hfz31_1 := blk_frozen BK126.out 1
    have hfz31_2 := blk_frozen BK126.out 2
    have hfz31_3 := blk_frozen BK126.out 3
    go_wp2
    go_ret
    exact ⟨er_, bl1_ HB.out GE126.out⟩


def spec_FigureText.f (k : Nat) (a0_0 : Int) (a0_1 : Int) (l0_2 : List Int) (l0_3 : List Int) : Option (ByteArray × Bool) := (spec_fiGood.f k a0_0 a0_1 l0_2 l0_3).bind fun t130 => (if t130 = true then ((spec_fiText.f k a0_0 a0_1 l0_2 l0_3).bind fun t131 => (some (t131, true))) else (some ((⟨#[]⟩ : ByteArray), false)))
theorem spec_FigureText.mono : ∀ a0 a1 a2 a3 k, LeO (spec_FigureText.f k a0 a1 a2 a3) (spec_FigureText.f (k + 1) a0 a1 a2 a3) := by
 intro a0 a1 a2 a3 k
 unfold spec_FigureText.f
 repeat' first
   | (with_reducible exact spec_fiGood.mono _ _ _ _ _)
   | (with_reducible exact spec_fiText.mono _ _ _ _ _)
   | (with_reducible exact LeO.refl _)
   | (with_reducible exact LeO.none _)
   | (with_reducible refine LeO.ite ?_ ?_)
   | (with_reducible refine LeO.bind ?_ (fun _ => ?_))
   | exact spec_fiGood.mono _ _ _ _ _
   | exact spec_fiText.mono _ _ _ _ _
   | exact LeO.none _
   | refine LeO.ite ?_ ?_
   | refine LeO.bind ?_ (fun _ => ?_)
set_option maxHeartbeats 8000000 in
set_option maxRecDepth 100000 in
theorem spec_FigureText.calls (k : Nat) (a0_0 : Int) (a0_1 : Int) (A0_2 : Option Addr) (c0_2 : Nat) (l0_2 : List Int) (A0_3 : Option Addr) (c0_3 : Nat) (l0_3 : List Int) (r1 : ByteArray) (r2 : Bool) (w : World) (hr0_2 : Kd.C (Kd.int .i64) w A0_2 l0_2.length l0_2) (hc0_2 : l0_2.length ≤ c0_2) (hr0_3 : Kd.C (Kd.int .i64) w A0_3 l0_3.length l0_3) (hc0_3 : l0_3.length ≤ c0_3) (h : spec_FigureText.f k a0_0 a0_1 l0_2 l0_3 = some (r1, r2)) :
  Calls Try.prog 11 #[.agg #[.int .i64 a0_0, .int .i64 a0_1, .slice A0_2 l0_2.length c0_2, .slice A0_3 l0_3.length c0_3]] w fun e w' => e = .returned (.tuple #[.string r1, .bool r2]) ∧ Below w.heap.size w w' := by
 have hu28 := Try.underlying28
 have HR0_2 := Aside0.mk hr0_2
 have HC0_2 := Aside0.mk hc0_2
 clear hr0_2 hc0_2
 have HR0_3 := Aside0.mk hr0_3
 have HC0_3 := Aside0.mk hc0_3
 clear hr0_3 hc0_3
 have HB := Aside0.mk (Below.refl w.heap.size w)
 have H : ((spec_fiGood.f k a0_0 a0_1 l0_2 l0_3).bind fun t130 => (if t130 = true then ((spec_fiText.f k a0_0 a0_1 l0_2 l0_3).bind fun t131 => (some (t131, true))) else (some ((⟨#[]⟩ : ByteArray), false)))) = some (r1, r2) := h
 clear h
 replace H := Option.bind_eq_some_iff.mp H
 obtain ⟨t130, A20, H⟩ := H
 replace H : (if t130 = true then ((spec_fiText.f k a0_0 a0_1 l0_2 l0_3).bind fun t131 => (some (t131, true))) else (some ((⟨#[]⟩ : ByteArray), false))) = some (r1, r2) := H
 have A2 := Aside0.mk A20
 clear A20
 by_cases c3 : t130 = true
 ·subst c3
  have H1 : ((spec_fiText.f k a0_0 a0_1 l0_2 l0_3).bind fun t131 => (some (t131, true))) = some (r1, r2) := by rw [if_pos rfl] at H; exact H
  clear H
  have H := H1
  clear H1
  replace H := Option.bind_eq_some_iff.mp H
  obtain ⟨t131, A40, H⟩ := H
  replace H : (some (t131, true)) = some (r1, r2) := H
  have A4 := Aside0.mk A40
  clear A40
  simp only [Option.some.injEq, Prod.mk.injEq] at H
  obtain ⟨rfl, rfl⟩ := H
  go_enter Try.func11, Try.ntmps11
  go_wp2_with (first | ((with_reducible refine gate_dst (N := 1) rfl ?_); refine boxE_ (N := 1) (cs := #[.int .i64 a0_0, .int .i64 a0_1, .slice A0_2 l0_2.length c0_2, .slice A0_3 l0_3.length c0_3]) (t := 28) ?_; intro gb129 hg w5 hbox hb; have n0_ := Aside0.mk (below_step (bl0_ HB.out) hb); have n1_ := Aside0.mk (hbox); have n2_ := Aside0.mk ((bs0_ hg HB.out : w.heap.size ≤ gb129)); have n3_ := Aside0.mk ((bs0_ hg HB.out : w.heap.size ≤ gb129)); clear HB; have HB := n0_; have BK129 := n1_; have GW129 := n2_; have GE129 := n3_; clear n0_ n1_ n2_ n3_; clear hb hbox hg; have hcz6_0 : w5.cell? ⟨gb129, 0, none⟩ = some (.int .i64 a0_0) := (blk_cell BK129.out 0).trans rfl; have hcz6_1 : w5.cell? ⟨gb129, 1, none⟩ = some (.int .i64 a0_1) := (blk_cell BK129.out 1).trans rfl; have hcz6_2 : w5.cell? ⟨gb129, 2, none⟩ = some (.slice A0_2 l0_2.length c0_2) := (blk_cell BK129.out 2).trans rfl; have hcz6_3 : w5.cell? ⟨gb129, 3, none⟩ = some (.slice A0_3 l0_3.length c0_3) := (blk_cell BK129.out 3).trans rfl; have hfz6_0 := blk_frozen BK129.out 0; have hfz6_1 := blk_frozen BK129.out 1; have hfz6_2 := blk_frozen BK129.out 2; have hfz6_3 := blk_frozen BK129.out 3) | ((with_reducible refine gate_callee (f := 34) rfl ?_); refine goesL_ (some 5) rfl rfl Try.func34 (by kernel_rfl) rfl #[.agg #[.int .i64 a0_0, .int .i64 a0_1, .slice A0_2 l0_2.length c0_2, .slice A0_3 l0_3.length c0_3]] rfl ob_ ?_; (with_reducible refine (spec_fiGood.calls k a0_0 a0_1 _ _ l0_2 _ _ l0_3 true _ ?side1 ?side2 ?side3 ?side4 A2.out).mono ?_); (case side1 => exact kc_ (Kd.C_below HR0_2.out HB.out)); (case side2 => exact HC0_2.out); (case side3 => exact kc_ (Kd.C_below HR0_3.out HB.out)); (case side4 => exact HC0_3.out); rintro e w7 ⟨rfl, hb⟩; refine ⟨_, rfl, ?_⟩; have n0_ := Aside0.mk (bb_ BK129.out hb); have n1_ := Aside0.mk (below_step (bl1_ HB.out GE129.out) hb); clear BK129; clear HB; have BK129 := n0_; have HB := n1_; clear n0_ n1_; (try clear hb); (try clear hb2); (try clear hk); (try clear hi); have hcz8_0 : w7.cell? ⟨gb129, 0, none⟩ = some (.int .i64 a0_0) := (blk_cell BK129.out 0).trans rfl; have hcz8_1 : w7.cell? ⟨gb129, 1, none⟩ = some (.int .i64 a0_1) := (blk_cell BK129.out 1).trans rfl; have hcz8_2 : w7.cell? ⟨gb129, 2, none⟩ = some (.slice A0_2 l0_2.length c0_2) := (blk_cell BK129.out 2).trans rfl; have hcz8_3 : w7.cell? ⟨gb129, 3, none⟩ = some (.slice A0_3 l0_3.length c0_3) := (blk_cell BK129.out 3).trans rfl; have hfz8_0 := blk_frozen BK129.out 0; have hfz8_1 := blk_frozen BK129.out 1; have hfz8_2 := blk_frozen BK129.out 2; have hfz8_3 := blk_frozen BK129.out 3) | ((with_reducible refine gate_callee (f := 35) rfl ?_); refine goesL_ (some 8) rfl rfl Try.func35 (by kernel_rfl) rfl #[.agg #[.int .i64 a0_0, .int .i64 a0_1, .slice A0_2 l0_2.length c0_2, .slice A0_3 l0_3.length c0_3]] rfl ob_ ?_; (with_reducible refine (spec_fiText.calls k a0_0 a0_1 _ _ l0_2 _ _ l0_3 t131 _ ?side1 ?side2 ?side3 ?side4 A4.out).mono ?_); (case side1 => exact kc_ (Kd.C_below HR0_2.out HB.out)); (case side2 => exact HC0_2.out); (case side3 => exact kc_ (Kd.C_below HR0_3.out HB.out)); (case side4 => exact HC0_3.out); rintro e w9 ⟨rfl, hb⟩; refine ⟨_, rfl, ?_⟩; have n0_ := Aside0.mk (bb_ BK129.out hb); have n1_ := Aside0.mk (below_step (bl1_ HB.out GE129.out) hb); clear BK129; clear HB; have BK129 := n0_; have HB := n1_; clear n0_ n1_; (try clear hb); (try clear hb2); (try clear hk); (try clear hi)))
  go_ret2
  exact ⟨er_, bl1_ HB.out GE129.out⟩
 ·replace c3 := Bool.eq_false_iff.mpr c3
  subst c3
  have H1 : (some ((⟨#[]⟩ : ByteArray), false)) = some (r1, r2) := by rw [if_neg (show ¬ (false = true) by decide)] at H; exact H
  clear H
  have H := H1
  clear H1
  simp only [Option.some.injEq, Prod.mk.injEq] at H
  obtain ⟨rfl, rfl⟩ := H
  go_enter Try.func11, Try.ntmps11
  go_wp2_with (first | ((with_reducible refine gate_dst (N := 1) rfl ?_); refine boxE_ (N := 1) (cs := #[.int .i64 a0_0, .int .i64 a0_1, .slice A0_2 l0_2.length c0_2, .slice A0_3 l0_3.length c0_3]) (t := 28) ?_; intro gb129 hg w10 hbox hb; have n0_ := Aside0.mk (below_step (bl0_ HB.out) hb); have n1_ := Aside0.mk (hbox); have n2_ := Aside0.mk ((bs0_ hg HB.out : w.heap.size ≤ gb129)); have n3_ := Aside0.mk ((bs0_ hg HB.out : w.heap.size ≤ gb129)); clear HB; have HB := n0_; have BK129 := n1_; have GW129 := n2_; have GE129 := n3_; clear n0_ n1_ n2_ n3_; clear hb hbox hg; have hcz11_0 : w10.cell? ⟨gb129, 0, none⟩ = some (.int .i64 a0_0) := (blk_cell BK129.out 0).trans rfl; have hcz11_1 : w10.cell? ⟨gb129, 1, none⟩ = some (.int .i64 a0_1) := (blk_cell BK129.out 1).trans rfl; have hcz11_2 : w10.cell? ⟨gb129, 2, none⟩ = some (.slice A0_2 l0_2.length c0_2) := (blk_cell BK129.out 2).trans rfl; have hcz11_3 : w10.cell? ⟨gb129, 3, none⟩ = some (.slice A0_3 l0_3.length c0_3) := (blk_cell BK129.out 3).trans rfl; have hfz11_0 := blk_frozen BK129.out 0; have hfz11_1 := blk_frozen BK129.out 1; have hfz11_2 := blk_frozen BK129.out 2; have hfz11_3 := blk_frozen BK129.out 3) | ((with_reducible refine gate_callee (f := 34) rfl ?_); refine goesL_ (some 5) rfl rfl Try.func34 (by kernel_rfl) rfl #[.agg #[.int .i64 a0_0, .int .i64 a0_1, .slice A0_2 l0_2.length c0_2, .slice A0_3 l0_3.length c0_3]] rfl ob_ ?_; (with_reducible refine (spec_fiGood.calls k a0_0 a0_1 _ _ l0_2 _ _ l0_3 false _ ?side1 ?side2 ?side3 ?side4 A2.out).mono ?_); (case side1 => exact kc_ (Kd.C_below HR0_2.out HB.out)); (case side2 => exact HC0_2.out); (case side3 => exact kc_ (Kd.C_below HR0_3.out HB.out)); (case side4 => exact HC0_3.out); rintro e w12 ⟨rfl, hb⟩; refine ⟨_, rfl, ?_⟩; have n0_ := Aside0.mk (bb_ BK129.out hb); have n1_ := Aside0.mk (below_step (bl1_ HB.out GE129.out) hb); clear BK129; clear HB; have BK129 := n0_; have HB := n1_; clear n0_ n1_; (try clear hb); (try clear hb2); (try clear hk); (try clear hi)))
  go_ret2
  exact ⟨er_, bl1_ HB.out GE129.out⟩

end Go.Proofs.Yteaglkpplgbpaaa.P
namespace Go.Proofs.Yteaglkpplgbpaaa.P
open Go.RowKit Go.Proofs.YteaglkpplgbpaaaW.PrintWords Go.Proofs.YteaglkpplgbpaaaW.PrintLast Go.Proofs.YteaglkpplgbpaaaW.PrintMore
attribute [local go_sem] max2_int min2_int max_two min_two max_three min_three max_four min_four   -- for this text's walks alone
set_option linter.unusedVariables false
set_option linter.unusedSimpArgs false

def BA (l : List UInt8) : ByteArray := ⟨l.toArray⟩
theorem BA_add (l : List UInt8) (c : UInt8) : BA l ++ (⟨#[c]⟩ : ByteArray) = BA (l ++ [c]) := by
 apply ByteArray.ext
 rw [ByteArray.data_append]
 unfold BA
 apply Array.ext'
 simp
theorem BA_size (l : List UInt8) : (BA l).size = l.length := by simp [BA, ByteArray.size]
theorem join_snoc (xs : List (List UInt8)) (x sep : List UInt8) (h : xs ≠ []) : Lib.join (xs ++ [x]) sep = Lib.join xs sep ++ sep ++ x := by
 cases xs with
 | nil => exact absurd rfl h
 | cons a r =>
  rw [List.cons_append, Lib.join_cons, Lib.join_cons]
  unfold Lib.joinTail
  rw [List.map_append, List.flatten_append]
  simp
def rowL (c : UInt8) (p : Nat → Bool) (n : Nat) : List UInt8 := (List.range n).map fun x => if p x = true then c else 46
theorem rowL_succ (c : UInt8) (p : Nat → Bool) (n : Nat) : rowL c p (n + 1) = rowL c p n ++ [if p n = true then c else 46] := by unfold rowL; rw [List.range_succ, List.map_append]; rfl
theorem rowL_len (c : UInt8) (p : Nat → Bool) (n : Nat) : (rowL c p n).length = n := by unfold rowL; rw [List.length_map, List.length_range]
def levP (w m y x : Nat) : Bool := m.testBit (y * w + x)
def uprP (w h m y x : Nat) : Bool := m.testBit (w * (h + 1) + (y * (w + 1) + x))
def textRows (w h m : Nat) : Nat → List (List UInt8)
 | 0 => []
 | y + 1 => if y < h then (textRows w h m y ++ [rowL 45 (levP w m y) w]) ++ [rowL 124 (uprP w h m y) (w + 1)] else textRows w h m y ++ [rowL 45 (levP w m y) w]
theorem textRows_len (w h m : Nat) : ∀ y, y ≤ h → (textRows w h m y).length = 2 * y
 | 0, _ => rfl
 | y + 1, hy => by
  have := textRows_len w h m y (by omega)
  unfold textRows
  rw [if_pos (by omega), List.length_append, List.length_append, List.length_singleton, List.length_singleton]
  omega
theorem textRows_size (w h m : Nat) : ∀ y, ∀ x ∈ textRows w h m y, x.length ≤ w + 1
 | 0, x, h => by cases h
 | y + 1, x, hx => by
  have ih := textRows_size w h m y
  have e1 := rowL_len 45 (levP w m y) w
  have e2 := rowL_len 124 (uprP w h m y) (w + 1)
  unfold textRows at hx
  split at hx
  ·rcases List.mem_append.1 hx with hx | hx
   ·rcases List.mem_append.1 hx with hx | hx
    ·exact ih x hx
    ·rw [List.mem_singleton.1 hx]; omega
   ·rw [List.mem_singleton.1 hx]; omega
  ·rcases List.mem_append.1 hx with hx | hx
   ·exact ih x hx
   ·rw [List.mem_singleton.1 hx]; omega
theorem and_edgeB {M e : Nat} (hM : M < 2 ^ 60) (he : e < 60) : (Go.bits .and .u64 (M : Int) ((2 ^ e : Nat) : Int) != 0) = M.testBit e := by
 have h := and_two e M
 rw [Nat.and_comm] at h
 rw [and_u64 _ _ hM (Nat.pow_lt_pow_right (by decide) he), h]
 have hp := Nat.two_pow_pos e
 cases M.testBit e with
 | false => rfl
 | true =>
  rw [if_pos rfl, bne_iff_ne]
  omega
theorem small_edge {w h x y : Nat} (hw : w ≤ 4) (hh : h ≤ 4) (hx : x ≤ w) (hy : y ≤ h) : y * w + x < 60 ∧ w * (h + 1) + (y * (w + 1) + x) < 60 := by
 have cw : w = 0 ∨ w = 1 ∨ w = 2 ∨ w = 3 ∨ w = 4 := by omega
 rcases cw with rfl | rfl | rfl | rfl | rfl <;> omega
theorem row_str (c : Int) (d : UInt8) (hc : UInt8.ofNat c.toNat = d) (p q : Nat → Bool) (n : Nat) (h : ∀ x, x < n → p x = q x) : (strOfNums (rowF c p n)).data.toList = rowL d q n := by
 rw [strOfNums_data]
 unfold rowF rowL
 rw [List.map_map]
 refine List.map_congr_left (fun x hx => ?_)
 rw [Function.comp_apply, h x (List.mem_range.1 hx)]
 cases q x with
 | true => rw [if_pos rfl, if_pos rfl, hc]
 | false => rw [if_neg (by decide), if_neg (by decide)]; rfl
theorem figRows_text {w h m : Nat} (g : GridOK (w : Int) (h : Int)) (hm : m < 2 ^ 60) : ∀ y, y ≤ h + 1 → (figRows w h (m : Int) y).map (fun x : ByteArray => x.data.toList) = textRows w h m y := by
 have w4 : w ≤ 4 := by have := g.w4; omega
 have h4 : h ≤ 4 := by have := g.h4; omega
 have hl : ∀ x y : Nat, x < w → y ≤ h → levB w h (m : Int) y x = levP w m y x := fun x y hx hy => by
  unfold levB levP
  rw [level_f g (Int.natCast_nonneg x) (by omega) (Int.natCast_nonneg y) (by omega), Option.getD_some, ← Int.natCast_mul, ← Int.natCast_add, Int.toNat_natCast]
  exact and_edgeB hm (small_edge w4 h4 (by omega) hy).1
 have hu : ∀ x y : Nat, x < w + 1 → y < h → uprB w h (m : Int) y x = uprP w h m y x := fun x y hx hy => by
  unfold uprB uprP
  rw [upright_f g (Int.natCast_nonneg x) (by omega) (Int.natCast_nonneg y) (by omega), Option.getD_some]
  rw [show (w : Int) * ((h : Int) + 1) = ((w * (h + 1) : Nat) : Int) by push_cast; rfl, show (y : Int) * ((w : Int) + 1) + (x : Int) = ((y * (w + 1) + x : Nat) : Int) by push_cast; rfl, Int.toNat_natCast, Int.toNat_natCast]
  exact and_edgeB hm (small_edge w4 h4 (by omega) (by omega)).2
 intro y
 induction y with
 | zero => intro _; rfl
 | succ y ih =>
  intro hy
  have ih := ih (by omega)
  have e1 : (levR w h (m : Int) y).data.toList = rowL 45 (levP w m y) w := row_str 45 45 rfl _ _ w (fun x hx => hl x y hx (by omega))
  unfold figRows textRows
  by_cases hyh : y < h
  ·have e2 : (uprR w h (m : Int) y).data.toList = rowL 124 (uprP w h m y) (w + 1) := row_str 124 124 rfl _ _ (w + 1) (fun x hx => hu x y hx hyh)
   rw [if_pos hyh, if_pos hyh, List.map_append, List.map_append, ih, List.map_cons, List.map_cons, List.map_nil, e1, e2]
  ·rw [if_neg hyh, if_neg hyh, List.map_append, ih, List.map_cons, List.map_nil, e1]
section
variable {w h : Nat} {a u : List Int}
theorem ft_l1 (g : GridOK (w : Int) (h : Int)) (hf : figB (w : Int) (h : Int) a u = true) (ha : a.length ≤ 1000000) (hu : u.length ≤ 1000000) (T : List UInt8) (hT : T.length ≤ 1000) (y : Nat) (hy : y ≤ h) : ∀ (d k x : Nat), w - x = d → x ≤ w → d + 1000001 < k →
  ∃ k', k ≤ k' + (d + 1) ∧ spec_fiText.l1 k (BA (T ++ rowL 45 (levP w (figMask (w : Int) (h : Int) a u) y) x)) (y : Int) (x : Int) (w : Int) (h : Int) a u = if y = h then some (BA (T ++ rowL 45 (levP w (figMask (w : Int) (h : Int) a u) y) w)) else spec_fiText.l2 k' (BA (T ++ rowL 45 (levP w (figMask (w : Int) (h : Int) a u) y) w ++ [47])) (y : Int) 0 (w : Int) (h : Int) a u := by
 have w4 : w ≤ 4 := by have := g.w4; omega
 intro d
 induction d with
 | zero =>
  intro k x h1 h2 h3
  obtain ⟨k, rfl⟩ : ∃ q, k = q + 1 := ⟨k - 1, by omega⟩
  have : x = w := by omega
  subst this
  refine ⟨k, by omega, ?_⟩
  have hs : (BA (T ++ rowL 45 (levP x (figMask (x : Int) (h : Int) a u) y) x)).size + 1 ≤ 9223372036854775807 := by rw [BA_size, List.length_append, rowL_len]; omega
  rw [spec_fiText.l1, if_neg (Int.lt_irrefl _)]
  by_cases hyh : y = h
  ·rw [if_pos (by omega), if_pos hyh]
  ·rw [if_neg (by omega), if_neg hyh, if_pos hs, BA_add]
 | succ d ih =>
  intro k x h1 h2 h3
  obtain ⟨k, rfl⟩ : ∃ q, k = q + 1 := ⟨k - 1, by omega⟩
  obtain ⟨k', p1, p2⟩ := ih k (x + 1) (by omega) (by omega) (by omega)
  have hk0 : 1000000 < k := by omega
  have hkk : k + 1 ≤ k' + (d + 1 + 1) := by omega
  have hx9 : x < 10 := by omega
  have hT9 : (T.length + x) + 1 ≤ 9223372036854775807 := by omega
  have hxw : (x : Int) < (w : Int) := Int.ofNat_lt.2 (by omega)
  have hyh : (y : Int) ≤ (h : Int) := Int.ofNat_le.2 hy
  clear h1 h2 h3 p1 ih
  have hfi := fiHas_level g hf ha k hk0 (x : Int) (y : Int) (Int.natCast_nonneg _) hxw (Int.natCast_nonneg _) hyh
  rw [← Int.natCast_mul, ← Int.natCast_add, Int.toNat_natCast] at hfi
  have e1 : wrap64 ((x : Int) + 1) = ((x + 1 : Nat) : Int) := by clear hfi p2; unfold wrap64; omega
  refine ⟨k', hkk, ?_⟩
  have hs : (BA (T ++ rowL 45 (levP w (figMask (w : Int) (h : Int) a u) y) x)).size + 1 ≤ 9223372036854775807 := by rw [BA_size, List.length_append, rowL_len]; exact hT9
  rw [spec_fiText.l1, if_pos hxw, hfi, Option.bind_some, e1, ← p2, rowL_succ]
  by_cases hb : (figMask (w : Int) (h : Int) a u).testBit (y * w + x) = true
  ·have hb2 : levP w (figMask (w : Int) (h : Int) a u) y x = true := hb
   rw [if_pos hb, if_pos hs, if_pos hb2, BA_add, List.append_assoc]
  ·have hb2 : ¬ levP w (figMask (w : Int) (h : Int) a u) y x = true := hb
   rw [if_neg hb, if_pos hs, if_neg hb2, BA_add, List.append_assoc]
theorem ft_l2 (g : GridOK (w : Int) (h : Int)) (hf : figB (w : Int) (h : Int) a u = true) (ha : a.length ≤ 1000000) (hu : u.length ≤ 1000000) (T : List UInt8) (hT : T.length ≤ 1000) (y : Nat) (hy : y < h) : ∀ (d k x : Nat), w + 1 - x = d → x ≤ w + 1 → d + 1000001 < k →
  ∃ k', k ≤ k' + (d + 1) ∧ spec_fiText.l2 k (BA (T ++ rowL 124 (uprP w h (figMask (w : Int) (h : Int) a u) y) x)) (y : Int) (x : Int) (w : Int) (h : Int) a u = spec_fiText.l0 k' (BA (T ++ rowL 124 (uprP w h (figMask (w : Int) (h : Int) a u) y) (w + 1))) ((y + 1 : Nat) : Int) (w : Int) (h : Int) a u := by
 have w4 : w ≤ 4 := by have := g.w4; omega
 have h4 : h ≤ 4 := by have := g.h4; omega
 intro d
 induction d with
 | zero =>
  intro k x h1 h2 h3
  obtain ⟨k, rfl⟩ : ∃ q, k = q + 1 := ⟨k - 1, by omega⟩
  have : x = w + 1 := by omega
  subst this
  have e1 : wrap64 ((y : Int) + 1) = ((y + 1 : Nat) : Int) := by unfold wrap64; omega
  refine ⟨k, by omega, ?_⟩
  rw [spec_fiText.l2, if_neg (by omega), e1]
 | succ d ih =>
  intro k x h1 h2 h3
  obtain ⟨k, rfl⟩ : ∃ q, k = q + 1 := ⟨k - 1, by omega⟩
  obtain ⟨k', p1, p2⟩ := ih k (x + 1) (by omega) (by omega) (by omega)
  have hk0 : 1000000 < k := by omega
  have hkk : k + 1 ≤ k' + (d + 1 + 1) := by omega
  have hx9 : x < 10 := by omega
  have hT9 : (T.length + x) + 1 ≤ 9223372036854775807 := by omega
  have hxw : (x : Int) ≤ (w : Int) := Int.ofNat_le.2 (by omega)
  have hyh : (y : Int) < (h : Int) := Int.ofNat_lt.2 hy
  clear h1 h2 h3 p1 ih
  have hfi := fiHas_upright g hf hu k hk0 (x : Int) (y : Int) (Int.natCast_nonneg _) hxw (Int.natCast_nonneg _) hyh
  rw [show (w : Int) * ((h : Int) + 1) = ((w * (h + 1) : Nat) : Int) by push_cast; rfl, show (y : Int) * ((w : Int) + 1) + (x : Int) = ((y * (w + 1) + x : Nat) : Int) by push_cast; rfl, Int.toNat_natCast, Int.toNat_natCast] at hfi
  have e1 : wrap64 ((x : Int) + 1) = ((x + 1 : Nat) : Int) := by clear hfi p2; unfold wrap64; omega
  refine ⟨k', hkk, ?_⟩
  have hs : (BA (T ++ rowL 124 (uprP w h (figMask (w : Int) (h : Int) a u) y) x)).size + 1 ≤ 9223372036854775807 := by rw [BA_size, List.length_append, rowL_len]; exact hT9
  rw [spec_fiText.l2, if_pos hxw, hfi, Option.bind_some, e1, ← p2, rowL_succ]
  by_cases hb : (figMask (w : Int) (h : Int) a u).testBit (w * (h + 1) + (y * (w + 1) + x)) = true
  ·have hb2 : uprP w h (figMask (w : Int) (h : Int) a u) y x = true := hb
   rw [if_pos hb, if_pos hs, if_pos hb2, BA_add, List.append_assoc]
  ·have hb2 : ¬ uprP w h (figMask (w : Int) (h : Int) a u) y x = true := hb
   rw [if_neg hb, if_pos hs, if_neg hb2, BA_add, List.append_assoc]
theorem ft_step (g : GridOK (w : Int) (h : Int)) (hf : figB (w : Int) (h : Int) a u = true) (ha : a.length ≤ 1000000) (hu : u.length ≤ 1000000) (k y : Nat) (hy : y ≤ h) (hk : 40 * (h - y) + 1000040 < k) (R : ByteArray)
  (hR : R = BA (Lib.join (textRows w h (figMask (w : Int) (h : Int) a u) (h + 1)) [47]))
  (next : y < h → ∀ k', 40 * (h - (y + 1)) + 1000040 < k' → spec_fiText.l0 k' (BA (Lib.join (textRows w h (figMask (w : Int) (h : Int) a u) (y + 1)) [47])) ((y + 1 : Nat) : Int) (w : Int) (h : Int) a u = some R) :
  spec_fiText.l0 k (BA (Lib.join (textRows w h (figMask (w : Int) (h : Int) a u) y) [47])) (y : Int) (w : Int) (h : Int) a u = some R := by
 have w4 : w ≤ 4 := by have := g.w4; omega
 have h4 : h ≤ 4 := by have := g.h4; omega
 have h1 : 1 ≤ h := by have := g.h1; omega
 obtain ⟨k, rfl⟩ : ∃ q, k = q + 2 := ⟨k - 2, by omega⟩
 have hrl := textRows_len w h (figMask (w : Int) (h : Int) a u) y hy
 have hjl := join_len [47] 5 (textRows w h (figMask (w : Int) (h : Int) a u) y) (fun x hx => Nat.le_trans (textRows_size w h (figMask (w : Int) (h : Int) a u) y x hx) (by omega))
 rw [hrl] at hjl
 have hne : 0 < y → textRows w h (figMask (w : Int) (h : Int) a u) y ≠ [] := fun hy0 e => by rw [e] at hrl; simp at hrl; omega
 -- the text ahead of the row
 obtain ⟨T, hT1, hT2, hT3⟩ : ∃ T : List UInt8, T.length ≤ 1000 ∧ (∀ x : List UInt8, Lib.join (textRows w h (figMask (w : Int) (h : Int) a u) y ++ [x]) [47] = T ++ x) ∧ spec_fiText.l0 (k + 2) (BA (Lib.join (textRows w h (figMask (w : Int) (h : Int) a u) y) [47])) (y : Int) (w : Int) (h : Int) a u = spec_fiText.l1 k (BA T) (y : Int) 0 (w : Int) (h : Int) a u := by
  have hyh : (y : Int) ≤ (h : Int) := Int.ofNat_le.2 hy
  by_cases hy0 : 0 < y
  ·refine ⟨Lib.join (textRows w h (figMask (w : Int) (h : Int) a u) y) [47] ++ [47], ?_, fun x => join_snoc _ x [47] (hne hy0), ?_⟩
   ·rw [List.length_append, List.length_singleton]
    simp only [List.length_singleton] at hjl
    omega
   ·have hy2 : (y : Int) > 0 := by omega
    have hs : (BA (Lib.join (textRows w h (figMask (w : Int) (h : Int) a u) y) [47])).size + 1 ≤ 9223372036854775807 := by
     rw [BA_size]
     simp only [List.length_singleton] at hjl
     omega
    rw [spec_fiText.l0, if_pos hyh, if_pos hy2, if_pos hs, spec_fiText.j1, BA_add]
  ·obtain rfl : y = 0 := by omega
   refine ⟨[], Nat.zero_le _, fun x => ?_, ?_⟩
   ·show Lib.join [x] [47] = x
    exact Lib.join_one x [47]
   ·rw [spec_fiText.l0, if_pos hyh, if_neg (by decide), spec_fiText.j1]
    rfl
 rw [hT3]
 obtain ⟨k1, p1, p2⟩ := ft_l1 g hf ha hu T hT1 y hy w k 0 (Nat.sub_zero _) (Nat.zero_le _) (by omega)
 rw [show rowL 45 (levP w (figMask (w : Int) (h : Int) a u) y) 0 = [] from rfl, List.append_nil] at p2
 refine p2.trans ?_
 by_cases hyh : y = h
 ·rw [if_pos hyh, hR]
  subst hyh
  rw [show textRows w y (figMask (w : Int) (y : Int) a u) (y + 1) = textRows w y (figMask (w : Int) (y : Int) a u) y ++ [rowL 45 (levP w (figMask (w : Int) (y : Int) a u) y) w] by rw [textRows, if_neg (Nat.lt_irrefl _)], hT2]
 ·rw [if_neg hyh]
  have hlt : y < h := by omega
  have hL : (rowL 45 (levP w (figMask (w : Int) (h : Int) a u) y) w).length = w := rowL_len _ _ _
  simp only [List.length_singleton] at hjl
  have hT1' : T.length ≤ 900 := by
   have e := hT2 []
   rw [List.append_nil] at e
   have hq := join_len [47] 5 (textRows w h (figMask (w : Int) (h : Int) a u) y ++ [[]]) (fun x hx => by
    rcases List.mem_append.1 hx with hx | hx
    ·exact Nat.le_trans (textRows_size w h (figMask (w : Int) (h : Int) a u) y x hx) (by omega)
    ·rw [List.mem_singleton.1 hx]; exact Nat.zero_le _)
   rw [e, List.length_append, hrl, List.length_singleton, List.length_singleton] at hq
   omega
  obtain ⟨k2, q1, q2⟩ := ft_l2 g hf ha hu (T ++ rowL 45 (levP w (figMask (w : Int) (h : Int) a u) y) w ++ [47]) (by rw [List.length_append, List.length_append, hL, List.length_singleton]; omega) y hlt (w + 1) k1 0 (Nat.sub_zero _) (Nat.zero_le _) (by omega)
  rw [show rowL 124 (uprP w h (figMask (w : Int) (h : Int) a u) y) 0 = [] from rfl, List.append_nil] at q2
  refine q2.trans ?_
  have n := next hlt k2 (by omega)
  rw [show textRows w h (figMask (w : Int) (h : Int) a u) (y + 1) = (textRows w h (figMask (w : Int) (h : Int) a u) y ++ [rowL 45 (levP w (figMask (w : Int) (h : Int) a u) y) w]) ++ [rowL 124 (uprP w h (figMask (w : Int) (h : Int) a u) y) (w + 1)] by rw [textRows, if_pos hlt], join_snoc _ _ _ (by simp), hT2] at n
  exact n
theorem ft_l0 (g : GridOK (w : Int) (h : Int)) (hf : figB (w : Int) (h : Int) a u = true) (ha : a.length ≤ 1000000) (hu : u.length ≤ 1000000) : ∀ (d k y : Nat), h - y = d → y ≤ h → 40 * d + 1000040 < k →
  spec_fiText.l0 k (BA (Lib.join (textRows w h (figMask (w : Int) (h : Int) a u) y) [47])) (y : Int) (w : Int) (h : Int) a u = some (BA (Lib.join (textRows w h (figMask (w : Int) (h : Int) a u) (h + 1)) [47])) := by
 intro d
 induction d with
 | zero =>
  intro k y h1 h2 h3
  exact ft_step g hf ha hu k y h2 (by omega) _ rfl (fun hy => absurd hy (by omega))
 | succ d ih =>
  intro k y h1 h2 h3
  exact ft_step g hf ha hu k y h2 (by omega) _ rfl (fun hy k' hk' => ih k' (y + 1) (by omega) (by omega) (by omega))
end
def figText (w h m : Nat) : ByteArray := BA (Lib.join (textRows w h m (h + 1)) [47])
theorem fiText_f {w h : Nat} {a u : List Int} (hf : figB (w : Int) (h : Int) a u = true) (ha : a.length ≤ 1000000) (hu : u.length ≤ 1000000) (k : Nat) (hk : 1001000 < k) : spec_fiText.f k (w : Int) (h : Int) a u = some (figText w h (figMask (w : Int) (h : Int) a u)) := by
 have g := gridOK_of hf
 have h4 : h ≤ 4 := by have := g.h4; omega
 exact ft_l0 g hf ha hu h k 0 (Nat.sub_zero _) (Nat.zero_le _) (by omega)
theorem figureText_f {w h : Nat} {a u : List Int} (hf : figB (w : Int) (h : Int) a u = true) (ha : a.length ≤ 1000000) (hu : u.length ≤ 1000000) (k : Nat) (hk : 2000010 < k) : impl_figureText.f k (w : Int) (h : Int) a u = some (figText w h (figMask (w : Int) (h : Int) a u)) := by
 have g := gridOK_of hf
 unfold impl_figureText.f
 rw [set_f hf ha hu k hk, Option.bind_some, if_pos ⟨⟨g.w1, g.w4⟩, g.h1, g.h4⟩, Int.toNat_natCast, Int.toNat_natCast]
 unfold joinB figText BA
 rw [figRows_text g (figMask_lt hf) (h + 1) (Nat.le_refl _)]
theorem FigureText_pure {w h : Int} {a u : List Int} (ha : a.length ≤ 1000000) (hu : u.length ≤ 1000000) : ∃ r1 r2, spec_FigureText.f 4000001 w h a u = some (r1, r2) ∧ impl_FigureText.f 4000001 w h a u = some (r1, r2) := by
 cases hf : figB w h a u with
 | false =>
  refine ⟨⟨#[]⟩, false, ?_, ?_⟩
  ·unfold spec_FigureText.f
   rw [fiGood_f w h a u ha hu _ (by decide), hf, Option.bind_some, if_neg (by decide)]
  ·unfold impl_FigureText.f
   rw [IsFigure_f w h a u ha hu _ (by decide), hf, Option.bind_some, if_neg (by decide)]
 | true =>
  have gg := gridOK_of hf
  obtain ⟨W, rfl⟩ := Int.eq_ofNat_of_zero_le (show 0 ≤ w by have := gg.w1; omega)
  obtain ⟨H, rfl⟩ := Int.eq_ofNat_of_zero_le (show 0 ≤ h by have := gg.h1; omega)
  refine ⟨figText W H (figMask (W : Int) (H : Int) a u), true, ?_, ?_⟩
  ·unfold spec_FigureText.f
   rw [fiGood_f _ _ a u ha hu _ (by decide), hf, Option.bind_some, if_pos rfl, fiText_f hf ha hu _ (by decide), Option.bind_some]
  ·unfold impl_FigureText.f
   rw [IsFigure_f _ _ a u ha hu _ (by decide), hf, Option.bind_some, if_pos rfl, figureText_f hf ha hu _ (by decide), Option.bind_some]

end Go.Proofs.Yteaglkpplgbpaaa.P
namespace Go.Proofs.Yteaglkpplgbpaaa.fnExactFigureText
open Go.ChangeShapes Go.WideShapes Go.ChangeAt Go.RowKit Go.Proofs.YteaglkpplgbpaaaW.PrintWords Go.Joins
set_option linter.unusedVariables false
theorem own : ownKnob Try.prog.godebug = none := Closed.own
theorem laidOut : laidOutB Try.prog = true := Closed.laidOut
def IsRow (k : IntKind) (w : World) (a : Option Addr) (len cap : Nat) (zs : List Int) : Prop :=
 (a = none ∧ len = 0 ∧ cap = 0 ∧ zs = []) ∨
 ∃ x, a = some x ∧ len ≤ cap ∧ cap ≤ maxLen ∧ zs.length = cap ∧ (∀ i, i < zs.length → w.cell? (x.add i) = some (.int k (zs.getD i 0))) ∧ ∀ n ∈ zs, (Lit.int k n).wf = true
theorem opened {H : Type} {enc : TypeId × Value → H} {W : World} {m : Nat} {c : Value} {y : DataW H × List MemPlace} (hy : DataW.trod enc Try.prog W 0 (fun _ => true) true m 22 [c] = some y) :
  ∃ a len cap zs, c = .slice a len cap ∧ IsRow .i64 W a len cap zs := by
 rcases open_ints Try.underlying22 Try.underlying3 (by kernel_rfl) hy with ⟨hcs, _⟩ | ⟨x, l, c, zs, hcs, _, hl, hm, hz, _, hcell, hwz⟩
 ·simp at hcs
  exact ⟨none, 0, 0, [], hcs, .inl ⟨rfl, rfl, rfl, rfl⟩⟩
 ·simp at hcs
  exact ⟨some x, l, c, zs, hcs, .inr ⟨_, rfl, hl, hm, by simpa using hz, hcell, hwz⟩⟩
theorem walk (a b : Int) (A2 : Option Addr) (n2 c2 : Nat) (z2 : List Int) (A3 : Option Addr) (n3 c3 : Nat) (z3 : List Int)  (w : World) (w2 : IsRow .i64 w A2 n2 c2 z2) (w3 : IsRow .i64 w A3 n3 c3 z3) (y2 : n2 * 8 ≤ 140737488351232) (y3 : n3 * 8 ≤ 140737488351232) :
  Calls Try.prog 3 #[.agg #[.int .i64 a, .int .i64 b, .slice A2 n2 c2, .slice A3 n3 c3]] w fun e w' => e = .returned (.bool true) ∧ Below w.heap.size w w' := by
 obtain ⟨l2, rfl, hr2, hm2, hw2, hc2⟩ := ReadsInt.ofRowC w2
 obtain ⟨l3, rfl, hr3, hm3, hw3, hc3⟩ := ReadsInt.ofRowC w3
 have k2 := Kd.C_of_reads (d := (0 : Int)) (h1 := fun _ => rfl) hr2
 have k3 := Kd.C_of_reads (d := (0 : Int)) (h1 := fun _ => rfl) hr3
 by_cases hbig : l2.length + l3.length ≤ 1000000
 ·have b2 : l2.length ≤ 1000000 := Nat.le_trans (Nat.le_add_right _ _) hbig
  have b3 : l3.length ≤ 1000000 := Nat.le_trans (Nat.le_add_left _ _) hbig
  obtain ⟨r1, r2, hp1, hp2⟩ := P.FigureText_pure (w := a) (h := b) (a := l2) (u := l3) b2 b3 
  exact P.law_FigureText_yes a b A2 c2 l2 A3 c3 l3  4000001 r1 r2 (fun _ => True) (fun _ _ _ _ => trivial) w k2 hc2 k3 hc3 trivial hbig (Nat.lt_succ_self _)
   (fun B2 d2 B3 d3 W hu2 hd2 hu3 hd3 _ => P.spec_FigureText.calls 4000001 a b B2 d2 l2 B3 d3 l3  r1 r2 W hu2 hd2 hu3 hd3 hp1)
   (fun B2 d2 B3 d3 W hu2 hd2 hu3 hd3 _ => P.impl_FigureText.calls 4000001 a b B2 d2 l2 B3 d3 l3  r1 r2 W hu2 hd2 hu3 hd3 hp2)
 ·exact P.law_FigureText_no a b A2 c2 l2 A3 c3 l3  w k2 hc2 k3 hc3 (by clear hbig; omega) (by clear hbig; omega) hbig
theorem joined_mk (P : Program) (f : FuncId) (fn : Func) (s : ChangeSpec) (c : OpenClaim) (k0 : (c.wf (OpenSpec.ofChange s)) = true) (k1 : (laidOutB P) = true) (k2 : (mapsRowed P) = true) (k3 : (fn.params.all (P.readableRec ·)) = true) (k4 : (namedTie P c.named s.vars) = true) (k5 : ((c.stops == [])) = true) (k6 : ((P.stops == [])) = true) (k7 : ((c.knobs == [])) = true) (k8 : ((P.stopKnobs == [])) = true) (k9 : ((c.inPlace == P.inPlace f)) = true) (k10 : ((c.unfollowed == P.unfollowed f)) = true) (k11 : ((c.recurses == P.recurses f)) = true) (k12 : ((c.named == P.varsNamed f)) = true) (k13 : ((c.maps == (fn.params.toList ++ s.plain.varTypes P).any (P.mapsRec ·))) = true) (k14 : ((c.ifaces == (fn.params.toList ++ s.plain.varTypes P).any (P.ifacesRec ·))) = true) (k15 : ((c.mapsOut == P.mapsAmong fn.resultTypes.toList)) = true) (k16 : ((c.loops == (fn.params.toList ++ s.plain.varTypes P).any (P.loopsFrom ·))) = true) (k17 : ((c.wideKeys == (fn.params.toList ++ s.plain.varTypes P ++ fn.resultTypes.toList).any (P.wideKeysFrom ·))) = true) (k18 : (s.vars.all (P.varReadable ·)) = true) (k19 : (fn.resultTypes.all (fun t => P.readableRec t && decide (t < P.types.size))) = true) (k20 : ((c.ifacesOut == fn.resultTypes.toList.any (P.ifacesRec ·))) = true) (k21 : ((c.loopsOut == fn.resultTypes.toList.any (P.loopsFrom ·))) = true) (k22 : ((c.plainKeys == P.plainKeys)) = true) (k23 : (c.shortTexts.isNone) = true) (k24 : (P.stopsHeard) = true) (k25 : (P.mayEnter) = true) (k26 : ((c.lifted == P.liftsFinal)) = true) (k27 : ((P.make == some c.make)) = true) (hd : c.domain.isEmpty = true) (k28 : (c.kinds == []) = true) (k29 : ((c.pinned == c.pinnedBy)) = true) (k30 : ((c.veiled == (fn.params.toList ++ s.plain.varTypes P ++ fn.resultTypes.toList).any (P.veiledRec ·))) = true) (k31 : (c.veiledFits P fn.params.toList (fn.params.toList ++ s.plain.varTypes P ++ fn.resultTypes.toList)) = true) : joinedFacts P f fn s c = true := by
 unfold joinedFacts
 simp only [hd, if_true, k0, k1, k2, k3, k4, k5, k6, k7, k8, k9, k10, k11, k12, k13, k14, k15, k16, k17, k18, k19, k20, k21, k22, k23, k24, k25, k26, k27, k28, k29, k30, k31, Bool.and_self]
set_option maxRecDepth 100000 in
theorem lifted (os : Os) (started : os.Started) (H : Type) (enc : TypeId × Value → H) :
  ReturnsInHanded {} Try.checked os 3 .any (Rows.fnExactFigureTextSpec.pre6 enc Try.prog Try.f3 Rows.fnExactFigureTextRow.domain false) (Rows.fnExactFigureTextSpec.post enc Try.prog Try.f3 false true false false) := by
 refine returnsInHanded_of_change_sized (C := Try.checked) own started (by kernel_rfl) Try.func3
  (ChangeSpec.witness6 (enc := enc) (C := Try.checked) false ⟨#[], #[.agg #[.int .i64 0, .int .i64 0, .slice none 0 0, .slice none 0 0]], []⟩ 8 (by kernel_rfl) (by kernel_rfl) (by kernel_rfl) (by kernel_rfl)) ?_
 intro W base args ds gs before hval0 hW hcnd hsz0 _
 have hsz : (DataW.weightsEach Try.prog (Try.f3.params.toList ++ Rows.fnExactFigureTextSpec.plain.varTypes Try.prog) (ds ++ gs)).all (· ≤ reachBytes) = true := hsz0
 have hval : ∀ (j : Nat) t v, Try.f3.params[j]? = some t → args[j]? = some v → Value.okWide Try.prog W .any base t v := hval0
 have hW' := hW
 obtain ⟨p, q, hA0, hV, rfl, hfz, hnd⟩ := hW
 have hA : DataW.TrodAll enc Try.prog W 0 (fun _ => true) true Try.f3.params.toList args.toList ds p := hA0
 rw [Try.params3] at hA hval hsz
 obtain ⟨v0, vs0, d0, ds0, p0, q0, hargs, rfl, rfl, h0, r0⟩ := trodAll_cons hA
 obtain ⟨rfl, rfl, rfl⟩ := trodAll_nil r0
 obtain rfl : args = #[v0] := by cases args; simp_all
 obtain ⟨rfl, rfl⟩ := trodVars_none hV
 have k0 := h0
 have lt0 : ∀ x ∈ p0, x.block < W.heap.size := by obtain ⟨m, hm⟩ := k0; exact DataW.trod_lt m _ _ _ hm

 obtain ⟨c0, c1, c2, c3, y0, y1, y2, y3, m, rfl, rfl, rfl, hy0, hy1, hy2, hy3⟩ := open_agg4 Try.underlying24 (by kernel_rfl) (by kernel_rfl) (hval 0 24 v0 rfl rfl) h0
 have hsz2 : (DataW.weightsEach Try.prog [3, 3, 22, 22] [y0.1, y1.1, y2.1, y3.1]).all (· ≤ reachBytes) = true := by
  rw [List.all_eq_true]
  intro n hn
  exact List.all_eq_true.1 hsz n (DataW.weights_mem_each (j := 0) (t := 24) (d := .agg [y0.1, y1.1, y2.1, y3.1]) rfl rfl n (by simp only [DataW.weights, Try.underlying24]; exact hn))
 obtain ⟨a, e0, -, wa⟩ := DataW.trod_int Try.underlying3 hy0
 obtain ⟨b, e1, -, wb⟩ := DataW.trod_int Try.underlying3 hy1
 obtain ⟨a2, len2, cap2, z2, rfl, w2⟩ := opened hy2
 obtain ⟨a3, len3, cap3, z3, rfl, w3⟩ := opened hy3
 have z2_ : len2 * 8 ≤ 140737488351232 := sized_ints hsz2 (j := 2) (t := 22) rfl rfl Try.underlying22 Try.underlying3 (by kernel_rfl) (by kernel_rfl) (⟨m, by simpa [Value.cells] using hy2⟩ : DataW.Trod enc Try.prog W 0 (fun _ => true) true 22 (.slice a2 len2 cap2) y2.1 y2.2)
 have z3_ : len3 * 8 ≤ 140737488351232 := sized_ints hsz2 (j := 3) (t := 22) rfl rfl Try.underlying22 Try.underlying3 (by kernel_rfl) (by kernel_rfl) (⟨m, by simpa [Value.cells] using hy3⟩ : DataW.Trod enc Try.prog W 0 (fun _ => true) true 22 (.slice a3 len3 cap3) y3.1 y3.2)
 obtain rfl : c0 = .int .i64 a := by simpa using e0
 obtain rfl : c1 = .int .i64 b := by simpa using e1
 clear hA0 hval0 hsz0 hsz hsz2
 refine (walk a b a2 len2 cap2 z2 a3 len3 cap3 z3  W w2 w3 z2_ z3_).mono fun e W' ⟨he, bel⟩ => ?_
 subst he
 exact ⟨_, rfl, _, _, _, [], _, [], hW', trodAll_mk1 (shut_bool Try.underlying4 _), (trodAll_cons_mk (Below.trod laidOut (by kernel_rfl) (of_decide_eq_true (by kernel_rfl)) k0 bel lt0) trodAll_mk0), rfl, bel.frame _, fun h => by cases h⟩
theorem k0_ : (Rows.fnExactFigureTextRow.wf (OpenSpec.ofChange Rows.fnExactFigureTextSpec)) = true := by kernel_rfl
theorem k1_ : (laidOutB Try.prog) = true := Closed.laidOut
theorem k2_ : (mapsRowed Try.prog) = true := Closed.mapsRowedP
theorem k3_ : (Try.f3.params.all (Try.prog.readableRec ·)) = true := by kernel_rfl
theorem k4_ : (namedTie Try.prog Rows.fnExactFigureTextRow.named Rows.fnExactFigureTextSpec.vars) = true := by kernel_rfl
theorem k5_ : ((Rows.fnExactFigureTextRow.stops == [])) = true := by kernel_rfl
theorem k6_ : ((Try.prog.stops == [])) = true := Closed.noStops
theorem k7_ : ((Rows.fnExactFigureTextRow.knobs == [])) = true := by kernel_rfl
theorem k8_ : ((Try.prog.stopKnobs == [])) = true := Closed.noKnobs
theorem k9_ : ((Rows.fnExactFigureTextRow.inPlace == Try.prog.inPlace 3)) = true := by kernel_rfl
theorem k10_ : ((Rows.fnExactFigureTextRow.unfollowed == Try.prog.unfollowed 3)) = true := by kernel_rfl
theorem k11_ : ((Rows.fnExactFigureTextRow.recurses == Try.prog.recurses 3)) = true := by kernel_rfl
theorem k12_ : ((Rows.fnExactFigureTextRow.named == Try.prog.varsNamed 3)) = true := by kernel_rfl
theorem k13_ : ((Rows.fnExactFigureTextRow.maps == (Try.f3.params.toList ++ Rows.fnExactFigureTextSpec.plain.varTypes Try.prog).any (Try.prog.mapsRec ·))) = true := by kernel_rfl
theorem k14_ : ((Rows.fnExactFigureTextRow.ifaces == (Try.f3.params.toList ++ Rows.fnExactFigureTextSpec.plain.varTypes Try.prog).any (Try.prog.ifacesRec ·))) = true := by kernel_rfl
theorem k15_ : ((Rows.fnExactFigureTextRow.mapsOut == Try.prog.mapsAmong Try.f3.resultTypes.toList)) = true := by kernel_rfl
theorem k16_ : ((Rows.fnExactFigureTextRow.loops == (Try.f3.params.toList ++ Rows.fnExactFigureTextSpec.plain.varTypes Try.prog).any (Try.prog.loopsFrom ·))) = true := by kernel_rfl
theorem k17_ : ((Rows.fnExactFigureTextRow.wideKeys == (Try.f3.params.toList ++ Rows.fnExactFigureTextSpec.plain.varTypes Try.prog ++ Try.f3.resultTypes.toList).any (Try.prog.wideKeysFrom ·))) = true := by kernel_rfl
theorem k18_ : (Rows.fnExactFigureTextSpec.vars.all (Try.prog.varReadable ·)) = true := by kernel_rfl
theorem k19_ : (Try.f3.resultTypes.all (fun t => Try.prog.readableRec t && decide (t < Try.prog.types.size))) = true := by kernel_rfl
theorem k20_ : ((Rows.fnExactFigureTextRow.ifacesOut == Try.f3.resultTypes.toList.any (Try.prog.ifacesRec ·))) = true := by kernel_rfl
theorem k21_ : ((Rows.fnExactFigureTextRow.loopsOut == Try.f3.resultTypes.toList.any (Try.prog.loopsFrom ·))) = true := by kernel_rfl
theorem k22_ : ((Rows.fnExactFigureTextRow.plainKeys == Try.prog.plainKeys)) = true := by kernel_rfl
theorem k23_ : (Rows.fnExactFigureTextRow.shortTexts.isNone) = true := by kernel_rfl
theorem k24_ : (Try.prog.stopsHeard) = true := Closed.stopsHeard
theorem k25_ : (Try.prog.mayEnter) = true := Closed.mayEnter
theorem k26_ : ((Rows.fnExactFigureTextRow.lifted == Try.prog.liftsFinal)) = true := by rw [Closed.liftsFinal]; kernel_rfl
theorem k27_ : ((Try.prog.make == some Rows.fnExactFigureTextRow.make)) = true := by rw [Closed.make]; kernel_rfl
theorem k28_ : ((Rows.fnExactFigureTextRow.kinds == [])) = true := by kernel_rfl
theorem k29_ : ((Rows.fnExactFigureTextRow.pinned == Rows.fnExactFigureTextRow.pinnedBy)) = true := by kernel_rfl
theorem k30_ : ((Rows.fnExactFigureTextRow.veiled == (Try.f3.params.toList ++ Rows.fnExactFigureTextSpec.plain.varTypes Try.prog ++ Try.f3.resultTypes.toList).any (Try.prog.veiledRec ·))) = true := by kernel_rfl
theorem k31_ : (Rows.fnExactFigureTextRow.veiledFits Try.prog Try.f3.params.toList (Try.f3.params.toList ++ Rows.fnExactFigureTextSpec.plain.varTypes Try.prog ++ Try.f3.resultTypes.toList)) = true := by kernel_rfl
theorem k99_ : (Rows.fnExactFigureTextRow.domain.isEmpty) = true := by kernel_rfl
theorem closed : joinedFacts Try.prog 3 Try.f3 Rows.fnExactFigureTextSpec Rows.fnExactFigureTextRow = true :=
 joined_mk _ _ _ _ _ k0_ k1_ k2_ k3_ k4_ k5_ k6_ k7_ k8_ k9_ k10_ k11_ k12_ k13_ k14_ k15_ k16_ k17_ k18_ k19_ k20_ k21_ k22_ k23_ k24_ k25_ k26_ k27_ k99_ k28_ k29_ k30_ k31_
theorem over : Rows.fnExactFigureTextRow.holds Try.pinned (OpenSpec.ofChange Rows.fnExactFigureTextSpec) :=
 OpenClaim.holds_of_wide 3 Try.f3 rfl rfl rfl rfl rfl rfl rfl ⟨rfl, rfl, rfl, rfl, rfl⟩ rfl rfl rfl rfl rfl (by kernel_rfl) Try.func3 closed
  (of_decide_eq_true (by kernel_rfl)) (by unfold Func.isWrapper; first | (rw [if_pos (by decide +kernel)]; kernel_rfl) | (rw [if_neg (by decide +kernel)]; exact ⟨rfl, rfl⟩))
  (fun os started H enc _ => lifted os started H enc)
theorem proved : Rows.FnExactFigureTextSaid := over
end Go.Proofs.Yteaglkpplgbpaaa.fnExactFigureText
namespace Go.Proofs.Yteaglkpplgbpaaa
theorem fnExactFigureText_holds : Rows.FnExactFigureTextSaid := fnExactFigureText.proved
end Go.Proofs.Yteaglkpplgbpaaa
