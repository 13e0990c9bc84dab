/- For every input the law FnExactRegionsOf answers true: the program's RegionsOf tells what the reference's RegionsOf tells; no condition. (part 5 of the proof; the words of the kit's print tool and the texts of this seat, merged by a program) -/
import Derived.Below
import Derived.ChangeOld
import Derived.JoinedOf
import Derived.Lib.SmallJoins
import Derived.OpenShut
import Derived.ProofKit
import Derived.SizedLaws
import Derived.Test.YteaglkpplgbpaaaClosed
import Derived.Test.YteaglkpplgbpaaaRows
import Derived.WalkKit
import Derived.Test.YteaglkpplgbpaaaMRGO4
namespace Go.Proofs.Yteaglkpplgbpaaa.P
open Go.RowKit Go.Proofs.YteaglkpplgbpaaaW.PrintWords Go.Proofs.YteaglkpplgbpaaaW.PrintLast Go.Proofs.YteaglkpplgbpaaaW.PrintMore
attribute [local go_sem] max2_int min2_int max_two min_two max_three min_three max_four min_four   -- for this text's walks alone
set_option linter.unusedVariables false
set_option linter.unusedSimpArgs false

theorem count_set : ∀ (S : List Bool) (b : Nat), b < S.length → S.getD b false = false → (S.set b true).count false + 1 = S.count false
  | [], b, h, _ => by simp at h
  | x :: S, 0, _, h2 => by
    have hx : x = false := by simpa using h2
    subst hx
    rw [List.set_cons_zero, List.count_cons, List.count_cons]
    rfl
  | x :: S, b + 1, h1, h2 => by
    have := count_set S b (by simpa using h1) (by simpa using h2)
    rw [List.set_cons_succ, List.count_cons, List.count_cons]
    omega
theorem getD_set (S : List Bool) (b u : Nat) (hb : b < S.length) : (S.set b true).getD u false = if u = b then true else S.getD u false := by
  rw [List.getD_eq_getElem?_getD, List.getD_eq_getElem?_getD, List.getElem?_set]
  by_cases h : b = u
  · subst h
    rw [if_pos rfl, if_pos rfl, if_pos hb]
    rfl
  · rw [if_neg h, if_neg (fun q : u = b => h q.symm)]
def CAdj (w h m : Nat) (a b : Nat) : Prop := AdjM (besN w h) m (edgN w h) a b ∧ a < w * h ∧ b < w * h
theorem CAdj.symm {w h m a b : Nat} (H : CAdj w h m a b) : CAdj w h m b a := ⟨H.1.symm, H.2.2, H.2.1⟩
def DoneD (w h m : Nat) (S : List Bool) (o : Bool) (u d : Nat) : Prop := m.testBit (dirE w h u d) = false → (dirN w h u d = w * h ∧ o = true) ∨ (dirN w h u d ≠ w * h ∧ S.getD (dirN w h u d) false = true)
structure BInv (w h m s0 : Nat) (P0 : Nat → Prop) (S : List Bool) (q : List Nat) (o : Bool) (D : Nat → Nat → Prop) : Prop where
  len : S.length = w * h
  mem : ∀ u ∈ q, u < w * h ∧ Conn (CAdj w h m) s0 u
  seen : ∀ u, u < w * h → (S.getD u false = true ↔ (P0 u ∨ u ∈ q))
  opn : o = true → ∃ u, u < w * h ∧ Conn (CAdj w h m) s0 u ∧ AdjM (besN w h) m (edgN w h) u (w * h)
  done : ∀ u d, D u d → DoneD w h m S o u d
def dst (w h m c : Nat) (s : List Bool × List Nat × Bool) (d : Nat) : List Bool × List Nat × Bool :=
  if m.testBit (dirE w h c d) = true then s else if dirN w h c d = w * h then (s.1, s.2.1, true) else if s.1.getD (dirN w h c d) false = true then s else (s.1.set (dirN w h c d) true, s.2.1 ++ [dirN w h c d], s.2.2)
theorem BInv.next {w h m s0 : Nat} {P0 : Nat → Prop} (g : Grid4 w h) {s : List Bool × List Nat × Bool} {D : Nat → Nat → Prop} (I : BInv w h m s0 P0 s.1 s.2.1 s.2.2 D) {c d : Nat} (hc : c ∈ s.2.1) (hd : d < 4) :
    BInv w h m s0 P0 (dst w h m c s d).1 (dst w h m c s d).2.1 (dst w h m c s d).2.2 (fun u e => D u e ∨ (u = c ∧ e = d)) ∧ (dst w h m c s d).2.1.length + (dst w h m c s d).1.count false = s.2.1.length + s.1.count false ∧ ∃ t, (dst w h m c s d).2.1 = s.2.1 ++ t := by
  obtain ⟨hcn, hcc⟩ := I.mem c hc
  obtain ⟨f1, f2, f3⟩ := dirF g hcn hd
  unfold dst
  by_cases h1 : m.testBit (dirE w h c d) = true
  · rw [if_pos h1]
    refine ⟨⟨I.len, I.mem, I.seen, I.opn, ?_⟩, rfl, [], by rw [List.append_nil]⟩
    rintro u e (hD | ⟨rfl, rfl⟩)
    · exact I.done u e hD
    · intro h2; rw [h1] at h2; cases h2
  · rw [if_neg h1]
    have h1' : m.testBit (dirE w h c d) = false := by simpa using h1
    have had : AdjM (besN w h) m (edgN w h) c (dirN w h c d) := (dirAdj g hcn).2 ⟨d, hd, h1', rfl⟩
    by_cases h2 : dirN w h c d = w * h
    · rw [if_pos h2]
      refine ⟨⟨I.len, I.mem, I.seen, fun _ => ⟨c, hcn, hcc, h2 ▸ had⟩, ?_⟩, rfl, [], by rw [List.append_nil]⟩
      rintro u e (hD | ⟨rfl, rfl⟩)
      · intro h3
        rcases I.done u e hD h3 with ⟨q1, -⟩ | q
        · exact .inl ⟨q1, rfl⟩
        · exact .inr q
      · intro _; exact .inl ⟨h2, rfl⟩
    · rw [if_neg h2]
      have hbn : dirN w h c d < w * h := by omega
      by_cases h3 : s.1.getD (dirN w h c d) false = true
      · rw [if_pos h3]
        refine ⟨⟨I.len, I.mem, I.seen, I.opn, ?_⟩, rfl, [], by rw [List.append_nil]⟩
        rintro u e (hD | ⟨rfl, rfl⟩)
        · exact I.done u e hD
        · intro _; exact .inr ⟨h2, h3⟩
      · rw [if_neg h3]
        have h3' : s.1.getD (dirN w h c d) false = false := by simpa using h3
        have hbl : dirN w h c d < s.1.length := by rw [I.len]; exact hbn
        have hcb : Conn (CAdj w h m) s0 (dirN w h c d) := hcc.step ⟨had, hcn, hbn⟩
        refine ⟨⟨by rw [List.length_set]; exact I.len, ?_, ?_, I.opn, ?_⟩, ?_, [dirN w h c d], rfl⟩
        · intro u hu
          rcases List.mem_append.1 hu with hu | hu
          · exact I.mem u hu
          · rw [List.mem_singleton] at hu; subst hu; exact ⟨hbn, hcb⟩
        · intro u hu
          rw [getD_set _ _ _ hbl, List.mem_append, List.mem_singleton]
          by_cases hub : u = dirN w h c d
          · rw [if_pos hub]
            exact ⟨fun _ => .inr (.inr hub), fun _ => rfl⟩
          · rw [if_neg hub, I.seen u hu]
            constructor
            · rintro (q | q)
              · exact .inl q
              · exact .inr (.inl q)
            · rintro (q | q | q)
              · exact .inl q
              · exact .inr q
              · exact absurd q hub
        · rintro u e (hD | ⟨rfl, rfl⟩)
          · intro h4
            rcases I.done u e hD h4 with q | ⟨q1, q2⟩
            · exact .inl q
            · refine .inr ⟨q1, ?_⟩
              rw [getD_set _ _ _ hbl]
              split
              · rfl
              · exact q2
          · intro _
            refine .inr ⟨h2, ?_⟩
            rw [getD_set _ _ _ hbl, if_pos rfl]
        · dsimp only
          have := count_set s.1 (dirN w h c d) hbl h3'
          rw [List.length_append, List.length_singleton]
          omega


def dX (d : Nat) : Int := if d = 1 then 1 else if d = 3 then -1 else 0
def dY (d : Nat) : Int := if d = 0 then -1 else if d = 2 then 1 else 0
theorem cell_xy {w h c : Nat} (hc : c < w * h) : c % w < w ∧ c / w < h ∧ c = c / w * w + c % w := by
 have hw : 0 < w := by
  rcases Nat.eq_zero_or_pos w with q | q
  ·subst q; simp at hc
  ·exact q
 refine ⟨Nat.mod_lt _ hw, Nat.div_lt_of_lt_mul hc, ?_⟩
 have := Nat.div_add_mod c w
 rw [Nat.mul_comm] at this
 omega
theorem nb_xy {w h c d : Nat} (g : Grid4 w h) (hc : c < w * h) (hd : d < 4) :
  (dirN w h c d = w * h ∧ (decide (0 ≤ ((c % w : Nat) : Int) + dX d) && decide (((c % w : Nat) : Int) + dX d ≤ (w : Int) - 1) && (decide (0 ≤ ((c / w : Nat) : Int) + dY d) && decide (((c / w : Nat) : Int) + dY d ≤ (h : Int) - 1))) = false) ∨
  (dirN w h c d ≠ w * h ∧ (decide (0 ≤ ((c % w : Nat) : Int) + dX d) && decide (((c % w : Nat) : Int) + dX d ≤ (w : Int) - 1) && (decide (0 ≤ ((c / w : Nat) : Int) + dY d) && decide (((c / w : Nat) : Int) + dY d ≤ (h : Int) - 1))) = true ∧ wrap64 (wrap64 ((((c / w : Nat) : Int) + dY d) * (w : Int)) + (((c % w : Nat) : Int) + dX d)) = (dirN w h c d : Int)) := by
 obtain ⟨h1, h2, h3⟩ := cell_xy hc
 obtain ⟨w1, w4, g1, g4⟩ := g
 have cw : w = 1 ∨ w = 2 ∨ w = 3 ∨ w = 4 := by omega
 have cd : d = 0 ∨ d = 1 ∨ d = 2 ∨ d = 3 := by omega
 rw [← Bool.not_eq_true]
 simp only [Bool.and_eq_true, decide_eq_true_eq]
 unfold dirN wrap64
 rcases cw with rfl | rfl | rfl | rfl <;> rcases cd with rfl | rfl | rfl | rfl <;> simp only [dX, dY, reduceIte, Nat.reduceEqDiff, reduceCtorEq] <;> (split <;> omega)
theorem rs_j {w h : Nat} (k : Nat) (S : List Bool) (out : List (List Int)) (q : List Nat) (cells : List Int) (o : Bool) (p x y d u v n st : Int) (a0 a1 : Int) (l2 l3 : List Int) (b : Nat) (inr : Bool) (hin : inr = true → wrap64 (wrap64 (v * (w : Int)) + u) = (b : Int) ∧ b < S.length) (hq : q.length < 100) :
  spec_liRegions.j3 (k + 1) (w : Int) (h : Int) S out (q.map fun i : Nat => (i : Int)) cells o p x y d u v n st (!inr) a0 a1 l2 l3 =
   if inr = false then spec_liRegions.l2 k (w : Int) (h : Int) S out (q.map fun i : Nat => (i : Int)) cells true p x y (wrap64 (d + 1)) n st a0 a1 l2 l3
   else if S.getD b false = true then spec_liRegions.l2 k (w : Int) (h : Int) S out (q.map fun i : Nat => (i : Int)) cells o p x y (wrap64 (d + 1)) n st a0 a1 l2 l3
   else spec_liRegions.l2 k (w : Int) (h : Int) (S.set b true) out ((q ++ [b]).map fun i : Nat => (i : Int)) cells o p x y (wrap64 (d + 1)) n st a0 a1 l2 l3 := by
 cases inr with
 | false => rw [spec_liRegions.j3, if_pos (show (!false) = true from rfl), if_pos (show false = false from rfl)]
 | true =>
  obtain ⟨e1, e2⟩ := hin rfl
  have hrd : rdOf false S (b : Int) = S.getD b false := by unfold rdOf; rw [Int.toNat_natCast]
  have c1 : (0 : Int) ≤ (b : Int) := Int.natCast_nonneg b
  have c2 : (b : Int) < (S.length : Int) := Int.ofNat_lt.2 e2
  have c3 : (q.map fun i : Nat => (i : Int)).length < 17592186044416 := by rw [List.length_map]; omega
  rw [spec_liRegions.j3, if_neg (by decide), e1, if_pos c1, if_pos c2, hrd, Int.toNat_natCast]
  rw [if_neg (show ¬ (true = false) by decide)]
  by_cases hs : S.getD b false = true
  ·rw [if_pos hs, if_pos hs]
  ·rw [if_neg hs, if_neg hs, if_pos c3, List.map_append]
   rfl
theorem walls_f {w h : Nat} {a u : List Int} (hf : figB (w : Int) (h : Int) a u = true) (ha : a.length ≤ 1000000) (hu : u.length ≤ 1000000) {c : Nat} (hc : c < w * h) (k : Nat) (hk : 1000000 < k) :
  spec_fiHas.f k (w : Int) (h : Int) a u false ((c % w : Nat) : Int) ((c / w : Nat) : Int) = some ((figMask (w : Int) (h : Int) a u).testBit (dirE w h c 0)) ∧
  spec_fiHas.f k (w : Int) (h : Int) a u true (wrap64 (((c % w : Nat) : Int) + 1)) ((c / w : Nat) : Int) = some ((figMask (w : Int) (h : Int) a u).testBit (dirE w h c 1)) ∧
  spec_fiHas.f k (w : Int) (h : Int) a u false ((c % w : Nat) : Int) (wrap64 (((c / w : Nat) : Int) + 1)) = some ((figMask (w : Int) (h : Int) a u).testBit (dirE w h c 2)) ∧
  spec_fiHas.f k (w : Int) (h : Int) a u true ((c % w : Nat) : Int) ((c / w : Nat) : Int) = some ((figMask (w : Int) (h : Int) a u).testBit (dirE w h c 3)) := by
 have g := gridOK_of hf
 have w4 := g.w4
 have h4 := g.h4
 obtain ⟨q1, q2, -⟩ := cell_xy hc
 unfold dirE
 generalize c % w = x at q1 ⊢
 generalize c / w = y at q2 ⊢
 have wn : w ≤ 4 := by omega
 have hn : h ≤ 4 := by omega
 have e1 : wrap64 ((x : Int) + 1) = ((x + 1 : Nat) : Int) := by unfold wrap64; omega
 have e2 : wrap64 ((y : Int) + 1) = ((y + 1 : Nat) : Int) := by unfold wrap64; omega
 have x0 : (0 : Int) ≤ (x : Int) := Int.natCast_nonneg _
 have y0 : (0 : Int) ≤ (y : Int) := Int.natCast_nonneg _
 have x1 : (x : Int) < (w : Int) := Int.ofNat_lt.2 q1
 have y1 : (y : Int) < (h : Int) := Int.ofNat_lt.2 q2
 have x2 : ((x + 1 : Nat) : Int) ≤ (w : Int) := Int.ofNat_le.2 q1
 have y2 : ((y + 1 : Nat) : Int) ≤ (h : Int) := Int.ofNat_le.2 q2
 have t0 : ∀ a b : Nat, ((a : Int) * (w : Int) + (b : Int)).toNat = a * w + b := fun a b => by
  rw [← Int.natCast_mul, ← Int.natCast_add, Int.toNat_natCast]
 have t1 : ∀ a b : Nat, ((w : Int) * ((h : Int) + 1)).toNat + ((a : Int) * ((w : Int) + 1) + (b : Int)).toNat = w * (h + 1) + (a * (w + 1) + b) := fun a b => by
  rw [show (w : Int) * ((h : Int) + 1) = ((w * (h + 1) : Nat) : Int) by push_cast; rfl, show (a : Int) * ((w : Int) + 1) + (b : Int) = ((a * (w + 1) + b : Nat) : Int) by push_cast; rfl, Int.toNat_natCast, Int.toNat_natCast]
 refine ⟨?_, ?_, ?_, ?_⟩
 ·rw [fiHas_level g hf ha k hk _ _ x0 x1 y0 (Int.le_of_lt y1), t0, if_pos rfl]
 ·rw [e1, fiHas_upright g hf hu k hk _ _ (Int.natCast_nonneg _) x2 y0 y1, t1, if_neg (by decide), if_pos rfl]
 ·rw [e2, fiHas_level g hf ha k hk _ _ x0 x1 (Int.natCast_nonneg _) y2, t0, if_neg (by decide), if_neg (by decide), if_pos rfl]
 ·rw [fiHas_upright g hf hu k hk _ _ x0 (Int.le_of_lt x1) y0 y1, t1, if_neg (by decide), if_neg (by decide), if_neg (by decide)]
theorem rs_step {w h : Nat} {a u : List Int} (g : Grid4 w h) (hf : figB (w : Int) (h : Int) a u = true) (ha : a.length ≤ 1000000) (hu : u.length ≤ 1000000) {c : Nat} (hc : c < w * h) {d : Nat} (hd : d < 4) (k : Nat) (hk : 1000002 < k) (out : List (List Int)) (cells : List Int) (p n st : Int)
  (s : List Bool × List Nat × Bool) (hS : s.1.length = w * h) (hq : s.2.1.length < 100) :
  ∃ k', k ≤ k' + 2 ∧ spec_liRegions.l2 k (w : Int) (h : Int) s.1 out (s.2.1.map fun i : Nat => (i : Int)) cells s.2.2 p ((c % w : Nat) : Int) ((c / w : Nat) : Int) (d : Int) n st (w : Int) (h : Int) a u =
   spec_liRegions.l2 k' (w : Int) (h : Int) (dst w h (figMask (w : Int) (h : Int) a u) c s d).1 out ((dst w h (figMask (w : Int) (h : Int) a u) c s d).2.1.map fun i : Nat => (i : Int)) cells (dst w h (figMask (w : Int) (h : Int) a u) c s d).2.2 p ((c % w : Nat) : Int) ((c / w : Nat) : Int) ((d + 1 : Nat) : Int) n st (w : Int) (h : Int) a u := by
 obtain ⟨k, rfl⟩ : ∃ q, k = q + 2 := ⟨k - 2, by omega⟩
 obtain ⟨f0, f1, f2, f3⟩ := walls_f hf ha hu hc (k + 1) (by omega)
 obtain ⟨-, hbn, -⟩ := dirF g hc hd
 have nb := nb_xy g hc hd
 have hd4 : (d : Int) < 4 := by omega
 have hd0 : (0 : Int) ≤ (d : Int) := Int.natCast_nonneg d
 have e1 : wrap64 ((d : Int) + 1) = ((d + 1 : Nat) : Int) := by clear nb f0 f1 f2 f3; unfold wrap64; omega
 have cx : ((c % w : Nat) : Int) < 4 ∧ ((c / w : Nat) : Int) < 4 := by
  obtain ⟨q1, q2, -⟩ := cell_xy hc
  have := g.w4
  have := g.h4
  exact ⟨Int.ofNat_lt.2 (Nat.lt_of_lt_of_le q1 g.w4), Int.ofNat_lt.2 (Nat.lt_of_lt_of_le q2 g.h4)⟩
 have x0 : (0 : Int) ≤ ((c % w : Nat) : Int) := Int.natCast_nonneg _
 have y0 : (0 : Int) ≤ ((c / w : Nat) : Int) := Int.natCast_nonneg _
 have ww : wrap64 ((w : Int) - 1) = (w : Int) - 1 := by have := g.w1; have := g.w4; clear nb; unfold wrap64; omega
 have hh : wrap64 ((h : Int) - 1) = (h : Int) - 1 := by have := g.h1; have := g.h4; clear nb; unfold wrap64; omega
 have cd : d = 0 ∨ d = 1 ∨ d = 2 ∨ d = 3 := by omega
 have rX : rd [0, 1, 0, -1] (d : Int) = dX d := by rcases cd with rfl | rfl | rfl | rfl <;> rfl
 have rY : rd [-1, 0, 1, 0] (d : Int) = dY d := by rcases cd with rfl | rfl | rfl | rfl <;> rfl
 have rW : rdOf false [(figMask (w : Int) (h : Int) a u).testBit (dirE w h c 0), (figMask (w : Int) (h : Int) a u).testBit (dirE w h c 1), (figMask (w : Int) (h : Int) a u).testBit (dirE w h c 2), (figMask (w : Int) (h : Int) a u).testBit (dirE w h c 3)] (d : Int) = (figMask (w : Int) (h : Int) a u).testBit (dirE w h c d) := by rcases cd with rfl | rfl | rfl | rfl <;> rfl
 have bX : -1 ≤ dX d ∧ dX d ≤ 1 := by rcases cd with rfl | rfl | rfl | rfl <;> decide
 have bY : -1 ≤ dY d ∧ dY d ≤ 1 := by rcases cd with rfl | rfl | rfl | rfl <;> decide
 generalize hx : ((c % w : Nat) : Int) = x at *
 generalize hy : ((c / w : Nat) : Int) = y at *
 have eX : wrap64 (x + dX d) = x + dX d := by clear nb f0 f1 f2 f3; unfold wrap64; omega
 have eY : wrap64 (y + dY d) = y + dY d := by clear nb f0 f1 f2 f3; unfold wrap64; omega
 have l4 : ∀ p q r t : Bool, (d : Int) < (([p, q, r, t] : List Bool).length : Int) := fun _ _ _ _ => hd4
 have l4' : ∀ p q r t : Int, (d : Int) < (([p, q, r, t] : List Int).length : Int) := fun _ _ _ _ => hd4
 rw [spec_liRegions.l2, if_pos hd4, f0, Option.bind_some, f1, Option.bind_some, f2, Option.bind_some, f3, Option.bind_some, Option.bind_some, if_pos hd0, if_pos (l4 _ _ _ _), Option.bind_some, if_pos (l4' _ _ _ _), Option.bind_some, if_pos (l4' _ _ _ _), rW, rX, rY, eX, eY, ww, hh, l1In_f, l1In_f, Option.bind_some]
 unfold dst
 by_cases hm : (figMask (w : Int) (h : Int) a u).testBit (dirE w h c d) = true
 ·rw [if_pos hm, if_pos hm, e1]
  exact ⟨k + 1, by omega, rfl⟩
 ·rw [if_neg hm, if_neg hm]
  have key : ∀ inr : Bool, (decide (0 ≤ x + dX d) && decide (x + dX d ≤ (w : Int) - 1) && (decide (0 ≤ y + dY d) && decide (y + dY d ≤ (h : Int) - 1))) = inr →
    (if (decide (0 ≤ x + dX d) && decide (x + dX d ≤ (w : Int) - 1)) = true then (some (decide (0 ≤ y + dY d) && decide (y + dY d ≤ (h : Int) - 1))).bind fun t377 => spec_liRegions.j3 (k + 1) (w : Int) (h : Int) s.1 out (s.2.1.map fun i : Nat => (i : Int)) cells s.2.2 p x y (d : Int) (x + dX d) (y + dY d) n st (!t377) (w : Int) (h : Int) a u
     else spec_liRegions.j3 (k + 1) (w : Int) (h : Int) s.1 out (s.2.1.map fun i : Nat => (i : Int)) cells s.2.2 p x y (d : Int) (x + dX d) (y + dY d) n st true (w : Int) (h : Int) a u) =
    spec_liRegions.j3 (k + 1) (w : Int) (h : Int) s.1 out (s.2.1.map fun i : Nat => (i : Int)) cells s.2.2 p x y (d : Int) (x + dX d) (y + dY d) n st (!inr) (w : Int) (h : Int) a u := by
   rintro _ rfl
   rw [Option.bind_some]
   cases (decide (0 ≤ x + dX d) && decide (x + dX d ≤ (w : Int) - 1))
   ·rw [if_neg (by decide)]; rfl
   ·rw [if_pos rfl]; rfl
  rcases nb with ⟨n1, n2⟩ | ⟨n1, n2, n3⟩
  ·refine ⟨k, by omega, ?_⟩
   rw [key _ n2, rs_j k s.1 out s.2.1 cells s.2.2 p x y (d : Int) (x + dX d) (y + dY d) n st (w : Int) (h : Int) a u 0 false (by simp) hq, if_pos rfl, if_pos n1, e1]
  ·refine ⟨k, by omega, ?_⟩
   rw [key _ n2, rs_j k s.1 out s.2.1 cells s.2.2 p x y (d : Int) (x + dX d) (y + dY d) n st (w : Int) (h : Int) a u (dirN w h c d) true (fun _ => ⟨n3, by rw [hS]; omega⟩) hq, if_neg (by decide), if_neg n1, e1]
   by_cases hs : s.1.getD (dirN w h c d) false = true
   ·rw [if_pos hs, if_pos hs]
   ·rw [if_neg hs, if_neg hs]


theorem BInv.weak {w h m s0 : Nat} {P0 : Nat → Prop} {S : List Bool} {q : List Nat} {o : Bool} {D E : Nat → Nat → Prop} (I : BInv w h m s0 P0 S q o D) (hE : ∀ u d, E u d → D u d) : BInv w h m s0 P0 S q o E := ⟨I.len, I.mem, I.seen, I.opn, fun u d hd => I.done u d (hE u d hd)⟩
theorem rs_pop {w h : Nat} {a u : List Int} (g : Grid4 w h) (hf : figB (w : Int) (h : Int) a u = true) (ha : a.length ≤ 1000000) (hu : u.length ≤ 1000000) {c : Nat} (k : Nat) (hk : 1000011 < k) (out : List (List Int)) (cells : List Int) (p n st : Int) {s0 : Nat} {P0 : Nat → Prop} {D : Nat → Nat → Prop}
  (s : List Bool × List Nat × Bool) (I : BInv w h (figMask (w : Int) (h : Int) a u) s0 P0 s.1 s.2.1 s.2.2 D) (hc : c ∈ s.2.1) (hT : s.2.1.length + s.1.count false < 100) :
  ∃ (k' : Nat) (s' : List Bool × List Nat × Bool) (t : List Nat), k ≤ k' + 9 ∧ spec_liRegions.l2 k (w : Int) (h : Int) s.1 out (s.2.1.map fun i : Nat => (i : Int)) cells s.2.2 p ((c % w : Nat) : Int) ((c / w : Nat) : Int) 0 n st (w : Int) (h : Int) a u =
   spec_liRegions.l1 k' (w : Int) (h : Int) s'.1 out (s'.2.1.map fun i : Nat => (i : Int)) cells s'.2.2 (wrap64 (p + 1)) n st (w : Int) (h : Int) a u ∧
   BInv w h (figMask (w : Int) (h : Int) a u) s0 P0 s'.1 s'.2.1 s'.2.2 (fun v e => D v e ∨ (v = c ∧ e < 4)) ∧ s'.2.1.length + s'.1.count false = s.2.1.length + s.1.count false ∧ s'.2.1 = s.2.1 ++ t := by
 have hcn := (I.mem c hc).1
 obtain ⟨I1, T1, t1, A1⟩ := I.next g hc (show 0 < 4 by omega)
 obtain ⟨I2, T2, t2, A2⟩ := I1.next g (by rw [A1]; exact List.mem_append_left _ hc) (show 1 < 4 by omega)
 obtain ⟨I3, T3, t3, A3⟩ := I2.next g (by rw [A2, A1]; exact List.mem_append_left _ (List.mem_append_left _ hc)) (show 2 < 4 by omega)
 obtain ⟨I4, T4, t4, A4⟩ := I3.next g (by rw [A3, A2, A1]; exact List.mem_append_left _ (List.mem_append_left _ (List.mem_append_left _ hc))) (show 3 < 4 by omega)
 obtain ⟨k1, p1, q1⟩ := rs_step g hf ha hu hcn (show 0 < 4 by omega) k (by omega) out cells p n st s I.len (by omega)
 obtain ⟨k2, p2, q2⟩ := rs_step g hf ha hu hcn (show 1 < 4 by omega) k1 (by omega) out cells p n st _ I1.len (by omega)
 obtain ⟨k3, p3, q3⟩ := rs_step g hf ha hu hcn (show 2 < 4 by omega) k2 (by omega) out cells p n st _ I2.len (by omega)
 obtain ⟨k4, p4, q4⟩ := rs_step g hf ha hu hcn (show 3 < 4 by omega) k3 (by omega) out cells p n st _ I3.len (by omega)
 obtain ⟨k4, rfl⟩ : ∃ q, k4 = q + 1 := ⟨k4 - 1, by omega⟩
 refine ⟨k4, _, t1 ++ t2 ++ t3 ++ t4, by omega, (q1.trans (q2.trans (q3.trans q4))).trans ?_, I4.weak ?_, by omega, by rw [A4, A3, A2, A1]; simp only [List.append_assoc]⟩
 ·rw [spec_liRegions.l2, if_neg (by decide)]
 ·rintro v e (hD | ⟨rfl, he⟩)
  ·exact .inl (.inl (.inl (.inl hD)))
  ·have ce : e = 0 ∨ e = 1 ∨ e = 2 ∨ e = 3 := by omega
   rcases ce with rfl | rfl | rfl | rfl
   ·exact .inl (.inl (.inl (.inr ⟨rfl, rfl⟩)))
   ·exact .inl (.inl (.inr ⟨rfl, rfl⟩))
   ·exact .inl (.inr ⟨rfl, rfl⟩)
   ·exact .inr ⟨rfl, rfl⟩
theorem rs_l1 {w h : Nat} {a u : List Int} (g : Grid4 w h) (hf : figB (w : Int) (h : Int) a u = true) (ha : a.length ≤ 1000000) (hu : u.length ≤ 1000000) (out : List (List Int)) (hout : out.length < 100) (n st : Int) {s0 : Nat} {P0 : Nat → Prop} :
  ∀ (e k p : Nat) (s : List Bool × List Nat × Bool), (s.2.1.length - p) + s.1.count false = e → p ≤ s.2.1.length → s.2.1.length + s.1.count false < 100 → 10 * e + 1000020 ≤ k →
   BInv w h (figMask (w : Int) (h : Int) a u) s0 P0 s.1 s.2.1 s.2.2 (fun v d => v ∈ s.2.1.take p ∧ d < 4) →
  ∃ (k' : Nat) (s' : List Bool × List Nat × Bool) (t : List Nat), k ≤ k' + (10 * e + 1) ∧ spec_liRegions.l1 k (w : Int) (h : Int) s.1 out (s.2.1.map fun i : Nat => (i : Int)) (setL (w * h) fun v => decide (v ∈ s.2.1.take p)) s.2.2 (p : Int) n st (w : Int) (h : Int) a u =
   spec_liRegions.l0 k' (w : Int) (h : Int) s'.1 (if s'.2.2 = true then out else out ++ [setL (w * h) fun v => decide (v ∈ s'.2.1)]) n (wrap64 (st + 1)) (w : Int) (h : Int) a u ∧
   BInv w h (figMask (w : Int) (h : Int) a u) s0 P0 s'.1 s'.2.1 s'.2.2 (fun v d => v ∈ s'.2.1 ∧ d < 4) ∧ s'.2.1 = s.2.1 ++ t := by
 intro e
 induction e with
 | zero =>
  intro k p s h1 h2 h3 h4 I
  obtain ⟨k, rfl⟩ : ∃ q, k = q + 1 := ⟨k - 1, by omega⟩
  have hp : p = s.2.1.length := by omega
  subst hp
  rw [List.take_length] at I ⊢
  refine ⟨k, s, [], by omega, ?_, I, by rw [List.append_nil]⟩
  have c1 : ¬ ((s.2.1.length : Nat) : Int) < ((s.2.1.map fun i : Nat => (i : Int)).length : Int) := by rw [List.length_map]; exact Int.lt_irrefl _
  have c2 : out.length < 5864062014805 := by omega
  rw [spec_liRegions.l1, if_neg c1]
  by_cases ho : s.2.2 = true
  ·rw [if_pos ho, if_pos ho]
  ·rw [if_neg ho, if_neg ho, if_pos c2]
 | succ e ih =>
  intro k p s h1 h2 h3 h4 I
  obtain ⟨k, rfl⟩ : ∃ q, k = q + 1 := ⟨k - 1, by omega⟩
  rcases Nat.lt_or_ge p s.2.1.length with hp | hp
  ·have c1 : (p : Int) < ((s.2.1.map fun i : Nat => (i : Int)).length : Int) := by rw [List.length_map]; exact Int.ofNat_lt.2 hp
   have c2 : (0 : Int) ≤ (p : Int) := Int.natCast_nonneg p
   have c3 : ¬ (w : Int) = 0 := by have := g.w1; omega
   have hmem : s.2.1[p] ∈ s.2.1 := List.getElem_mem hp
   generalize hc : s.2.1[p] = c at hmem
   have hrd : rd (s.2.1.map fun i : Nat => (i : Int)) (p : Int) = (c : Int) := by
    unfold rd
    rw [Int.toNat_natCast, List.getD_eq_getElem?_getD, List.getElem?_map, List.getElem?_eq_getElem hp, hc]
    rfl
   have hcn := (I.mem c hmem).1
   have h16 := (edgN_le g).2
   have hlen := setL_len (w * h) fun v => decide (v ∈ s.2.1.take p)
   obtain ⟨r, hr, hrp, hrm, -⟩ := l1Put_f (setL (w * h) fun v => decide (v ∈ s.2.1.take p)) (c : Int) (setL_pw _ _) (by clear hrd hc I; omega) k (by clear hrd hc I; omega)
   have htk : s.2.1.take (p + 1) = s.2.1.take p ++ [c] := by rw [List.take_succ_eq_append_getElem hp, hc]
   have hre : r = setL (w * h) fun v => decide (v ∈ s.2.1.take (p + 1)) := by
    refine rising_setL hrp (fun x hx => ?_) (fun i hi => ?_)
    ·rcases (hrm x).1 hx with hx | rfl
     ·obtain ⟨j, rfl, hj, -⟩ := (setL_mem _ _ _).1 hx
      exact ⟨Int.natCast_nonneg _, Int.ofNat_lt.2 hj⟩
     ·exact ⟨Int.natCast_nonneg _, Int.ofNat_lt.2 hcn⟩
    ·rw [hrm, setL_in, decide_eq_true_eq, decide_eq_true_eq, htk, List.mem_append, List.mem_singleton]
     constructor
     ·rintro (q | q)
      ·exact .inl ⟨hi, q⟩
      ·exact .inr (by rw [q])
     ·rintro (q | q)
      ·exact .inl q.2
      ·exact .inr (Int.ofNat.inj q)
   have hx : Int.tmod (c : Int) (w : Int) = ((c % w : Nat) : Int) := rfl
   have hy : Int.tdiv (c : Int) (w : Int) = ((c / w : Nat) : Int) := rfl
   have hy2 : wrap64 ((c / w : Nat) : Int) = ((c / w : Nat) : Int) := by
    have := (cell_xy hcn).2.1
    have := g.h4
    clear hrm hre hr hrp hrd hc
    generalize c / w = y at *
    unfold wrap64; omega
   have e1 : wrap64 ((p : Int) + 1) = ((p + 1 : Nat) : Int) := by
    clear hrm hre hr hrp hrd hc hlen hx hy hy2 I htk
    unfold wrap64; omega
   obtain ⟨k1, s1, t1, b1, b2, b3, b4, b5⟩ := rs_pop g hf ha hu (c := c) k (by clear hrd hc I hrm hre; omega) out r (p : Int) n st s I hmem h3
   have b5l : s1.2.1.length = s.2.1.length + t1.length := by rw [b5, List.length_append]
   obtain ⟨k2, s2, t2, d1, d2, d3, d4⟩ := ih k1 (p + 1) s1 (by clear hrd hc I hrm hre e1 hx hy hy2 hlen; omega) (by clear hrd hc I hrm hre e1 hx hy hy2 hlen; omega) (by rw [b4]; exact h3) (by clear hrd hc I hrm hre e1 hx hy hy2 hlen; omega) (b3.weak (by
    rintro v d ⟨hv, hd⟩
    rw [b5, List.take_append_of_le_length hp, htk, List.mem_append, List.mem_singleton] at hv
    rcases hv with hv | hv
    ·exact .inl ⟨hv, hd⟩
    ·exact .inr ⟨hv, hd⟩))
   refine ⟨k2, s2, t1 ++ t2, by clear hrd hc I hrm hre e1 hx hy hy2 hlen; omega, ?_, d3, by rw [d4, b5, List.append_assoc]⟩
   rw [spec_liRegions.l1, if_pos c1, if_pos c2, if_neg c3, hrd, hr, Option.bind_some, hx, hy, hy2]
   refine b2.trans ?_
   rw [e1, hre, ← d2, b5, List.take_append_of_le_length hp]
  ·-- nothing left to pop: only unseen cells
   have hp2 : p = s.2.1.length := by omega
   subst hp2
   rw [List.take_length] at I ⊢
   refine ⟨k, s, [], by omega, ?_, I, by rw [List.append_nil]⟩
   have c1 : ¬ ((s.2.1.length : Nat) : Int) < ((s.2.1.map fun i : Nat => (i : Int)).length : Int) := by rw [List.length_map]; exact Int.lt_irrefl _
   have c2 : out.length < 5864062014805 := by omega
   rw [spec_liRegions.l1, if_neg c1]
   by_cases ho : s.2.2 = true
   ·rw [if_pos ho, if_pos ho]
   ·rw [if_neg ho, if_neg ho, if_pos c2]
def labQ (f : Nat → Nat) (n i : Nat) : List (List Int) := ((List.range i).filter fun v => f v == v && f n != v).map fun v => setL n fun u => f u == v
theorem labQ_len (f : Nat → Nat) (n i : Nat) : (labQ f n i).length ≤ i := by
 unfold labQ
 rw [List.length_map]
 have := List.length_filter_le (fun v => f v == v && f n != v) (List.range i)
 rw [List.length_range] at this
 exact this
theorem labQ_no {f : Nat → Nat} {n i : Nat} (h : (f i == i && f n != i) = false) : labQ f n (i + 1) = labQ f n i := by
 unfold labQ
 rw [List.range_succ, List.filter_append, List.filter_cons, List.filter_nil, if_neg (by rw [h]; decide), List.append_nil]
theorem labQ_yes {f : Nat → Nat} {n i : Nat} (h : (f i == i && f n != i) = true) : labQ f n (i + 1) = labQ f n i ++ [setL n fun u => f u == i] := by
 unfold labQ
 rw [List.range_succ, List.filter_append, List.filter_cons, List.filter_nil, if_pos h, List.map_append]
 rfl
theorem cadj_conn {w h m a b : Nat} (H : Conn (CAdj w h m) a b) : Conn (AdjM (besN w h) m (edgN w h)) a b := H.mono fun _ _ q => q.1
theorem rs_l0 {w h : Nat} {a u : List Int} (g : Grid4 w h) (hf : figB (w : Int) (h : Int) a u = true) (ha : a.length ≤ 1000000) (hu : u.length ≤ 1000000) {f : Nat → Nat} (L : Lab (besN w h) (figMask (w : Int) (h : Int) a u) (edgN w h) (w * h) f) :
  ∀ (d k i : Nat) (S : List Bool), w * h - i = d → i ≤ w * h → 500 * d + 1000020 ≤ k → S.length = w * h →
   (∀ v, v < w * h → (S.getD v false = true ↔ ∃ z, z < i ∧ Conn (CAdj w h (figMask (w : Int) (h : Int) a u)) z v)) →
  spec_liRegions.l0 k (w : Int) (h : Int) S (labQ f (w * h) i) ((w * h : Nat) : Int) (i : Int) (w : Int) (h : Int) a u = some (labQ f (w * h) (w * h)) := by
 have h16 := (edgN_le g).2
 intro d
 induction d with
 | zero =>
  intro k i S h1 h2 h3 h4 h5
  obtain ⟨k, rfl⟩ : ∃ q, k = q + 1 := ⟨k - 1, by omega⟩
  have : i = w * h := by omega
  subst this
  rw [spec_liRegions.l0, if_neg (Int.lt_irrefl _)]
 | succ d ih =>
  intro k i S h1 h2 h3 h4 h5
  obtain ⟨k, rfl⟩ : ∃ q, k = q + 1 := ⟨k - 1, by omega⟩
  have hin : i < w * h := by omega
  have c1 : (i : Int) < ((w * h : Nat) : Int) := Int.ofNat_lt.2 hin
  have c2 : (0 : Int) ≤ (i : Int) := Int.natCast_nonneg i
  have c3 : (i : Int) < (S.length : Int) := by rw [h4]; exact c1
  have e1 : wrap64 ((i : Int) + 1) = ((i + 1 : Nat) : Int) := by clear c3 ih h5 L; unfold wrap64; omega
  have hrd : rdOf false S (i : Int) = S.getD i false := by unfold rdOf; rw [Int.toNat_natCast]
  rw [spec_liRegions.l0, if_pos c1, if_pos c2, if_pos c3, hrd, e1]
  by_cases hs : S.getD i false = true
  ·rw [if_pos hs]
   obtain ⟨z, hz, hzi⟩ := (h5 i hin).1 hs
   have hno : (f i == i && f (w * h) != i) = false := by
    have s := L.same z i (by omega) (cadj_conn hzi)
    have l := L.low z (by omega)
    have : ¬ f i = i := by omega
    rw [beq_eq_false_iff_ne.2 this]
    rfl
   rw [← labQ_no hno]
   refine ih k (i + 1) S (by omega) (by omega) (by omega) h4 (fun v hv => ?_)
   rw [h5 v hv]
   constructor
   ·rintro ⟨y, hy, q⟩; exact ⟨y, by omega, q⟩
   ·rintro ⟨y, hy, q⟩
    rcases Nat.lt_or_ge y i with hyi | hyi
    ·exact ⟨y, hyi, q⟩
    ·have : y = i := by omega
     subst this
     exact ⟨z, hz, hzi.trans q⟩
  ·rw [if_neg hs, Int.toNat_natCast]
   have hs' : S.getD i false = false := by simpa using hs
   have hnP : ¬ ∃ z, z < i ∧ Conn (CAdj w h (figMask (w : Int) (h : Int) a u)) z i := fun q => hs ((h5 i hin).2 q)
   have hiS : i < S.length := by rw [h4]; exact hin
   have hcnt := count_set S i hiS hs'
   have hcl := List.count_le_length (a := false) (l := S)
   have I0 : BInv w h (figMask (w : Int) (h : Int) a u) i (fun v => ∃ z, z < i ∧ Conn (CAdj w h (figMask (w : Int) (h : Int) a u)) z v) (S.set i true) [i] false (fun v d => v ∈ ([i] : List Nat).take 0 ∧ d < 4) := by
    refine ⟨by rw [List.length_set]; exact h4, ?_, ?_, fun q => absurd q (by decide), ?_⟩
    ·intro v hv
     rw [List.mem_singleton] at hv
     subst hv
     exact ⟨hin, .refl⟩
    ·intro v hv
     rw [getD_set _ _ _ hiS, List.mem_singleton]
     by_cases hvi : v = i
     ·rw [if_pos hvi]; exact ⟨fun _ => .inr hvi, fun _ => rfl⟩
     ·rw [if_neg hvi, h5 v hv]
      exact ⟨fun q => .inl q, fun q => q.elim id (fun q => absurd q hvi)⟩
    ·rintro v d ⟨hv, -⟩
     rw [List.take_zero] at hv
     cases hv
   have hol := labQ_len f (w * h) i
   obtain ⟨k', s', t, p1, p2, I, p3⟩ := rs_l1 g hf ha hu (labQ f (w * h) i) (by omega) ((w * h : Nat) : Int) (i : Int) (1 + (S.set i true).count false) k 0 (S.set i true, [i], false) (by simp) (by simp) (by simp only [List.length_singleton]; omega) (by omega) I0
   have hz : (setL (w * h) fun v => decide (v ∈ ([i] : List Nat).take 0)) = [] := by
    have := setL_pw (w * h) (fun v => decide (v ∈ ([i] : List Nat).take 0))
    cases hE : setL (w * h) (fun v => decide (v ∈ ([i] : List Nat).take 0)) with
    | nil => rfl
    | cons x r =>
     have hx : x ∈ setL (w * h) (fun v => decide (v ∈ ([i] : List Nat).take 0)) := by rw [hE]; exact List.mem_cons_self
     obtain ⟨j, -, -, hj⟩ := (setL_mem _ _ _).1 hx
     simp at hj
   dsimp only at p2
   rw [hz] at p2
   have hiq : i ∈ s'.2.1 := by rw [p3]; exact List.mem_append_left _ List.mem_cons_self
   have back : ∀ {x y : Nat}, Conn (CAdj w h (figMask (w : Int) (h : Int) a u)) x y → Conn (CAdj w h (figMask (w : Int) (h : Int) a u)) y x := fun q => q.symm fun _ _ => CAdj.symm
   have nP : ∀ v, v ∈ s'.2.1 → ¬ ∃ z, z < i ∧ Conn (CAdj w h (figMask (w : Int) (h : Int) a u)) z v := fun v hv ⟨z, hz1, hz2⟩ => hnP ⟨z, hz1, hz2.trans (back (I.mem v hv).2)⟩
   have cls : ∀ v b, v ∈ s'.2.1 → b < w * h → AdjM (besN w h) (figMask (w : Int) (h : Int) a u) (edgN w h) v b → b ∈ s'.2.1 := by
    intro v b hv hb hvb
    have hvn := (I.mem v hv).1
    obtain ⟨e, he, hm, hd⟩ := (dirAdj g hvn).1 hvb
    rcases I.done v e ⟨hv, he⟩ hm with ⟨q1, -⟩ | ⟨q1, q2⟩
    ·omega
    ·rw [hd] at q2
     rcases (I.seen b hb).1 q2 with ⟨z, hz1, hz2⟩ | q
     ·exact absurd ⟨z, hz1, hz2.trans (back (Conn.step .refl ⟨hvb, hvn, hb⟩))⟩ (nP v hv)
     ·exact q
   have comp : ∀ v, Conn (CAdj w h (figMask (w : Int) (h : Int) a u)) i v → v ∈ s'.2.1 := by
    intro v hv
    induction hv with
    | refl => exact hiq
    | step _ q2 ihv => exact cls _ _ ihv q2.2.2 q2.1
   have hout : (if s'.2.2 = true then labQ f (w * h) i else labQ f (w * h) i ++ [setL (w * h) fun v => decide (v ∈ s'.2.1)]) = labQ f (w * h) (i + 1) := by
    by_cases ho : s'.2.2 = true
    ·rw [if_pos ho]
     obtain ⟨z, z1, z2, z3⟩ := I.opn ho
     have s1 := L.same i z (by omega) (cadj_conn z2)
     have s2 := L.same z (w * h) (by omega) (.step .refl z3)
     rw [labQ_no]
     by_cases hfi : f i = i
     ·have : f (w * h) = i := by omega
      rw [this]
      simp
     ·rw [beq_eq_false_iff_ne.2 hfi]
      rfl
    ·rw [if_neg ho]
     have cl2 : ∀ v, Conn (AdjM (besN w h) (figMask (w : Int) (h : Int) a u) (edgN w h)) i v → v ∈ s'.2.1 := by
      intro v hv
      induction hv with
      | refl => exact hiq
      | step _ q2 ihv =>
       rename_i x b _
       have hvn := (I.mem x ihv).1
       obtain ⟨e, he, hm, hd⟩ := (dirAdj g hvn).1 q2
       rcases I.done x e ⟨ihv, he⟩ hm with ⟨-, q⟩ | ⟨q1, -⟩
       ·exact absurd q ho
       ·have := (dirF g hvn he).2.1
        exact cls x b ihv (by omega) q2
     have sy : ∀ {x y : Nat}, Conn (AdjM (besN w h) (figMask (w : Int) (h : Int) a u) (edgN w h)) x y → Conn (AdjM (besN w h) (figMask (w : Int) (h : Int) a u) (edgN w h)) y x := fun q => q.symm fun _ _ => AdjM.symm
     have fi : f i = i := by
      have q := cl2 _ (L.conn i (by omega))
      have l := L.low i (by omega)
      rcases Nat.lt_or_ge (f i) i with hlt | hge
      ·exact absurd ⟨f i, hlt, back (I.mem _ q).2⟩ hnP
      ·omega
     have fn : ¬ f (w * h) = i := by
      intro q
      have c := L.conn (w * h) (Nat.le_refl _)
      rw [q] at c
      have := (I.mem _ (cl2 _ (sy c))).1
      omega
     rw [labQ_yes (by rw [fi, beq_self_eq_true, bne_iff_ne.2 fn]; rfl)]
     congr 2
     refine setL_congr (fun v hv => ?_)
     rw [Bool.eq_iff_iff, decide_eq_true_eq, beq_iff_eq]
     constructor
     ·intro q
      have := L.same i v (by omega) (cadj_conn (I.mem v q).2)
      omega
     ·intro q
      have c := L.conn v (by omega)
      rw [q] at c
      exact cl2 v (sy c)
   rw [hout, e1] at p2
   refine p2.trans ?_
   refine ih k' (i + 1) s'.1 (by omega) (by omega) (by omega) I.len (fun v hv => ?_)
   rw [I.seen v hv]
   constructor
   ·rintro (⟨z, hz1, hz2⟩ | q)
    ·exact ⟨z, by omega, hz2⟩
    ·exact ⟨i, by omega, (I.mem v q).2⟩
   ·rintro ⟨z, hz1, hz2⟩
    rcases Nat.lt_or_ge z i with hzi | hzi
    ·exact .inl ⟨z, hzi, hz2⟩
    ·have : z = i := by omega
     subst this
     exact .inr (comp v hz2)
theorem liRegions_f {w h : Nat} {a u : List Int} (g : Grid4 w h) (hf : figB (w : Int) (h : Int) a u = true) (ha : a.length ≤ 1000000) (hu : u.length ≤ 1000000) (k : Nat) (hk : 1100000 ≤ k) : spec_liRegions.f k (w : Int) (h : Int) a u = some (labOut (labF (besN w h) (figMask (w : Int) (h : Int) a u) (edgN w h) (w * h + 1)) (w * h)) := by
 have h16 := (edgN_le g).2
 have e0 : wrap64 ((w : Int) * (h : Int)) = ((w * h : Nat) : Int) := by
  rw [← Int.natCast_mul]
  generalize w * h = n at h16
  unfold wrap64; omega
 have L := lab_done (m := figMask (w : Int) (h : Int) a u) (besLe g)
 unfold spec_liRegions.f
 rw [e0, if_pos (Int.natCast_nonneg _), Int.toNat_natCast, if_pos (by omega), Option.bind_some, List.length_replicate]
 refine (rs_l0 g hf ha hu L (w * h) k 0 (List.replicate (w * h) false) (by omega) (by omega) (by omega) (List.length_replicate ..) (fun v hv => ?_)).trans rfl
 rw [List.getD_eq_getElem?_getD, List.getElem?_replicate, if_pos hv]
 constructor
 ·intro q; cases q
 ·rintro ⟨z, hz, -⟩; omega
theorem labOut_len (f : Nat → Nat) (n : Nat) : (labOut f n).length ≤ n ∧ ∀ x ∈ labOut f n, x.length ≤ n := by
 refine ⟨labQ_len f n n, fun x hx => ?_⟩
 unfold labOut at hx
 obtain ⟨v, -, rfl⟩ := List.mem_map.1 hx
 exact setL_len _ _


theorem RegionsOf_pure {w h : Int} {a u : List Int} (ha : a.length ≤ 1000000) (hu : u.length ≤ 1000000) : ∃ R r2, spec_RegionsOf.f 4000001 w h a u = some (R, r2) ∧ impl_RegionsOf.f 4000001 w h a u = some (R, r2) ∧ R.length ≤ 30 ∧ ∀ x ∈ R, x.length ≤ 30 := by
  cases hf : figB w h a u with
  | false =>
    refine ⟨[], false, ?_, ?_, by simp, fun x hx => absurd hx List.not_mem_nil⟩
    · unfold spec_RegionsOf.f
      rw [fiGood_f w h a u ha hu _ (by decide), hf, Option.bind_some, if_neg (by decide)]
    · unfold impl_RegionsOf.f
      rw [IsFigure_f w h a u ha hu _ (by decide), hf, Option.bind_some, if_neg (by decide)]
  | true =>
    have gg := gridOK_of hf
    obtain ⟨W, rfl⟩ := Int.eq_ofNat_of_zero_le (show 0 ≤ w by have := gg.w1; omega)
    obtain ⟨H, rfl⟩ := Int.eq_ofNat_of_zero_le (show 0 ≤ h by have := gg.h1; omega)
    have g : Grid4 W H := ⟨by have := gg.w1; omega, by have := gg.w4; omega, by have := gg.h1; omega, by have := gg.h4; omega⟩
    have hM := figMask_lt hf
    have hst := set_f hf ha hu 4000001 (by decide)
    have h16 := (edgN_le g).2
    have hlen := labOut_len (labF (besN W H) (figMask (W : Int) (H : Int) a u) (edgN W H) (W * H + 1)) (W * H)
    refine ⟨_, true, ?_, ?_, Nat.le_trans hlen.1 (by omega), fun x hx => Nat.le_trans (hlen.2 x hx) (by omega)⟩
    · unfold spec_RegionsOf.f
      rw [fiGood_f _ _ a u ha hu _ (by decide), hf, Option.bind_some, if_pos rfl, liRegions_f g hf ha hu _ (by decide), Option.bind_some]
    · unfold impl_RegionsOf.f impl_Figure_grid.f
      rw [IsFigure_f _ _ a u ha hu _ (by decide), hf, Option.bind_some, if_pos rfl, Option.bind_some, hst, Option.bind_some]
      dsimp only
      rw [regions_f g hM _ (by decide), Option.bind_some]

end Go.Proofs.Yteaglkpplgbpaaa.P
namespace Go.Proofs.Yteaglkpplgbpaaa.fnExactRegionsOf
open Go.ChangeShapes Go.WideShapes Go.ChangeAt Go.RowKit Go.Proofs.YteaglkpplgbpaaaW.PrintWords Go.Joins
set_option linter.unusedVariables false
theorem own : ownKnob Try.prog.godebug = none := Closed.own
theorem laidOut : laidOutB Try.prog = true := Closed.laidOut
def IsRow (k : IntKind) (w : World) (a : Option Addr) (len cap : Nat) (zs : List Int) : Prop :=
 (a = none ∧ len = 0 ∧ cap = 0 ∧ zs = []) ∨
 ∃ x, a = some x ∧ len ≤ cap ∧ cap ≤ maxLen ∧ zs.length = cap ∧ (∀ i, i < zs.length → w.cell? (x.add i) = some (.int k (zs.getD i 0))) ∧ ∀ n ∈ zs, (Lit.int k n).wf = true
theorem opened {H : Type} {enc : TypeId × Value → H} {W : World} {m : Nat} {c : Value} {y : DataW H × List MemPlace} (hy : DataW.trod enc Try.prog W 0 (fun _ => true) true m 22 [c] = some y) :
  ∃ a len cap zs, c = .slice a len cap ∧ IsRow .i64 W a len cap zs := by
 rcases open_ints Try.underlying22 Try.underlying3 (by kernel_rfl) hy with ⟨hcs, _⟩ | ⟨x, l, c, zs, hcs, _, hl, hm, hz, _, hcell, hwz⟩
 ·simp at hcs
  exact ⟨none, 0, 0, [], hcs, .inl ⟨rfl, rfl, rfl, rfl⟩⟩
 ·simp at hcs
  exact ⟨some x, l, c, zs, hcs, .inr ⟨_, rfl, hl, hm, by simpa using hz, hcell, hwz⟩⟩
theorem walk (a b : Int) (A2 : Option Addr) (n2 c2 : Nat) (z2 : List Int) (A3 : Option Addr) (n3 c3 : Nat) (z3 : List Int)  (w : World) (w2 : IsRow .i64 w A2 n2 c2 z2) (w3 : IsRow .i64 w A3 n3 c3 z3) (y2 : n2 * 8 ≤ 140737488351232) (y3 : n3 * 8 ≤ 140737488351232) :
  Calls Try.prog 5 #[.agg #[.int .i64 a, .int .i64 b, .slice A2 n2 c2, .slice A3 n3 c3]] w fun e w' => e = .returned (.bool true) ∧ Below w.heap.size w w' := by
 obtain ⟨l2, rfl, hr2, hm2, hw2, hc2⟩ := ReadsInt.ofRowC w2
 obtain ⟨l3, rfl, hr3, hm3, hw3, hc3⟩ := ReadsInt.ofRowC w3
 have k2 := Kd.C_of_reads (d := (0 : Int)) (h1 := fun _ => rfl) hr2
 have k3 := Kd.C_of_reads (d := (0 : Int)) (h1 := fun _ => rfl) hr3
 by_cases hbig : l2.length + l3.length ≤ 1000000
 ·have b2 : l2.length ≤ 1000000 := Nat.le_trans (Nat.le_add_right _ _) hbig
  have b3 : l3.length ≤ 1000000 := Nat.le_trans (Nat.le_add_left _ _) hbig
  obtain ⟨R, r2, hp1, hp2, hp3, hp4⟩ := P.RegionsOf_pure (w := a) (h := b) (a := l2) (u := l3) b2 b3 
  exact P.law_RegionsOf_yes a b A2 c2 l2 A3 c3 l3  4200002 R r2 (fun _ => True) (fun _ _ _ _ => trivial) w k2 hc2 k3 hc3 trivial hbig (by omega) (fun x hx => by have := hp4 x hx; omega) (Nat.lt_succ_self _)
   (fun B2 d2 B3 d3 W hu2 hd2 hu3 hd3 _ => P.spec_RegionsOf.calls 4000001 a b B2 d2 l2 B3 d3 l3  R r2 W hu2 hd2 hu3 hd3 hp1)
   (fun B2 d2 B3 d3 W hu2 hd2 hu3 hd3 _ => P.impl_RegionsOf.calls 4000001 a b B2 d2 l2 B3 d3 l3  R r2 W hu2 hd2 hu3 hd3 hp2)
 ·exact P.law_RegionsOf_no a b A2 c2 l2 A3 c3 l3  w k2 hc2 k3 hc3 (by clear hbig; omega) (by clear hbig; omega) hbig
theorem joined_mk (P : Program) (f : FuncId) (fn : Func) (s : ChangeSpec) (c : OpenClaim) (k0 : (c.wf (OpenSpec.ofChange s)) = true) (k1 : (laidOutB P) = true) (k2 : (mapsRowed P) = true) (k3 : (fn.params.all (P.readableRec ·)) = true) (k4 : (namedTie P c.named s.vars) = true) (k5 : ((c.stops == [])) = true) (k6 : ((P.stops == [])) = true) (k7 : ((c.knobs == [])) = true) (k8 : ((P.stopKnobs == [])) = true) (k9 : ((c.inPlace == P.inPlace f)) = true) (k10 : ((c.unfollowed == P.unfollowed f)) = true) (k11 : ((c.recurses == P.recurses f)) = true) (k12 : ((c.named == P.varsNamed f)) = true) (k13 : ((c.maps == (fn.params.toList ++ s.plain.varTypes P).any (P.mapsRec ·))) = true) (k14 : ((c.ifaces == (fn.params.toList ++ s.plain.varTypes P).any (P.ifacesRec ·))) = true) (k15 : ((c.mapsOut == P.mapsAmong fn.resultTypes.toList)) = true) (k16 : ((c.loops == (fn.params.toList ++ s.plain.varTypes P).any (P.loopsFrom ·))) = true) (k17 : ((c.wideKeys == (fn.params.toList ++ s.plain.varTypes P ++ fn.resultTypes.toList).any (P.wideKeysFrom ·))) = true) (k18 : (s.vars.all (P.varReadable ·)) = true) (k19 : (fn.resultTypes.all (fun t => P.readableRec t && decide (t < P.types.size))) = true) (k20 : ((c.ifacesOut == fn.resultTypes.toList.any (P.ifacesRec ·))) = true) (k21 : ((c.loopsOut == fn.resultTypes.toList.any (P.loopsFrom ·))) = true) (k22 : ((c.plainKeys == P.plainKeys)) = true) (k23 : (c.shortTexts.isNone) = true) (k24 : (P.stopsHeard) = true) (k25 : (P.mayEnter) = true) (k26 : ((c.lifted == P.liftsFinal)) = true) (k27 : ((P.make == some c.make)) = true) (hd : c.domain.isEmpty = true) (k28 : (c.kinds == []) = true) (k29 : ((c.pinned == c.pinnedBy)) = true) (k30 : ((c.veiled == (fn.params.toList ++ s.plain.varTypes P ++ fn.resultTypes.toList).any (P.veiledRec ·))) = true) (k31 : (c.veiledFits P fn.params.toList (fn.params.toList ++ s.plain.varTypes P ++ fn.resultTypes.toList)) = true) : joinedFacts P f fn s c = true := by
 unfold joinedFacts
 simp only [hd, if_true, k0, k1, k2, k3, k4, k5, k6, k7, k8, k9, k10, k11, k12, k13, k14, k15, k16, k17, k18, k19, k20, k21, k22, k23, k24, k25, k26, k27, k28, k29, k30, k31, Bool.and_self]
set_option maxRecDepth 100000 in
theorem lifted (os : Os) (started : os.Started) (H : Type) (enc : TypeId × Value → H) :
  ReturnsInHanded {} Try.checked os 5 .any (Rows.fnExactRegionsOfSpec.pre6 enc Try.prog Try.f5 Rows.fnExactRegionsOfRow.domain false) (Rows.fnExactRegionsOfSpec.post enc Try.prog Try.f5 false true false false) := by
 refine returnsInHanded_of_change_sized (C := Try.checked) own started (by kernel_rfl) Try.func5
  (ChangeSpec.witness6 (enc := enc) (C := Try.checked) false ⟨#[], #[.agg #[.int .i64 0, .int .i64 0, .slice none 0 0, .slice none 0 0]], []⟩ 8 (by kernel_rfl) (by kernel_rfl) (by kernel_rfl) (by kernel_rfl)) ?_
 intro W base args ds gs before hval0 hW hcnd hsz0 _
 have hsz : (DataW.weightsEach Try.prog (Try.f5.params.toList ++ Rows.fnExactRegionsOfSpec.plain.varTypes Try.prog) (ds ++ gs)).all (· ≤ reachBytes) = true := hsz0
 have hval : ∀ (j : Nat) t v, Try.f5.params[j]? = some t → args[j]? = some v → Value.okWide Try.prog W .any base t v := hval0
 have hW' := hW
 obtain ⟨p, q, hA0, hV, rfl, hfz, hnd⟩ := hW
 have hA : DataW.TrodAll enc Try.prog W 0 (fun _ => true) true Try.f5.params.toList args.toList ds p := hA0
 rw [Try.params5] at hA hval hsz
 obtain ⟨v0, vs0, d0, ds0, p0, q0, hargs, rfl, rfl, h0, r0⟩ := trodAll_cons hA
 obtain ⟨rfl, rfl, rfl⟩ := trodAll_nil r0
 obtain rfl : args = #[v0] := by cases args; simp_all
 obtain ⟨rfl, rfl⟩ := trodVars_none hV
 have k0 := h0
 have lt0 : ∀ x ∈ p0, x.block < W.heap.size := by obtain ⟨m, hm⟩ := k0; exact DataW.trod_lt m _ _ _ hm

 obtain ⟨c0, c1, c2, c3, y0, y1, y2, y3, m, rfl, rfl, rfl, hy0, hy1, hy2, hy3⟩ := open_agg4 Try.underlying24 (by kernel_rfl) (by kernel_rfl) (hval 0 24 v0 rfl rfl) h0
 have hsz2 : (DataW.weightsEach Try.prog [3, 3, 22, 22] [y0.1, y1.1, y2.1, y3.1]).all (· ≤ reachBytes) = true := by
  rw [List.all_eq_true]
  intro n hn
  exact List.all_eq_true.1 hsz n (DataW.weights_mem_each (j := 0) (t := 24) (d := .agg [y0.1, y1.1, y2.1, y3.1]) rfl rfl n (by simp only [DataW.weights, Try.underlying24]; exact hn))
 obtain ⟨a, e0, -, wa⟩ := DataW.trod_int Try.underlying3 hy0
 obtain ⟨b, e1, -, wb⟩ := DataW.trod_int Try.underlying3 hy1
 obtain ⟨a2, len2, cap2, z2, rfl, w2⟩ := opened hy2
 obtain ⟨a3, len3, cap3, z3, rfl, w3⟩ := opened hy3
 have z2_ : len2 * 8 ≤ 140737488351232 := sized_ints hsz2 (j := 2) (t := 22) rfl rfl Try.underlying22 Try.underlying3 (by kernel_rfl) (by kernel_rfl) (⟨m, by simpa [Value.cells] using hy2⟩ : DataW.Trod enc Try.prog W 0 (fun _ => true) true 22 (.slice a2 len2 cap2) y2.1 y2.2)
 have z3_ : len3 * 8 ≤ 140737488351232 := sized_ints hsz2 (j := 3) (t := 22) rfl rfl Try.underlying22 Try.underlying3 (by kernel_rfl) (by kernel_rfl) (⟨m, by simpa [Value.cells] using hy3⟩ : DataW.Trod enc Try.prog W 0 (fun _ => true) true 22 (.slice a3 len3 cap3) y3.1 y3.2)
 obtain rfl : c0 = .int .i64 a := by simpa using e0
 obtain rfl : c1 = .int .i64 b := by simpa using e1
 clear hA0 hval0 hsz0 hsz hsz2
 refine (walk a b a2 len2 cap2 z2 a3 len3 cap3 z3  W w2 w3 z2_ z3_).mono fun e W' ⟨he, bel⟩ => ?_
 subst he
 exact ⟨_, rfl, _, _, _, [], _, [], hW', trodAll_mk1 (shut_bool Try.underlying4 _), (trodAll_cons_mk (Below.trod laidOut (by kernel_rfl) (of_decide_eq_true (by kernel_rfl)) k0 bel lt0) trodAll_mk0), rfl, bel.frame _, fun h => by cases h⟩
theorem k0_ : (Rows.fnExactRegionsOfRow.wf (OpenSpec.ofChange Rows.fnExactRegionsOfSpec)) = true := by kernel_rfl
theorem k1_ : (laidOutB Try.prog) = true := Closed.laidOut
theorem k2_ : (mapsRowed Try.prog) = true := Closed.mapsRowedP
theorem k3_ : (Try.f5.params.all (Try.prog.readableRec ·)) = true := by kernel_rfl
theorem k4_ : (namedTie Try.prog Rows.fnExactRegionsOfRow.named Rows.fnExactRegionsOfSpec.vars) = true := by kernel_rfl
theorem k5_ : ((Rows.fnExactRegionsOfRow.stops == [])) = true := by kernel_rfl
theorem k6_ : ((Try.prog.stops == [])) = true := Closed.noStops
theorem k7_ : ((Rows.fnExactRegionsOfRow.knobs == [])) = true := by kernel_rfl
theorem k8_ : ((Try.prog.stopKnobs == [])) = true := Closed.noKnobs
theorem k9_ : ((Rows.fnExactRegionsOfRow.inPlace == Try.prog.inPlace 5)) = true := by kernel_rfl
theorem k10_ : ((Rows.fnExactRegionsOfRow.unfollowed == Try.prog.unfollowed 5)) = true := by kernel_rfl
theorem k11_ : ((Rows.fnExactRegionsOfRow.recurses == Try.prog.recurses 5)) = true := by kernel_rfl
theorem k12_ : ((Rows.fnExactRegionsOfRow.named == Try.prog.varsNamed 5)) = true := by kernel_rfl
theorem k13_ : ((Rows.fnExactRegionsOfRow.maps == (Try.f5.params.toList ++ Rows.fnExactRegionsOfSpec.plain.varTypes Try.prog).any (Try.prog.mapsRec ·))) = true := by kernel_rfl
theorem k14_ : ((Rows.fnExactRegionsOfRow.ifaces == (Try.f5.params.toList ++ Rows.fnExactRegionsOfSpec.plain.varTypes Try.prog).any (Try.prog.ifacesRec ·))) = true := by kernel_rfl
theorem k15_ : ((Rows.fnExactRegionsOfRow.mapsOut == Try.prog.mapsAmong Try.f5.resultTypes.toList)) = true := by kernel_rfl
theorem k16_ : ((Rows.fnExactRegionsOfRow.loops == (Try.f5.params.toList ++ Rows.fnExactRegionsOfSpec.plain.varTypes Try.prog).any (Try.prog.loopsFrom ·))) = true := by kernel_rfl
theorem k17_ : ((Rows.fnExactRegionsOfRow.wideKeys == (Try.f5.params.toList ++ Rows.fnExactRegionsOfSpec.plain.varTypes Try.prog ++ Try.f5.resultTypes.toList).any (Try.prog.wideKeysFrom ·))) = true := by kernel_rfl
theorem k18_ : (Rows.fnExactRegionsOfSpec.vars.all (Try.prog.varReadable ·)) = true := by kernel_rfl
theorem k19_ : (Try.f5.resultTypes.all (fun t => Try.prog.readableRec t && decide (t < Try.prog.types.size))) = true := by kernel_rfl
theorem k20_ : ((Rows.fnExactRegionsOfRow.ifacesOut == Try.f5.resultTypes.toList.any (Try.prog.ifacesRec ·))) = true := by kernel_rfl
theorem k21_ : ((Rows.fnExactRegionsOfRow.loopsOut == Try.f5.resultTypes.toList.any (Try.prog.loopsFrom ·))) = true := by kernel_rfl
theorem k22_ : ((Rows.fnExactRegionsOfRow.plainKeys == Try.prog.plainKeys)) = true := by kernel_rfl
theorem k23_ : (Rows.fnExactRegionsOfRow.shortTexts.isNone) = true := by kernel_rfl
theorem k24_ : (Try.prog.stopsHeard) = true := Closed.stopsHeard
theorem k25_ : (Try.prog.mayEnter) = true := Closed.mayEnter
theorem k26_ : ((Rows.fnExactRegionsOfRow.lifted == Try.prog.liftsFinal)) = true := by rw [Closed.liftsFinal]; kernel_rfl
theorem k27_ : ((Try.prog.make == some Rows.fnExactRegionsOfRow.make)) = true := by rw [Closed.make]; kernel_rfl
theorem k28_ : ((Rows.fnExactRegionsOfRow.kinds == [])) = true := by kernel_rfl
theorem k29_ : ((Rows.fnExactRegionsOfRow.pinned == Rows.fnExactRegionsOfRow.pinnedBy)) = true := by kernel_rfl
theorem k30_ : ((Rows.fnExactRegionsOfRow.veiled == (Try.f5.params.toList ++ Rows.fnExactRegionsOfSpec.plain.varTypes Try.prog ++ Try.f5.resultTypes.toList).any (Try.prog.veiledRec ·))) = true := by kernel_rfl
theorem k31_ : (Rows.fnExactRegionsOfRow.veiledFits Try.prog Try.f5.params.toList (Try.f5.params.toList ++ Rows.fnExactRegionsOfSpec.plain.varTypes Try.prog ++ Try.f5.resultTypes.toList)) = true := by kernel_rfl
theorem k99_ : (Rows.fnExactRegionsOfRow.domain.isEmpty) = true := by kernel_rfl
theorem closed : joinedFacts Try.prog 5 Try.f5 Rows.fnExactRegionsOfSpec Rows.fnExactRegionsOfRow = true :=
 joined_mk _ _ _ _ _ k0_ k1_ k2_ k3_ k4_ k5_ k6_ k7_ k8_ k9_ k10_ k11_ k12_ k13_ k14_ k15_ k16_ k17_ k18_ k19_ k20_ k21_ k22_ k23_ k24_ k25_ k26_ k27_ k99_ k28_ k29_ k30_ k31_
theorem over : Rows.fnExactRegionsOfRow.holds Try.pinned (OpenSpec.ofChange Rows.fnExactRegionsOfSpec) :=
 OpenClaim.holds_of_wide 5 Try.f5 rfl rfl rfl rfl rfl rfl rfl ⟨rfl, rfl, rfl, rfl, rfl⟩ rfl rfl rfl rfl rfl (by kernel_rfl) Try.func5 closed
  (of_decide_eq_true (by kernel_rfl)) (by unfold Func.isWrapper; first | (rw [if_pos (by decide +kernel)]; kernel_rfl) | (rw [if_neg (by decide +kernel)]; exact ⟨rfl, rfl⟩))
  (fun os started H enc _ => lifted os started H enc)
theorem proved : Rows.FnExactRegionsOfSaid := over
end Go.Proofs.Yteaglkpplgbpaaa.fnExactRegionsOf
namespace Go.Proofs.Yteaglkpplgbpaaa
theorem fnExactRegionsOf_holds : Rows.FnExactRegionsOfSaid := fnExactRegionsOf.proved
end Go.Proofs.Yteaglkpplgbpaaa
