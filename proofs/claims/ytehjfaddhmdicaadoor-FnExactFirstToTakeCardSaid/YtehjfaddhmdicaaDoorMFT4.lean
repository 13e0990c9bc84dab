/- For every input the law FnExactFirstToTake answers true: the program's FirstToTake tells what the reference's FirstToTake tells; no condition. (part 4 of the proof; the words of the kit's print tool and the texts of this seat, merged by a program) -/
import Derived.Below
import Derived.ChangeOld
import Derived.FnData
import Derived.Handed
import Derived.JoinedOf
import Derived.LaidHandle
import Derived.LaidLaws
import Derived.Lib.Join
import Derived.Lib.SmallJoins
import Derived.OpenShut
import Derived.ProofKit
import Derived.SevenTiedAt
import Derived.SizedLaws
import Derived.Test.YtehjfaddhmdicaaDoorCards
import Derived.Test.YtehjfaddhmdicaaDoorClosed
import Derived.Test.YtehjfaddhmdicaaDoorRows
import Derived.Test.YtehjfaddhmdicaaDoorTie
import Derived.WalkKit
import Derived.Test.YtehjfaddhmdicaaDoorMFT3
namespace Go.Proofs.YtehjfaddhmdicaaDoor.P
open Go.RowKit Go.Proofs.YtehjfaddhmdicaaDoorW.PrintWords Go.Proofs.YtehjfaddhmdicaaDoorW.PrintLast Go.Proofs.YtehjfaddhmdicaaDoorW.PrintMore
attribute [local go_sem] max2_int min2_int max_two min_two max_three min_three max_four min_four   -- for this text's walks alone
set_option linter.unusedVariables false
set_option linter.unusedSimpArgs false

theorem sub_diff (e M ch:Nat):subE e (diffN M ch) = (subE e M && decide (e &&& ch = 0)):=by
 rw [Bool.eq_iff_iff,Bool.and_eq_true,decide_eq_true_iff,subE_test,subE_test]
 constructor
 ·intro h
  refine ⟨fun i hi => ?_,?_⟩
  ·have:=h i hi
   rw [diffN_test,Bool.and_eq_true] at this
   exact this.1
  ·apply Nat.eq_of_testBit_eq
   intro i
   rw [Nat.testBit_and,Nat.zero_testBit]
   cases hi:e.testBit i with
   | false => rfl
   | true =>
    have:=h i hi
    rw [diffN_test,Bool.and_eq_true] at this
    simpa using this.2
 ·rintro ⟨h1,h2⟩ i hi
  rw [diffN_test,h1 i hi,free_bit h2 hi]; rfl
theorem find_miss (M ch:Nat):∀ E:List Nat,(E.find? fun e => subE e (diffN M ch)) = missF (E.filter fun e => subE e M) ch
 | [] => rfl
 | e :: E => by
  have ih:=find_miss M ch E
  by_cases h1:subE e M = true
  ·rw [List.filter_cons_of_pos (p:=fun e => subE e M) h1]
   unfold missF at ih ⊢
   by_cases h2:e &&& ch = 0
   ·rw [List.find?_cons_of_pos (p:=fun e => subE e (diffN M ch)) (by rw [sub_diff,h1]; simp [h2]),List.find?_cons_of_pos (by simp [h2])]
   ·rw [List.find?_cons_of_neg (p:=fun e => subE e (diffN M ch)) (by rw [sub_diff,h1]; simp [h2]),List.find?_cons_of_neg (by simp [h2]),ih]
  ·rw [List.filter_cons_of_neg (p:=fun e => subE e M) h1,List.find?_cons_of_neg (p:=fun e => subE e (diffN M ch)) (by rw [sub_diff]; simp [h1]),ih]
theorem diffN_or (M ch b:Nat):diffN (diffN M ch) b = diffN M (ch ||| b):=by
 apply Nat.eq_of_testBit_eq
 intro i
 rw [diffN_test,diffN_test,diffN_test,Nat.testBit_or]
 cases M.testBit i <;> cases ch.testBit i <;> cases b.testBit i <;> rfl
theorem diffN_none (M:Nat):diffN M 0 = M:=by
 apply Nat.eq_of_testBit_eq
 intro i
 rw [diffN_test,Nat.zero_testBit]; simp
theorem sqHit_l0 {PL:List S122} {E:List Nat} (h:PL.map (fun q => q.f3) = E.map (fun n:Nat => (n:Int))) (hE:∀ e ∈ E,e < 2 ^ 60) (hl:E.length ≤ 30) (X:Nat) (hX:X < 2 ^ 60) (n:Int) (k:Nat):∀ (d i:Nat),E.length - i = d → i ≤ E.length →
  (((E.drop i).find? fun e => subE e X) = none → spec_sqHit.l0 (k + d + 1) PL (X:Int) n PL (PL.length:Int) (i:Int) = some true) ∧
  (∀ e,((E.drop i).find? fun e => subE e X) = some e → ∃ k',k ≤ k' ∧ spec_sqHit.l0 (k + d + 1) PL (X:Int) n PL (PL.length:Int) (i:Int) = if n = 0 then some false else spec_sqHit.l1 k' PL (X:Int) n (e:Int)):=by
 have hlen:PL.length = E.length:=by have:=congrArg List.length h; simpa using this
 intro d
 induction d with
 | zero =>
  intro i h1 h2
  have hi:i = E.length:=by omega
  subst hi
  rw [List.drop_length]
  refine ⟨fun _ => ?_,fun e he => by cases he⟩
  rw [Nat.add_zero,spec_sqHit.l0,hlen,if_neg (by omega)]
 | succ d ih =>
  intro i h1 h2
  have hi:i < E.length:=by omega
  obtain ⟨hp1,hp2⟩:=map_at h (⟨0,0,0,0⟩:S122) i hi
  have hrd:(rd_T122 PL (i:Int)).f3 = ((E[i]:Nat):Int):=by
   unfold rd_T122; rw [Int.toNat_natCast]; exact hp2
  have hEi:=hE _ (List.getElem_mem hi)
  have hand:=and_i64 X E[i] hX hEi
  have hstep:spec_sqHit.l0 (k + (d + 1) + 1) PL (X:Int) n PL (PL.length:Int) (i:Int) = if subE E[i] X = true then (if n = 0 then some false else spec_sqHit.l1 (k + (d + 1)) PL (X:Int) n ((E[i]:Nat):Int)) else spec_sqHit.l0 (k + d + 1) PL (X:Int) n PL (PL.length:Int) ((i + 1:Nat):Int):=by
   rw [spec_sqHit.l0,if_pos (by rw [hlen]; omega),if_pos (by omega),if_pos (by omega),hrd,hand]
   have hw:wrap64 ((i:Int) + 1) = ((i + 1:Nat):Int):=by unfold wrap64; omega
   rw [hw]
   by_cases hs:subE E[i] X = true
   ·rw [if_pos (by exact_mod_cast (subE_and _ _).1 hs),if_pos hs]
   ·rw [if_neg (fun hh => hs ((subE_and _ _).2 (by exact_mod_cast hh))),if_neg hs]; rfl
  rw [hstep,List.drop_eq_getElem_cons hi]
  obtain ⟨a1,a2⟩:=ih (i + 1) (by omega) (by omega)
  by_cases hs:subE E[i] X = true
  ·rw [List.find?_cons_of_pos (p:=fun e => subE e X) hs,if_pos hs]
   refine ⟨fun hh => (by cases hh),fun e he => ?_⟩
   obtain rfl:=Option.some.inj he
   exact ⟨k + (d + 1),by omega,rfl⟩
  ·rw [List.find?_cons_of_neg (p:=fun e => subE e X) hs,if_neg hs]
   exact ⟨a1,a2⟩
theorem any_flat {α:Type} (f:α → List Nat):∀ l:List α,(!(l.flatMap f).isEmpty) = l.any fun x => !(f x).isEmpty
 | [] => rfl
 | x :: l => by
  have ih:=any_flat f l
  rw [List.flatMap_cons,List.any_cons,← ih]
  cases f x with
  | nil => rfl
  | cons a t => rfl
theorem sqHit_l1 {PL:List S122} (Ls:List Nat) (M ch m:Nat) (hM:M < 2 ^ 60) (hm:m ≤ 64) (F:Nat)
  (ih:∀ (k ch:Nat),F ≤ k → ch < 2 ^ 60 → spec_sqHit.f k PL ((diffN M ch:Nat):Int) (m:Int) = some (!(hitW Ls m ch).isEmpty)) (hch:ch < 2 ^ 60) :
  ∀ (c B k:Nat),(bitsN B).length = c → B < 2 ^ 60 → F + c < k → spec_sqHit.l1 k PL ((diffN M ch:Nat):Int) ((m + 1:Nat):Int) (B:Int) = some ((bitsI B).any fun x => !(hitW Ls m (ch ||| 2 ^ x.toNat)).isEmpty):=by
 intro c
 induction c with
 | zero =>
  intro B k h1 h2 hk
  have hB:B = 0:=by
   rcases Nat.eq_zero_or_pos B with h0 | h0
   ·exact h0
   ·rw [bitsN_step B (by omega) h2] at h1; simp at h1
  subst hB
  obtain ⟨k,rfl⟩:∃ q,k = q + 1:=⟨k - 1,by omega⟩
  rw [spec_sqHit.l1,if_pos (show ((0:Nat):Int) = 0 from rfl)]
  unfold bitsI; rw [bitsN_zero]; rfl
 | succ c ihc =>
  intro B k h1 h2 hk
  have hB:B ≠ 0:=by rintro rfl; rw [bitsN_zero] at h1; simp at h1
  obtain ⟨q1,q2,-,-,q5⟩:=low_bits B hB h2
  have hst:=bitsN_step B hB h2
  have hlen:(bitsN (B &&& (B - 1))).length = c:=by rw [hst,List.length_cons] at h1; omega
  have hp:=pow_lt60 q1
  have hB1:B - 1 < 2 ^ 60:=Nat.lt_of_le_of_lt (Nat.sub_le _ _) h2
  have hw1:wrap64 ((B:Int) - 1) = ((B - 1:Nat):Int):=by
   have:=lit60 h2
   clear ih ihc h1 hst hlen q1 q2 q5 hp
   unfold wrap64; omega
  have hw2:wrap64 (((m + 1:Nat):Int) - 1) = (m:Int):=by
   clear ih ihc h1 hst hlen q1 q2 q5 hp
   unfold wrap64; omega
  obtain ⟨k,rfl⟩:∃ q,k = q + 1:=⟨k - 1,by omega⟩
  have hbi:bitsI B = ((Lib.ctz 64 B:Nat):Int) :: bitsI (B &&& (B - 1)):=by unfold bitsI; rw [hst]; rfl
  rw [spec_sqHit.l1,if_neg (by exact_mod_cast hB),wrap_neg B (lit60 h2),and_neg_i64 B hB h2,andNot_i64 _ _ (diffN_lt ch hM) hp,diffN_or,hw1,hw2,ih k _ (by omega) (Nat.or_lt_two_pow hch hp),Option.bind_some,hbi,List.any_cons,Int.toNat_natCast,and_i64 _ _ h2 hB1]
  cases (!(hitW Ls m (ch ||| 2 ^ Lib.ctz 64 B)).isEmpty) with
  | true => rw [if_pos rfl]; rfl
  | false => rw [if_neg (by simp),ihc _ k hlen (Nat.lt_of_le_of_lt Nat.and_le_left h2) (by omega)]; rfl
theorem sqHit_f {PL:List S122} {E:List Nat} (h:PL.map (fun q => q.f3) = E.map (fun n:Nat => (n:Int))) (hE:∀ e ∈ E,e < 2 ^ 60) (hl:E.length ≤ 30) (M:Nat) (hM:M < 2 ^ 60) :
  ∀ (n k ch:Nat),(n + 1) * 200 ≤ k → n ≤ 64 → ch < 2 ^ 60 → spec_sqHit.f k PL ((diffN M ch:Nat):Int) (n:Int) = some (!(hitW (E.filter fun e => subE e M) n ch).isEmpty):=by
 have key:∀ (k ch:Nat) (n:Int),40 ≤ k → (missF (E.filter fun e => subE e M) ch = none → spec_sqHit.f k PL ((diffN M ch:Nat):Int) n = some true) ∧
   (∀ e,missF (E.filter fun e => subE e M) ch = some e → ∃ k',k - 40 ≤ k' ∧ spec_sqHit.f k PL ((diffN M ch:Nat):Int) n = if n = 0 then some false else spec_sqHit.l1 k' PL ((diffN M ch:Nat):Int) n (e:Int)):=by
  intro k ch n hk
  obtain ⟨q,rfl⟩:∃ q,k = (q + E.length + 1) + 1:=⟨k - E.length - 2,by omega⟩
  have:=sqHit_l0 h hE hl (diffN M ch) (diffN_lt ch hM) n q E.length 0 (by omega) (Nat.zero_le _)
  rw [List.drop_zero,find_miss] at this
  obtain ⟨a1,a2⟩:=this
  rw [spec_sqHit.f]
  refine ⟨a1,fun e he => ?_⟩
  obtain ⟨k',h1,h2⟩:=a2 e he
  exact ⟨k',by omega,h2⟩
 intro n
 induction n with
 | zero =>
  intro k ch hk hn hch
  obtain ⟨a1,a2⟩:=key k ch ((0:Nat):Int) (by omega)
  rcases hm:missF (E.filter fun e => subE e M) ch with _ | s
  ·rw [a1 hm,hitW_none hm]; rfl
  ·obtain ⟨k',-,h2⟩:=a2 s hm
   rw [h2,hitW_zero hm]; rfl
 | succ m ih =>
  intro k ch hk hn hch
  obtain ⟨a1,a2⟩:=key k ch ((m + 1:Nat):Int) (by omega)
  rcases hm:missF (E.filter fun e => subE e M) ch with _ | s
  ·rw [a1 hm,hitW_none hm]; rfl
  ·obtain ⟨k',h1,h2⟩:=a2 s hm
   have hs60:s < 2 ^ 60:=hE s (List.mem_filter.1 (missF_mem hm)).1
   rw [h2,if_neg (by omega),hitW_succ hm,any_flat]
   exact sqHit_l1 (E.filter fun e => subE e M) M ch m hM (by omega) ((m + 1) * 200) (fun k ch hk hch => ih k ch hk (by omega) hch) hch _ s k' rfl hs60 (by have:=bitsN_len s; omega)


def spec_sqFewest.l0:Nat → List (S122) → Int → Int → Option (Int)
  | 0,_,_,_ => none
  | k + 1,x0,x1,x5 => (spec_sqHit.f k x0 x1 x5).bind fun t149 => (if t149 = true then (some x5) else (spec_sqFewest.l0 k x0 x1 (wrap64 (x5 + 1))))
def spec_sqFewest.f (k:Nat) (l0:List (S122)) (a1:Int):Option (Int):=spec_sqFewest.l0 k l0 a1 0
theorem spec_sqFewest.mono_l:∀ k,(∀ y0 y1 y2,LeO (spec_sqFewest.l0 k y0 y1 y2) (spec_sqFewest.l0 (k + 1) y0 y1 y2))
  | 0 => fun _ _ _ r h => by simp [spec_sqFewest.l0] at h
  | k + 1 => by
    have ih0:=spec_sqFewest.mono_l k
    · intro y0 y1 y2
      unfold spec_sqFewest.l0
      repeat' first | (with_reducible first | exact ih0 _ _ _ | exact spec_sqHit.mono _ _ _ _ | exact LeO.refl _ | exact LeO.none _ | refine LeO.ite ?_ ?_ | refine LeO.bind ?_ (fun _ => ?_)) | exact ih0 _ _ _ | exact spec_sqHit.mono _ _ _ _
theorem spec_sqFewest.mono:∀ a0 a1 k,LeO (spec_sqFewest.f k a0 a1) (spec_sqFewest.f (k + 1) a0 a1):=by
  intro a0 a1 k
  have ih0:=spec_sqFewest.mono_l k
  unfold spec_sqFewest.f
  repeat' first | (with_reducible first | exact ih0 _ _ _ | exact spec_sqHit.mono _ _ _ _ | exact LeO.refl _ | exact LeO.none _ | refine LeO.ite ?_ ?_ | refine LeO.bind ?_ (fun _ => ?_)) | exact ih0 _ _ _ | exact spec_sqHit.mono _ _ _ _
set_option maxHeartbeats 8000000 in
set_option maxRecDepth 100000 in
theorem spec_sqFewest.calls (k:Nat) (A0:Option Addr) (c0:Nat) (l0:List (S122)) (a1:Int) (r:Int) (w:World) (hr0:Kd.C k122 w A0 l0.length l0) (hc0:l0.length ≤ c0) (h:spec_sqFewest.f k l0 a1 = some r) :
    Calls Tryd.prog 48 #[.slice A0 l0.length c0,.int .i64 a1] w fun e w' => e = .returned (.int .i64 r) ∧ Below w.heap.size w w':=by
  have HR0:=am_ hr0
  have HC0:=am_ hc0
  clear hr0 hc0
  have HB:=am_ (Below.refl w.heap.size w)
  have H:(spec_sqFewest.l0 k l0 a1 0) = some r:=h
  clear h
  have H':=am_ H
  clear H
  go_enter Tryd.func48,Tryd.ntmps48
  go_wp2
  go_loopg [5] k (fun kq v5 w' => ∃ (x5_1:Int),v5 = .int .i64 x5_1 ∧ Aside0 (spec_sqFewest.l0 kq l0 a1 x5_1 = some r) ∧ Aside0 (kq ≤ k) ∧ Aside0 (Below w.heap.size w w'))
  case atStart => exact ⟨(0),rs_,H',⟨Nat.le_refl _⟩,⟨bl0_ HB.out⟩⟩
  case round =>
    clear H'
    try clear p2
    obtain ⟨x5_1,rfl,HA,HK1,HB⟩:=hrel
    cases gk with
    | zero => exact absurd HA.out (by simp [spec_sqFewest.l0])
    | succ k1 =>
      have H:=HA.out
      clear HA
      simp only [spec_sqFewest.l0] at H
      replace H:=bi_ H
      obtain ⟨t149,A30,H⟩:=H
      replace H:(if t149 = true then (some x5_1) else (spec_sqFewest.l0 k1 l0 a1 (wrap64 (x5_1 + 1)))) = some r:=H
      have A3:=am_ A30
      clear A30
      by_cases c4:t149 = true
      · subst c4
        have H1:(some x5_1) = some r:=by rw [if_pos rfl] at H; exact H
        clear H
        have H:=H1
        clear H1
        obtain rfl:=Option.some.inj H
        go_wp2_with (first | ((with_reducible refine gate_callee (f:=95) rfl ?_); refine goesL_ (some 9) rfl rfl Tryd.func95 (by kernel_rfl) rfl #[.slice A0 l0.length c0,.int .i64 a1,.int .i64 x5_1] rfl ob_ ?_; (with_reducible refine (spec_sqHit.calls k1 _ _ l0 a1 x5_1 true _ ?side1 ?side2 A3.out).mono ?_); (case side1 => exact kc_ (Kd.C_below HR0.out HB.out)); (case side2 => exact HC0.out); rintro e w5 ⟨rfl,hb⟩; refine ⟨_,rfl,?_⟩; have n0_:=am_ (below_step (bl0_ HB.out) hb); clear HB; have HB:=n0_; clear n0_; (try clear hb); (try clear hb2); (try clear hk); (try clear hi)))
        go_ret
        exact ⟨er_,bl0_ HB.out⟩
      · replace c4:=Bool.eq_false_iff.mpr c4
        subst c4
        have H1:(spec_sqFewest.l0 k1 l0 a1 (wrap64 (x5_1 + 1))) = some r:=by rw [if_neg (show ¬ (false = true) by decide)] at H; exact H
        clear H
        have H:=H1
        clear H1
        have H':=am_ H
        clear H
        go_wp2_with (first | ((with_reducible refine gate_callee (f:=95) rfl ?_); refine goesL_ (some 9) rfl rfl Tryd.func95 (by kernel_rfl) rfl #[.slice A0 l0.length c0,.int .i64 a1,.int .i64 x5_1] rfl ob_ ?_; (with_reducible refine (spec_sqHit.calls k1 _ _ l0 a1 x5_1 false _ ?side1 ?side2 A3.out).mono ?_); (case side1 => exact kc_ (Kd.C_below HR0.out HB.out)); (case side2 => exact HC0.out); rintro e w6 ⟨rfl,hb⟩; refine ⟨_,rfl,?_⟩; have n0_:=am_ (below_step (bl0_ HB.out) hb); clear HB; have HB:=n0_; clear n0_; (try clear hb); (try clear hb2); (try clear hk); (try clear hi)))
        go_roundg k1
        case measure => have:=HK1.out; omega
        case rel => exact ⟨(wrap64 (x5_1 + 1)),rs_,H',⟨by have:=HK1.out; omega⟩,⟨bl0_ HB.out⟩⟩


def ChInv (Bo base:Nat) (acc:List Int) (O:Nat → Prop) (W:World):Prop :=
  ∃ v,W.cell? ⟨Bo,0,none⟩ = some v ∧ W.frozen? ⟨Bo,0,none⟩ = false ∧ Kd.R (Kd.int .i64) 3 W base (fun k => k ≠ Bo) v acc ∧ ∀ k,O k ↔ k = Bo ∨ some k = v.ownBlock
theorem ChInv.move {Bo base:Nat} {acc:List Int} {O:Nat → Prop} {W W':World} (hI:ChInv Bo base acc O W) (hk:∀ k,O k → W'.heap[k]? = W.heap[k]?):ChInv Bo base acc O W':=by
  obtain ⟨v,c1,f1,hR,hO⟩:=hI
  have hm:=hk Bo ((hO Bo).2 (.inl rfl))
  exact ⟨v,(World.cell?_of_block (w:=W) (a:=⟨Bo,0,none⟩) hm).trans c1,(World.frozen?_of_block (w:=W) (a:=⟨Bo,0,none⟩) hm).trans f1,Kd.R_mono (Kd.R_move (Kd.R_tight rfl hR) (fun k h => hk k ((hO k).2 (.inr h)))) (fun k h => hR.1 k h.symm),hO⟩
theorem ChInv.lt {Bo base:Nat} {acc:List Int} {O:Nat → Prop} {W:World} (hI:ChInv Bo base acc O W) (k:Nat) (hk:O k):k < W.heap.size:=by
  obtain ⟨v,c1,f1,hR,hO⟩:=hI
  rcases (hO k).1 hk with rfl | h
  · exact wl_ W _ c1
  · exact Kd.R_lt hR k h.symm


def putN (acc:List Int) (c:Int):List Int:=if c ∈ acc then acc else acc ++ [c]
def TkPost (Bo base:Nat) (acc:List Int) (ws:List Nat) (O:Nat → Prop) (w:World) (e:Ending) (w':World):Prop :=
 e = .returned (.tuple #[]) ∧ ∃ O',ChInv Bo base ((ints ws).foldl putN acc) O' w' ∧ FrameBut O w w' ∧ ∀ k,O' k → O k ∨ w.heap.size ≤ k
def leftW (E:List Nat) (M n ch:Nat):List Nat:=(hitW (E.filter fun e => subE e M) n ch).map (diffN M)
set_option maxRecDepth 100000 in
set_option maxHeartbeats 8000000 in
theorem tk_stop (Bo base:Nat) (PL:List S122) (A:Option Addr) (c:Nat) (X:Int) (acc:List Int) (O:Nat → Prop) (w:World) (hI:ChInv Bo base acc O w) (hC:Kd.C k122 w A PL.length PL) (i0:Nat) (hi0:i0 < PL.length) (hl30:PL.length ≤ 1000000)
  (h0:∀ i,i < i0 → Go.bits .and .i64 X (rd_T122 PL (i:Int)).f3 ≠ (rd_T122 PL (i:Int)).f3) (h1:Go.bits .and .i64 X (rd_T122 PL (i0:Int)).f3 = (rd_T122 PL (i0:Int)).f3) :
  Calls Tryd.prog 92 #[.slice A PL.length c,.int .i64 X,.int .i64 0,.pointer (some ⟨Bo,0,none⟩)] w fun e w' => e = .returned (.tuple #[]) ∧ Below w.heap.size w w':=by
 have HC:=am_ hC
 have H0:=am_ h0
 have H1:=am_ h1
 clear hI hC h0 h1
 generalize hn:PL.length = n at hi0 hl30
 have HN:=am_ hn
 clear hn
 have HC2:Aside0 (Kd.C k122 w A n PL):=⟨by have h:=HC.out; rw [HN.out] at h; exact h⟩
 clear HC
 go_enter Tryd.func92,Tryd.ntmps92
 go_wp2_with fail
 go_loopg [15] (n + 1) (fun gg u15 wr => ∃ i:Nat,i ≤ i0 ∧ n + 1 - i ≤ gg ∧ u15 = .int .i64 i ∧ Aside0 (Below w.heap.size w wr))
 case atStart => exact ⟨0,Nat.zero_le _,Nat.le_refl _,rfl,⟨Below.refl _ _⟩⟩
 case round =>
  obtain ⟨i,hii,hgg,rfl,HB⟩:=hrel
  have hlz:(i:Int) < (n:Int):=by omega
  obtain ⟨ad,eA,hx,hx2,hx3,hx4⟩:=at_T122 (Kd.C_below HC2.out HB.out) (i:Int) (by omega) (by omega)
  cases eA
  rw [Int.toNat_natCast] at hx hx2 hx3 hx4
  have e1:IntKind.i64.wrap ((i:Int) + 1) = (i:Int) + 1:=IntWalk.i64_in _ (by omega)
  by_cases hlt:i < i0
  ·have hne:=H0.out i hlt
   generalize rd_T122 PL (i:Int) = q at hx hx2 hx3 hx4 hne
   obtain ⟨q0,q1,q2,q3⟩:=q
   have hne2:(Go.bits .and .i64 X q3 != q3) = true:=by simpa using hne
   have hB1:Below w.heap.size w (wr.alloc (.cells #[.int .i64 q0,.int .i64 q1,.int .i64 q2,.int .i64 q3] 122)):=below_alloc HB.out _
   have HB1:=am_ hB1
   clear hne hB1
   go_wp2_with fail
   go_roundg (n + 1 - (i + 1))
   case measure => omega
   case rel => exact ⟨i + 1,by omega,Nat.le_refl _,by go_num,HB1⟩
  ·have hie:i = i0:=by omega
   subst hie
   have heq:=H1.out
   generalize rd_T122 PL (i:Int) = q at hx hx2 hx3 hx4 heq
   obtain ⟨q0,q1,q2,q3⟩:=q
   have hne2:(Go.bits .and .i64 X q3 != q3) = false:=by simpa using heq
   have hB1:Below w.heap.size w (wr.alloc (.cells #[.int .i64 q0,.int .i64 q1,.int .i64 q2,.int .i64 q3] 122)):=below_alloc HB.out _
   have HB1:=am_ hB1
   clear heq hB1
   go_wp2_with fail
   exact bodyPost_ret (v:=.tuple #[]) (by simp [results,Tryd.results92,go_sem]) rfl ⟨rfl,HB1.out⟩
set_option maxRecDepth 100000 in
set_option maxHeartbeats 16000000 in
theorem tk_none (Bo base:Nat) (hbo:base ≤ Bo) (PL:List S122) (A:Option Addr) (c:Nat) (X left:Int) (acc:List Int) (O:Nat → Prop) (w:World) (hlen:acc.length ≤ 2 ^ 40) (hI:ChInv Bo base acc O w) (hC:Kd.C k122 w A PL.length PL) (hl30:PL.length ≤ 1000000)
  (h0:∀ i,i < PL.length → Go.bits .and .i64 X (rd_T122 PL (i:Int)).f3 ≠ (rd_T122 PL (i:Int)).f3) :
  Calls Tryd.prog 92 #[.slice A PL.length c,.int .i64 X,.int .i64 left,.pointer (some ⟨Bo,0,none⟩)] w fun e w' => e = .returned (.tuple #[]) ∧ ∃ O',ChInv Bo base (putN acc X) O' w' ∧ FrameBut O w w' ∧ ∀ k,O' k → O k ∨ w.heap.size ≤ k:=by
 have HC:=am_ hC
 have H0:=am_ h0
 have HI:=am_ hI
 have HL:=am_ hlen
 have hi5:(Tryd.prog.info? 3).map (fun i => (i.zero,i.size,i.bytes)) = some (some (.int .i64 0),1,8):=by kernel_rfl
 clear hI hC h0 hlen
 generalize hn:PL.length = n at hl30
 have HN:=am_ hn
 clear hn
 have HC2:Aside0 (Kd.C k122 w A n PL):=⟨by have h:=HC.out; rw [HN.out] at h; exact h⟩
 clear HC
 go_enter Tryd.func92,Tryd.ntmps92
 go_wp2_with fail
 go_loopg [15] (n + 1) (fun gg u15 wr => ∃ i:Nat,i ≤ n ∧ n + 1 - i ≤ gg ∧ u15 = .int .i64 i ∧ Aside0 (Below w.heap.size w wr))
 case atStart => exact ⟨0,Nat.zero_le _,Nat.le_refl _,rfl,⟨Below.refl _ _⟩⟩
 case round =>
  obtain ⟨i,hii,hgg,rfl,HB⟩:=hrel
  by_cases hlt:i < n
  ·have hlz:(i:Int) < (n:Int):=by omega
   obtain ⟨ad,eA,hx,hx2,hx3,hx4⟩:=at_T122 (Kd.C_below HC2.out HB.out) (i:Int) (by omega) (by omega)
   cases eA
   rw [Int.toNat_natCast] at hx hx2 hx3 hx4
   have e1:IntKind.i64.wrap ((i:Int) + 1) = (i:Int) + 1:=IntWalk.i64_in _ (by omega)
   have hne:=H0.out i (by rw [HN.out]; exact hlt)
   generalize rd_T122 PL (i:Int) = q at hx hx2 hx3 hx4 hne
   obtain ⟨q0,q1,q2,q3⟩:=q
   have hne2:(Go.bits .and .i64 X q3 != q3) = true:=by simpa using hne
   have hB1:Below w.heap.size w (wr.alloc (.cells #[.int .i64 q0,.int .i64 q1,.int .i64 q2,.int .i64 q3] 122)):=below_alloc HB.out _
   have HB1:=am_ hB1
   clear hne hB1
   go_wp2_with fail
   go_roundg (n + 1 - (i + 1))
   case measure => omega
   case rel => exact ⟨i + 1,by omega,Nat.le_refl _,by go_num,HB1⟩
  ·have hlz:¬ (i:Int) < (n:Int):=by omega
   have hI2:=HI.out.move (W':=wr) (fun k hk => HB.out.block k (HI.out.lt k hk))
   obtain ⟨v,c1,f1,hR,hO⟩:=hI2
   have b1:Bo < wr.heap.size:=wl_ wr _ c1
   obtain ⟨A0,d0,rfl⟩:=Kd.R_slice hR
   have HR:=am_ hR
   have HO:=am_ hO
   have HBr:=HB
   clear hR hO HB
   go_wp2_with fail
   go_loopg [52] (acc.length + 1) (fun gg u52 wq => ∃ j:Nat,j ≤ acc.length ∧ acc.length + 1 - j ≤ gg ∧ u52 = .int .i64 j ∧ Aside0 (wq = wr) ∧ Aside0 (∀ x ∈ acc.take j,x ≠ X))
   case atStart => exact ⟨0,Nat.zero_le _,Nat.le_refl _,rfl,⟨rfl⟩,⟨fun x hx => by simp at hx⟩⟩
   case round =>
    obtain ⟨j,hja,hgg2,rfl,HW,HT⟩:=hrel
    have hw:=HW.out
    clear HW
    subst hw
    by_cases hlt2:j < acc.length
    ·have hlz2:(j:Int) < (acc.length:Int):=by omega
     obtain ⟨ad,eA,hcell⟩:=Kd.at_int (Kd.R_reads' HR.out).2.2 (j:Int) (by omega) (by omega)
     subst eA
     have hrd:rd acc (j:Int) = acc[j]:=by
      unfold rd; rw [Int.toNat_natCast,List.getD_eq_getElem?_getD,List.getElem?_eq_getElem hlt2]; rfl
     rw [hrd,Int.toNat_natCast] at hcell
     have hTk:Aside0 (acc.take (j + 1) = acc.take j ++ [acc[j]]):=⟨List.take_succ_eq_append_getElem hlt2⟩
     have hmem:Aside0 (acc[j] ∈ acc):=⟨List.getElem_mem hlt2⟩
     have e2:IntKind.i64.wrap ((j:Int) + 1) = (j:Int) + 1:=IntWalk.i64_in _ (by have:=HL.out; omega)
     clear hrd
     generalize acc[j] = x at hcell hTk hmem
     by_cases hx:x = X
     ·subst hx
      go_wp2_with fail
      exact bodyPost_ret (v:=.tuple #[]) (by simp [results,Tryd.results92,go_sem]) rfl ⟨rfl,O,by unfold putN; rw [if_pos hmem.out]; exact ⟨_,c1,f1,HR.out,HO.out⟩,FrameBut.of_below HBr.out,fun k hk => .inl hk⟩
     ·have hxb:(x == X) = false:=by rw [beq_eq_false_iff_ne]; exact hx
      have hT2:Aside0 (∀ y ∈ acc.take (j + 1),y ≠ X):=⟨fun y hy => by
       rw [hTk.out] at hy
       rcases List.mem_append.1 hy with hy | hy
       ·exact HT.out y hy
       ·rw [List.mem_singleton] at hy; rw [hy]; exact hx⟩
      go_wp2_with fail
      go_roundg (acc.length + 1 - (j + 1))
      case measure => omega
      case rel => exact ⟨j + 1,by omega,Nat.le_refl _,by go_num,⟨rfl⟩,hT2⟩
    ·have hlz2:¬ (j:Int) < (acc.length:Int):=by omega
     have hX:X ∉ acc:=fun h => HT.out X (by rw [List.take_of_length_le (by omega)]; exact h) rfl
     have hput:Aside0 (putN acc X = acc ++ [X]):=⟨by unfold putN; rw [if_neg hX]⟩
     have hnv:some Bo ≠ (Value.slice A0 acc.length d0).ownBlock:=fun h => HR.out.1 Bo h.symm rfl
     have HLN:Aside0 ((acc ++ [X]).length = acc.length + 1):=⟨by simp⟩
     have HBW:Aside0 (base ≤ wr.heap.size):=⟨by omega⟩
     have HBA:Aside0 (∀ o,Bo < (wr.alloc o).heap.size):=⟨fun o => by simp; omega⟩
     clear hX HT
     go_wp2_with ((at_builtin; refine Kd.R_append_row (w0:=wr) (h1:=fun _ => rfl) (Value.int .i64) (0:Int) base rfl _ _ _ _ _ 8 rfl Tryd.underlying22 hi5 rfl (by decide) (.slice A0 acc.length d0) acc [X] _ 1 _ (fun k => k ≠ Bo) rfl rfl ?xF ?xA ?xB ?xC ?xD ?xE ?_; (case xF => exact fun k hk => by simp at hk; omega); (case xA => exact Kd.R_alloc HR.out _); (case xB => exact lit1_C (Value.int .i64) (fun _ => rfl) 3 wr X); (case xC => exact (below_alloc (Below.refl wr.heap.size wr) _).mono HBW.out); (case xD => simp; omega); (case xE => have h_:=HL.out; omega); intro v1 w1 ho hb hg hat; obtain ⟨A1,d1,rfl⟩:=Kd.R_slice ho; have cx:w1.cell? ⟨Bo,0,none⟩ = some (.slice A0 acc.length d0):=YtehjfaddhmdicaaDoorW.PrintWords.cell_grown hg ((World.cell?_alloc_lt _ _ _ b1).trans c1) hnv; have fx:w1.frozen? ⟨Bo,0,none⟩ = false:=(World.frozen?_of_block (a:=⟨Bo,0,none⟩) (hg.block Bo (HBA.out _) hnv)).trans ((World.frozen?_of_block (w:=wr) (a:=⟨Bo,0,none⟩) (Below.heap_alloc _ _ _ b1)).trans f1); have HO1:=am_ ho; have HB1:=am_ hb; have HG1:=am_ hg; have HA1:=am_ hat; clear ho hb hg hat))
     refine bodyPost_end (v:=.tuple #[]) (by simp [results,Tryd.results92,go_sem]) rfl ⟨rfl,fun k => k = Bo ∨ some k = (Value.slice A1 (acc ++ [X]).length d1).ownBlock,⟨.slice A1 (acc ++ [X]).length d1,?_,?_,?_,fun k => Iff.rfl⟩,?_,fun k hk => ?_⟩
     ·rw [HLN.out]; apply World.cell?_setCell_same; exact cx
     ·rw [World.frozen?_setCell]; exact fx
     ·rw [hput.out]; exact Kd.R_far (p:=⟨Bo,0,none⟩) HO1.out (fun k hk => hk) _
     ·exact (FrameBut.of_below HBr.out).trans ((((FrameBut.refl O wr).alloc _).grown HG1.out (fun k hk => .inl ((HO.out k).2 (.inr hk.symm)))).setCell (.inl ((HO.out Bo).2 (.inl rfl))) _) (fun k h => .inl h)
     ·rcases hk with hk | hk
      ·exact .inl ((HO.out k).2 (.inl hk))
      ·rcases HA1.out with h | ⟨b,h,hb⟩
       ·exact .inl ((HO.out k).2 (.inr (hk.trans h)))
       ·rw [h] at hk
        cases hk
        have:=HBr.out.size
        exact .inr (by simp at hb; omega)
def GoodL (acc:List Int):Prop:=acc.Nodup ∧ ∀ x ∈ acc,0 ≤ x ∧ x < 1099511627776
theorem GoodL.len {acc:List Int} (h:GoodL acc):acc.length ≤ 2 ^ 40:=by
 have h1:(acc.map Int.toNat).Nodup:=by
  unfold List.Nodup
  rw [List.pairwise_map]
  refine List.Pairwise.imp_of_mem (fun {a b} ha hb hab he => hab ?_) h.1
  have h2:=h.2 a ha
  have h3:=h.2 b hb
  omega
 have h2:=nodup_len (2 ^ 40) _ h1 (fun x hx => by
  obtain ⟨y,hy,rfl⟩:=List.mem_map.1 hx
  have h3:=h.2 y hy
  omega)
 rwa [List.length_map] at h2
theorem GoodL.put {acc:List Int} (h:GoodL acc) {x:Int} (h0:0 ≤ x) (h1:x < 1099511627776):GoodL (putN acc x):=by
 unfold putN
 by_cases hx:x ∈ acc
 ·rw [if_pos hx]; exact h
 ·rw [if_neg hx]
  refine ⟨List.nodup_append.2 ⟨h.1,List.nodup_cons.2 ⟨List.not_mem_nil,List.nodup_nil⟩,fun a ha b hb hab => ?_⟩,fun y hy => ?_⟩
  ·rw [List.mem_singleton] at hb
   exact hx (by rw [← hb,← hab]; exact ha)
  ·rcases List.mem_append.1 hy with hy | hy
   ·exact h.2 y hy
   ·rw [List.mem_singleton] at hy; rw [hy]; exact ⟨h0,h1⟩
theorem GoodL.fold:∀ (D:List Nat) (acc:List Int),GoodL acc → (∀ x ∈ D,x < 2 ^ 40) → GoodL ((ints D).foldl putN acc)
 | [],_,h,_ => h
 | x :: D,acc,h,hD => GoodL.fold D (putN acc (x:Int)) (h.put (Int.natCast_nonneg x) (by have:=hD x List.mem_cons_self; omega)) (fun y hy => hD y (List.mem_cons_of_mem _ hy))
theorem leftW_lt {E:List Nat} {M:Nat} (hM:M < 2 ^ 40) (n ch:Nat):∀ x ∈ leftW E M n ch,x < 2 ^ 40:=by
 intro x hx
 obtain ⟨z,-,rfl⟩:=List.mem_map.1 hx
 exact diffN_lt z hM
theorem flat_lt {E:List Nat} {M:Nat} (hM:M < 2 ^ 40) (m ch:Nat) (l:List Int):∀ x ∈ l.flatMap (fun x => leftW E M m (ch ||| 2 ^ x.toNat)),x < 2 ^ 40:=by
 intro x hx
 obtain ⟨y,-,h⟩:=List.mem_flatMap.1 hx
 exact leftW_lt hM _ _ x h
theorem wn60 {B:Nat} (h:B < 2 ^ 60):IntKind.i64.wrap (-(B:Int)) = -(B:Int):=by
 have:=lit60 h
 clear h
 exact IntWalk.i64_in _ (by omega)
theorem wp60 {B:Nat} (h:B < 2 ^ 60) (h0:B ≠ 0):IntKind.i64.wrap ((B:Int) - 1) = ((B - 1:Nat):Int):=by
 have:=lit60 h
 clear h
 rw [IntWalk.i64_in _ (by omega)]
 omega
def TkMid (E:List Nat) (M m ch e:Nat) (Bo base:Nat) (acc:List Int) (O:Nat → Prop) (W0:World) (B:Nat) (wr:World):Prop :=
 ∃ D O',((bitsI e).flatMap fun x => leftW E M m (ch ||| 2 ^ x.toNat)) = D ++ ((bitsI B).flatMap fun x => leftW E M m (ch ||| 2 ^ x.toNat)) ∧ ChInv Bo base ((ints D).foldl putN acc) O' wr ∧ FrameBut O W0 wr ∧ ∀ k,O' k → O k ∨ W0.heap.size ≤ k
theorem ints_append (a b:List Nat):ints (a ++ b) = ints a ++ ints b:=by unfold ints; rw [List.map_append]
theorem tk_call {Bo base:Nat} {E:List Nat} {PL:List S122} {w0:World} {Kp:Nat → Prop} {A:Option Addr} {c M m n:Nat}
  (ih:∀ (ch:Nat) (acc:List Int) (O:Nat → Prop) (w:World),ch < 2 ^ 60 → GoodL acc → ChInv Bo base acc O w → w0.heap.size ≤ w.heap.size → (∀ k,Kp k → w.heap[k]? = w0.heap[k]?) → (∀ k,O k → ¬ Kp k) →
   Calls Tryd.prog 92 #[.slice A PL.length c,.int .i64 ((diffN M ch:Nat):Int),.int .i64 (m:Int),.pointer (some ⟨Bo,0,none⟩)] w (TkPost Bo base acc (leftW E M m ch) O w)) (hn:PL.length = n)
  {ch:Nat} {acc:List Int} {O:Nat → Prop} {w:World} (h1:ch < 2 ^ 60) (h2:GoodL acc) (h3:ChInv Bo base acc O w) (h4:w0.heap.size ≤ w.heap.size) (h5:∀ k,Kp k → w.heap[k]? = w0.heap[k]?) (h6:∀ k,O k → ¬ Kp k) :
  Aside0 (Calls Tryd.prog 92 #[.slice A n c,.int .i64 ((diffN M ch:Nat):Int),.int .i64 (m:Int),.pointer (some ⟨Bo,0,none⟩)] w (TkPost Bo base acc (leftW E M m ch) O w)):=⟨by
 have h:=ih ch acc O w h1 h2 h3 h4 h5 h6
 rwa [hn] at h⟩
set_option maxRecDepth 100000 in
set_option maxHeartbeats 16000000 in
theorem tk_go (Bo base:Nat) (E:List Nat) (PL:List S122) (w0:World) (Kp:Nat → Prop) (hKp:∀ k,Kp k → k < w0.heap.size) (A:Option Addr) (c:Nat) (hrow:∀ W:World,(∀ k,Kp k → W.heap[k]? = w0.heap[k]?) → Kd.C k122 W A PL.length PL) (hl30:PL.length ≤ 1000000) (M m:Nat) (hM:M < 2 ^ 40) (hm:m < 64)
  (ih:∀ (ch:Nat) (acc:List Int) (O:Nat → Prop) (w:World),ch < 2 ^ 60 → GoodL acc → ChInv Bo base acc O w → w0.heap.size ≤ w.heap.size → (∀ k,Kp k → w.heap[k]? = w0.heap[k]?) → (∀ k,O k → ¬ Kp k) →
   Calls Tryd.prog 92 #[.slice A PL.length c,.int .i64 ((diffN M ch:Nat):Int),.int .i64 (m:Int),.pointer (some ⟨Bo,0,none⟩)] w (TkPost Bo base acc (leftW E M m ch) O w))
  (ch:Nat) (acc:List Int) (O:Nat → Prop) (w:World) (hch:ch < 2 ^ 60) (hG:GoodL acc) (hI:ChInv Bo base acc O w) (hz:w0.heap.size ≤ w.heap.size) (hsame:∀ k,Kp k → w.heap[k]? = w0.heap[k]?) (hO:∀ k,O k → ¬ Kp k)
  (e i0:Nat) (he:e < 2 ^ 60) (hi0:i0 < PL.length)
  (h0:∀ i,i < i0 → Go.bits .and .i64 ((diffN M ch:Nat):Int) (rd_T122 PL (i:Int)).f3 ≠ (rd_T122 PL (i:Int)).f3) (h1:(rd_T122 PL (i0:Int)).f3 = (e:Int)) (h2:Go.bits .and .i64 ((diffN M ch:Nat):Int) (e:Int) = (e:Int)) :
  Calls Tryd.prog 92 #[.slice A PL.length c,.int .i64 ((diffN M ch:Nat):Int),.int .i64 ((m:Int) + 1),.pointer (some ⟨Bo,0,none⟩)] w (TkPost Bo base acc ((bitsI e).flatMap fun x => leftW E M m (ch ||| 2 ^ x.toNat)) O w):=by
 have HROW:=am_ hrow
 have HC:=am_ (hrow w hsame)
 have HS:=am_ hsame
 have HO:=am_ hO
 have IH:=am_ ih
 have HKP:=am_ hKp
 have HI:=am_ hI
 have H0:=am_ h0
 have H1:=am_ h1
 have H2:=am_ h2
 have HCH:=am_ hch
 have HE:=am_ he
 have hpos:(0:Int) < (m:Int) + 1:=by omega
 have EM:Aside0 (IntKind.i64.wrap (m:Int) = (m:Int)):=⟨IntWalk.i64_in _ (by omega)⟩
 have hM60:M < 2 ^ 60:=Nat.lt_of_lt_of_le hM (Nat.pow_le_pow_right (by omega) (by omega))
 have hX60:diffN M ch < 2 ^ 60:=diffN_lt ch hM60
 have HG:Aside0 (∀ D:List Nat,(∀ x ∈ D,x < 2 ^ 40) → GoodL ((ints D).foldl putN acc)):=⟨fun D hD => GoodL.fold D acc hG hD⟩
 have HFL:=am_ (flat_lt (E:=E) hM m ch (bitsI e))
 have hst:∀ B:Nat,B < 2 ^ 60 → B ≠ 0 → Go.bits .andNot .i64 ((diffN M ch:Nat):Int) ((2 ^ Lib.ctz 64 B:Nat):Int) = ((diffN M (ch ||| 2 ^ Lib.ctz 64 B):Nat):Int):=fun B hB h0 => by
  rw [andNot_i64 _ _ hX60 (pow_lt60 (low_bits B h0 hB).1),diffN_or]
 have HST:=am_ hst
 clear hrow hsame hO ih hKp hI h0 h1 h2 hch he hM hM60 hst hX60 hG
 generalize hX:((diffN M ch:Nat):Int) = X at H0 H2 HST
 clear hX
 generalize hn:PL.length = n at hi0 hl30
 have HN:=am_ hn
 clear hn
 have HC2:Aside0 (Kd.C k122 w A n PL):=⟨by have h:=HC.out; rw [HN.out] at h; exact h⟩
 clear HC
 go_enter Tryd.func92,Tryd.ntmps92
 go_wp2_with fail
 go_loopg [15] (n + 1) (fun gg u15 wr => ∃ i:Nat,i ≤ i0 ∧ n + 1 - i ≤ gg ∧ u15 = .int .i64 i ∧ Aside0 (Below w.heap.size w wr))
 case atStart => exact ⟨0,Nat.zero_le _,Nat.le_refl _,rfl,⟨Below.refl _ _⟩⟩
 case round =>
  obtain ⟨i,hii,hgg,rfl,HB⟩:=hrel
  have hlz:(i:Int) < (n:Int):=by omega
  obtain ⟨ad,eA,hx,hx2,hx3,hx4⟩:=at_T122 (Kd.C_below HC2.out HB.out) (i:Int) (by omega) (by omega)
  cases eA
  rw [Int.toNat_natCast] at hx hx2 hx3 hx4
  have e1:IntKind.i64.wrap ((i:Int) + 1) = (i:Int) + 1:=IntWalk.i64_in _ (by omega)
  by_cases hlt:i < i0
  ·have hne:=H0.out i hlt
   generalize rd_T122 PL (i:Int) = q at hx hx2 hx3 hx4 hne
   obtain ⟨q0,q1,q2,q3⟩:=q
   have hne2:(Go.bits .and .i64 X q3 != q3) = true:=by simpa using hne
   have hB1:Below w.heap.size w (wr.alloc (.cells #[.int .i64 q0,.int .i64 q1,.int .i64 q2,.int .i64 q3] 122)):=below_alloc HB.out _
   have HB1:=am_ hB1
   clear hne hB1
   go_wp2_with fail
   go_roundg (n + 1 - (i + 1))
   case measure => omega
   case rel => exact ⟨i + 1,by omega,Nat.le_refl _,by go_num,HB1⟩
  ·have hie:i = i0:=by omega
   subst hie
   have hq3:=H1.out
   generalize rd_T122 PL (i:Int) = q at hx hx2 hx3 hx4 hq3
   obtain ⟨q0,q1,q2,q3⟩:=q
   have hq3':q3 = (e:Int):=hq3
   subst hq3'
   have hne2:(Go.bits .and .i64 X (e:Int) != (e:Int)) = false:=by simpa using H2.out
   have hB1:Below w.heap.size w (wr.alloc (.cells #[.int .i64 q0,.int .i64 q1,.int .i64 q2,.int .i64 (e:Int)] 122)):=below_alloc HB.out _
   have HM0:Aside0 (TkMid E M m ch e Bo base acc O w e (wr.alloc (.cells #[.int .i64 q0,.int .i64 q1,.int .i64 q2,.int .i64 (e:Int)] 122))):=⟨[],O,rfl,HI.out.move (fun k hk => hB1.block k (HI.out.lt k hk)),FrameBut.of_below hB1,fun k hk => .inl hk⟩
   clear hq3 hB1
   go_wp2_with fail
   have hbe:=bitsN_len e
   go_loopg [10] ((bitsN e).length + 1) (fun gg u10 wr => ∃ B:Nat,B < 2 ^ 60 ∧ (bitsN B).length + 1 ≤ gg ∧ u10 = .int .i64 (B:Int) ∧ Aside0 (TkMid E M m ch e Bo base acc O w B wr))
   case atStart => exact ⟨e,HE.out,Nat.le_refl _,rfl,HM0⟩
   case round =>
    clear HM0
    obtain ⟨B,hB60,hgg2,rfl,HMid⟩:=hrel
    obtain ⟨D,O',hD,hI,hF,hO'⟩:=HMid.out
    by_cases hB0:B = 0
    ·subst hB0
     have hnil:((bitsI 0).flatMap fun x => leftW E M m (ch ||| 2 ^ x.toNat)) = []:=by unfold bitsI; rw [bitsN_zero]; rfl
     have HR:Aside0 (TkPost Bo base acc ((bitsI e).flatMap fun x => leftW E M m (ch ||| 2 ^ x.toNat)) O w (.returned (.tuple #[])) wr):=⟨rfl,O',by rw [hD,hnil,List.append_nil]; exact hI,hF,hO'⟩
     have hz0:(((0:Nat):Int) != 0) = false:=rfl
     clear hD hI hF hO' hnil HMid
     go_wp2_with fail
     exact bodyPost_ret (v:=.tuple #[]) (by simp [results,Tryd.results92,go_sem]) rfl HR.out
    ·obtain ⟨q1,q2,-,-,q5⟩:=low_bits B hB0 hB60
     have hstep:=bitsN_step B hB0 hB60
     have hlen:(bitsN (B &&& (B - 1))).length + 1 ≤ (bitsN B).length:=by rw [hstep,List.length_cons]; exact Nat.le_refl _
     have hbi:bitsI B = ((Lib.ctz 64 B:Nat):Int) :: bitsI (B &&& (B - 1)):=by unfold bitsI; rw [hstep]; rfl
     have hneg:=and_neg_i64 B hB0 hB60
     have hstB:=HST.out B hB60 hB0
     clear hstep q2 q5
     generalize Lib.ctz 64 B = z at q1 hbi hneg hstB
     have hD2:Aside0 (((bitsI e).flatMap fun x => leftW E M m (ch ||| 2 ^ x.toNat)) = (D ++ leftW E M m (ch ||| 2 ^ z)) ++ ((bitsI (B &&& (B - 1))).flatMap fun x => leftW E M m (ch ||| 2 ^ x.toNat))):=⟨by
      rw [hD,hbi,List.flatMap_cons,Int.toNat_natCast,List.append_assoc]⟩
     have nO:∀ k,Kp k → ¬ O' k:=fun k hk h => (hO' k h).elim (fun h => HO.out k h hk) (fun h => absurd (Nat.lt_of_lt_of_le (HKP.out k hk) (Nat.le_trans hz h)) (Nat.lt_irrefl k))
     have hsm:∀ k,Kp k → wr.heap[k]? = w0.heap[k]?:=fun k hk => (hF.block k (Nat.lt_of_lt_of_le (HKP.out k hk) hz) (fun h => HO.out k h hk)).trans (HS.out k hk)
     have hGD:GoodL ((ints D).foldl putN acc):=HG.out D (fun x hx => HFL.out x (by rw [hD]; exact List.mem_append_left _ hx))
     have HCall:=tk_call (ch:=ch ||| 2 ^ z) IH.out HN.out (Nat.or_lt_two_pow HCH.out (pow_lt60 q1)) hGD hI (Nat.le_trans hz hF.size) hsm (fun k hk h => nO k h hk)
     have ew1:IntKind.i64.wrap (-(B:Int)) = -(B:Int):=wn60 hB60
     have ew2:IntKind.i64.wrap (m:Int) = (m:Int):=EM.out
     have ew3:IntKind.i64.wrap ((B:Int) - 1) = ((B - 1:Nat):Int):=wp60 hB60 hB0
     have hand:=and_i64 B (B - 1) hB60 (Nat.lt_of_le_of_lt (Nat.sub_le _ _) hB60)
     have hBb:((B:Int) != 0) = true:=by rw [bne_iff_ne]; exact fun h => hB0 (Int.ofNat.inj h)
     have HF:=am_ hF
     have HO':=am_ hO'
     have hlt60:B &&& (B - 1) < 2 ^ 60:=Nat.lt_of_le_of_lt Nat.and_le_left hB60
     clear hD hI hF hO' hbi nO hsm HMid q1 hGD
     generalize (2 ^ z:Nat) = b2 at hneg hstB HCall hD2
     generalize leftW E M m (ch ||| b2) = PW at HCall hD2
     generalize ((diffN M (ch ||| b2):Nat):Int) = Y at hstB HCall
     go_wp2_with ((go_at_call 92; (with_reducible refine HCall.out.mono ?_); rintro e w9 ⟨rfl,O9,hI9,hF9,hO9⟩; have I9:=am_ hI9; have HF9:=am_ hF9; have HO9:=am_ hO9; clear hI9 hF9 hO9))
     go_roundg ((bitsN (B &&& (B - 1))).length + 1)
     case measure => exact Nat.lt_of_lt_of_le (Nat.lt_succ_of_le hlen) hgg2
     case rel => exact ⟨B &&& (B - 1),hlt60,Nat.le_refl _,by go_num,⟨_,O9,hD2.out,by rw [ints_append,List.foldl_append]; exact I9.out,HF.out.trans HF9.out (fun k h => HO'.out k h),fun k hk => (HO9.out k hk).elim (fun h => HO'.out k h) (fun h => .inr (Nat.le_trans HF.out.size h))⟩⟩

theorem tk_any (Bo base:Nat) (hbo:base ≤ Bo) (E:List Nat) (PL:List S122) (h:PL.map (fun q => q.f3) = E.map (fun n:Nat => (n:Int))) (hE:∀ e ∈ E,e < 2 ^ 60) (w0:World) (Kp:Nat → Prop) (hKp:∀ k,Kp k → k < w0.heap.size) (A:Option Addr) (c:Nat) (hrow:∀ W:World,(∀ k,Kp k → W.heap[k]? = w0.heap[k]?) → Kd.C k122 W A PL.length PL) (hl30:PL.length ≤ 1000000) (M:Nat) (hM:M < 2 ^ 40):∀ (m:Nat),m ≤ 64 →
  ∀ (ch:Nat) (acc:List Int) (O:Nat → Prop) (w:World),ch < 2 ^ 60 → GoodL acc → ChInv Bo base acc O w → w0.heap.size ≤ w.heap.size → (∀ k,Kp k → w.heap[k]? = w0.heap[k]?) → (∀ k,O k → ¬ Kp k) →
   Calls Tryd.prog 92 #[.slice A PL.length c,.int .i64 ((diffN M ch:Nat):Int),.int .i64 (m:Int),.pointer (some ⟨Bo,0,none⟩)] w (TkPost Bo base acc (leftW E M m ch) O w):=by
 have hM60:M < 2 ^ 60:=Nat.lt_of_lt_of_le hM (Nat.pow_le_pow_right (by omega) (by omega))
 have hlen:PL.length = E.length:=by have:=congrArg List.length h; simpa using this
 have hf3:∀ (i:Nat) (hi:i < E.length),(rd_T122 PL (i:Int)).f3 = ((E[i]:Nat):Int):=fun i hi => by
  obtain ⟨hp1,hp2⟩:=map_at h (⟨0,0,0,0⟩:S122) i hi
  unfold rd_T122; rw [Int.toNat_natCast]; exact hp2
 have hsub:∀ (ch i:Nat) (hi:i < E.length),Go.bits .and .i64 ((diffN M ch:Nat):Int) (rd_T122 PL (i:Int)).f3 = (rd_T122 PL (i:Int)).f3 ↔ subE E[i] (diffN M ch) = true:=fun ch i hi => by
  rw [hf3 i hi,and_i64 _ _ (diffN_lt ch hM60) (hE _ (List.getElem_mem hi)),subE_and]
  exact ⟨fun h => Int.ofNat.inj h,fun h => by rw [h]⟩
 have none_:∀ (ch:Nat),missF (E.filter fun e => subE e M) ch = none → ∀ i,i < PL.length → Go.bits .and .i64 ((diffN M ch:Nat):Int) (rd_T122 PL (i:Int)).f3 ≠ (rd_T122 PL (i:Int)).f3:=fun ch hm i hi he => by
  rw [← find_miss,List.find?_eq_none] at hm
  exact hm E[i] (List.getElem_mem (by omega)) ((hsub ch i (by omega)).1 he)
 have some_:∀ (ch s:Nat),missF (E.filter fun e => subE e M) ch = some s → s < 2 ^ 60 ∧ ∃ i0,i0 < PL.length ∧ (∀ i,i < i0 → Go.bits .and .i64 ((diffN M ch:Nat):Int) (rd_T122 PL (i:Int)).f3 ≠ (rd_T122 PL (i:Int)).f3) ∧ (rd_T122 PL (i0:Int)).f3 = (s:Int) ∧ Go.bits .and .i64 ((diffN M ch:Nat):Int) (s:Int) = (s:Int):=fun ch s hm => by
  rw [← find_miss,List.find?_eq_some_iff_getElem] at hm
  obtain ⟨hs,i0,hi0,hEs,hno⟩:=hm
  refine ⟨by rw [← hEs]; exact hE _ (List.getElem_mem _),i0,by omega,fun i hi he => ?_,by rw [hf3 i0 hi0,hEs],?_⟩
  ·have h1:=hno i hi
   rw [(hsub ch i (by omega)).1 he] at h1
   cases h1
  ·have h2:=(hsub ch i0 hi0).2 (by rw [hEs]; exact hs)
   rw [hf3 i0 hi0,hEs] at h2
   exact h2
 have stay:∀ (m ch:Nat),missF (E.filter fun e => subE e M) ch = none → leftW E M m ch = [diffN M ch]:=fun m ch hm => by
  unfold leftW; rw [hitW_none hm]; rfl
 have noneC:∀ (m ch:Nat) (acc:List Int) (O:Nat → Prop) (w:World),missF (E.filter fun e => subE e M) ch = none → GoodL acc → ChInv Bo base acc O w → (∀ k,Kp k → w.heap[k]? = w0.heap[k]?) →
   Calls Tryd.prog 92 #[.slice A PL.length c,.int .i64 ((diffN M ch:Nat):Int),.int .i64 (m:Int),.pointer (some ⟨Bo,0,none⟩)] w (TkPost Bo base acc (leftW E M m ch) O w):=fun m ch acc O w hm hG hI hsame => by
  refine (tk_none Bo base hbo PL A c _ (m:Int) acc O w hG.len hI (hrow w hsame) hl30 (none_ ch hm)).mono ?_
  rintro e w' ⟨rfl,O',h1,h2,h3⟩
  rw [stay m ch hm]
  exact ⟨rfl,O',h1,h2,h3⟩
 intro m
 induction m with
 | zero =>
  intro _ ch acc O w hch hG hI hz hsame hO
  rcases hm:missF (E.filter fun e => subE e M) ch with _ | s
  ·exact noneC 0 ch acc O w hm hG hI hsame
  ·obtain ⟨hs,i0,hi0,h0,h1,h2⟩:=some_ ch s hm
   refine (tk_stop Bo base PL A c _ acc O w hI (hrow w hsame) i0 hi0 hl30 h0 (by rw [h1]; exact h2)).mono ?_
   rintro e w' ⟨rfl,hb⟩
   have hnil:leftW E M 0 ch = []:=by unfold leftW; rw [hitW_zero hm]; rfl
   rw [hnil]
   exact ⟨rfl,O,hI.move (fun k hk => hb.block k (hI.lt k hk)),FrameBut.of_below hb,fun k hk => .inl hk⟩
 | succ m ih =>
  intro hm64 ch acc O w hch hG hI hz hsame hO
  rcases hm:missF (E.filter fun e => subE e M) ch with _ | s
  ·exact noneC (m + 1) ch acc O w hm hG hI hsame
  ·obtain ⟨hs,i0,hi0,h0,h1,h2⟩:=some_ ch s hm
   have hsu:leftW E M (m + 1) ch = (bitsI s).flatMap fun x => leftW E M m (ch ||| 2 ^ x.toNat):=by
    unfold leftW; rw [hitW_succ hm,List.map_flatMap]
   rw [hsu]
   exact tk_go Bo base E PL w0 Kp hKp A c hrow hl30 M m hM (by omega) (ih (by omega)) ch acc O w hch hG hI hz hsame hO s i0 hs hi0 h0 h1 h2


def lftOK (PL:List S122) (mask n:Int):Bool:=PL.all (fun q => decide (0 ≤ q.f3) && decide (q.f3 < 1152921504606846976)) && decide (PL.length ≤ 1000000) && decide (0 ≤ mask) && decide (mask < 1099511627776) && decide (0 ≤ n) && decide (n ≤ 64)
def lftL (PL:List S122) (mask n:Int):List Int:=(ints (leftW (PL.map fun q => q.f3.toNat) mask.toNat n.toNat 0)).foldl putN []
def spec_sqLeft.f (k:Nat) (a0_0:Int) (a0_1:Int) (l0_2:List Int) (l0_3:List Int):Option (List Int) :=
 (spec_sqAll.f k a0_0 a0_1).bind fun PL => (spec_sqMask.f k a0_0 a0_1 l0_2 l0_3).bind fun mask => (spec_sqFewest.f k PL mask).bind fun n => if lftOK PL mask n = true then some (lftL PL mask n) else none
theorem spec_sqLeft.mono:∀ a0 a1 a2 a3 k,LeO (spec_sqLeft.f k a0 a1 a2 a3) (spec_sqLeft.f (k + 1) a0 a1 a2 a3):=by
 intro a0 a1 a2 a3 k
 unfold spec_sqLeft.f
 exact LeO.bind (spec_sqAll.mono _ _ _) (fun _ => LeO.bind (spec_sqMask.mono _ _ _ _ _) (fun _ => LeO.bind (spec_sqFewest.mono _ _ _) (fun _ => LeO.refl _)))
theorem sqTakes_new (PL:List S122) (M n:Nat) (hOK:lftOK PL (M:Int) (n:Int) = true) (A:Option Addr) (c:Nat) (w:World) (hr:Kd.C k122 w A PL.length PL) (hrow:∀ W:World,(∀ k,k < w.heap.size → W.heap[k]? = w.heap[k]?) → Kd.C k122 W A PL.length PL) (Bo:Nat) (W:World) (hB:Below w.heap.size w W) (hBo:w.heap.size ≤ Bo) (co:W.cell? ⟨Bo,0,none⟩ = some (.slice none 0 0)) (fo:W.frozen? ⟨Bo,0,none⟩ = false) :
  Calls Tryd.prog 92 #[.slice A PL.length c,.int .i64 (M:Int),.int .i64 (n:Int),.pointer (some ⟨Bo,0,none⟩)] W fun e w' => e = .returned (.tuple #[]) ∧ ∃ A' c',w'.cell? ⟨Bo,0,none⟩ = some (.slice A' (lftL PL (M:Int) (n:Int)).length c') ∧ Kd.R (Kd.int .i64) 3 w' w.heap.size (fun _ => True) (.slice A' (lftL PL (M:Int) (n:Int)).length c') (lftL PL (M:Int) (n:Int)) ∧ Below w.heap.size w w':=by
 unfold lftOK at hOK
 simp only [Bool.and_eq_true,decide_eq_true_eq,List.all_eq_true] at hOK
 obtain ⟨⟨⟨⟨⟨h1,h2⟩,-⟩,h4⟩,-⟩,h6⟩:=hOK
 have hM:M < 2 ^ 40:=by omega
 have hE:∀ e ∈ PL.map (fun q => q.f3.toNat),e < 2 ^ 60:=fun e he => by
  obtain ⟨q,hq,rfl⟩:=List.mem_map.1 he
  have:=h1 q hq
  omega
 have hP:PL.map (fun q => q.f3) = (PL.map fun q => q.f3.toNat).map (fun n:Nat => (n:Int)):=by
  rw [List.map_map]
  refine List.map_congr_left (fun q hq => ?_)
  have:=h1 q hq
  show q.f3 = ((q.f3.toNat:Nat):Int)
  omega
 have hc:=tk_any Bo w.heap.size hBo _ PL hP hE w (fun k => k < w.heap.size) (fun _ h => h) A c hrow h2 M hM n (by omega) 0 [] (fun k => k = Bo) W (by decide) ⟨List.nodup_nil,fun x hx => by cases hx⟩ ⟨_,co,fo,Kd.R_nil _ _ _ _ _,fun k => by simp [Value.ownBlock]⟩ hB.size (fun k hk => hB.block k hk) (fun k hk h => by omega)
 rw [diffN_none] at hc
 refine hc.mono ?_
 rintro e w' ⟨rfl,O',⟨v,c1,_,hR,_⟩,hF,_⟩
 have hL:lftL PL (M:Int) (n:Int) = (ints (leftW (PL.map fun q => q.f3.toNat) M n 0)).foldl putN []:=by unfold lftL; rw [Int.toNat_natCast,Int.toNat_natCast]
 rw [← hL] at hR
 obtain ⟨A',c',rfl⟩:=Kd.R_slice hR
 exact ⟨rfl,A',c',c1,Kd.R_mono hR (fun _ _ => trivial),hB.trans (hF.toBelow hB.size (fun k hk h => by omega))⟩
set_option maxRecDepth 100000 in
set_option maxHeartbeats 16000000 in
theorem spec_sqLeft.calls (k:Nat) (a0_0:Int) (a0_1:Int) (A0_2:Option Addr) (c0_2:Nat) (l0_2:List Int) (A0_3:Option Addr) (c0_3:Nat) (l0_3:List Int) (r:List Int) (w:World) (hr0_2:Kd.C (Kd.int .i64) w A0_2 l0_2.length l0_2) (hc0_2:l0_2.length ≤ c0_2) (hr0_3:Kd.C (Kd.int .i64) w A0_3 l0_3.length l0_3) (hc0_3:l0_3.length ≤ c0_3) (h:spec_sqLeft.f k a0_0 a0_1 l0_2 l0_3 = some r) :
  Calls Tryd.prog 45 #[.agg #[.int .i64 a0_0,.int .i64 a0_1,.slice A0_2 l0_2.length c0_2,.slice A0_3 l0_3.length c0_3]] w fun e w' => ∃ v0_:Value,e = .returned v0_ ∧ Kd.R (Kd.int .i64) 3 w' w.heap.size (fun _ => True) v0_ r ∧ Below w.heap.size w w':=by
 unfold spec_sqLeft.f at h
 obtain ⟨PL,hPL,h⟩:=bi_ h
 obtain ⟨mask,hmask,h⟩:=bi_ h
 obtain ⟨n,hn,h⟩:=bi_ h
 by_cases hc:lftOK PL mask n = true
 ·rw [if_pos hc] at h
  obtain rfl:=Option.some.inj h
  have hc2:=hc
  unfold lftOK at hc2
  simp only [Bool.and_eq_true,decide_eq_true_eq] at hc2
  obtain ⟨⟨⟨⟨⟨-,h2⟩,h3⟩,-⟩,h5⟩,-⟩:=hc2
  obtain ⟨M,rfl⟩:=Int.eq_ofNat_of_zero_le h3
  obtain ⟨N,rfl⟩:=Int.eq_ofNat_of_zero_le h5
  have HC:=am_ hc
  have HPL:=am_ hPL
  have HMASK:=am_ hmask
  have HN:=am_ hn
  have HR2:=am_ hr0_2
  have HR3:=am_ hr0_3
  have HQ2:=am_ hc0_2
  have HQ3:=am_ hc0_3
  clear hc hPL hmask hn hr0_2 hr0_3 hc0_2 hc0_3 h3 h5
  go_enter Tryd.func45,Tryd.ntmps45
  go_wp2_with fail
  have Q0:(w.alloc (.cells #[.int .i64 a0_0,.int .i64 a0_1,.slice A0_2 l0_2.length c0_2,.slice A0_3 l0_3.length c0_3] 36)).heap[w.heap.size]? = some (.cells #[.int .i64 a0_0,.int .i64 a0_1,.slice A0_2 l0_2.length c0_2,.slice A0_3 l0_3.length c0_3] 36 (0,0)):=heap_alloc_new w _
  have HB1:Aside0 (Below w.heap.size w (w.alloc (.cells #[.int .i64 a0_0,.int .i64 a0_1,.slice A0_2 l0_2.length c0_2,.slice A0_3 l0_3.length c0_3] 36))):=⟨below_alloc (Below.refl _ _) _⟩
  generalize (w.alloc (.cells #[.int .i64 a0_0,.int .i64 a0_1,.slice A0_2 l0_2.length c0_2,.slice A0_3 l0_3.length c0_3] 36)) = w1 at Q0 HB1 ⊢
  have q0:w1.cell? ⟨w.heap.size,0,none⟩ = some (.int .i64 a0_0):=(bc_ Q0 0).trans rfl
  have q1:w1.cell? ⟨w.heap.size,1,none⟩ = some (.int .i64 a0_1):=(bc_ Q0 1).trans rfl
  have q2:w1.cell? ⟨w.heap.size,2,none⟩ = some (.slice A0_2 l0_2.length c0_2):=(bc_ Q0 2).trans rfl
  have q3:w1.cell? ⟨w.heap.size,3,none⟩ = some (.slice A0_3 l0_3.length c0_3):=(bc_ Q0 3).trans rfl
  have hlt:=(Array.getElem?_eq_some_iff.1 Q0).1
  clear Q0
  go_region_held3 (fun w' => w'.cell? ⟨w.heap.size,0,none⟩ = some (.int .i64 a0_0) ∧ w'.cell? ⟨w.heap.size,1,none⟩ = some (.int .i64 a0_1) ∧ w'.cell? ⟨w.heap.size,2,none⟩ = some (.slice A0_2 l0_2.length c0_2) ∧ w'.cell? ⟨w.heap.size,3,none⟩ = some (.slice A0_3 l0_3.length c0_3))
   (first | (exact ⟨q0,q1,q2,q3⟩) | (go_split_ands; exact ⟨pw_cell_below hbB (by assumption),pw_cell_below hbB (by assumption),pw_cell_below hbB (by assumption),pw_cell_below hbB (by assumption)⟩) | (go_split_ands; exact ⟨pw_cell_below hbA (by assumption),pw_cell_below hbA (by assumption),pw_cell_below hbA (by assumption),pw_cell_below hbA (by assumption)⟩))
   ((first
    | (go_at_call 49; refine (spec_sqAll.calls k a0_0 a0_1 PL _ HPL.out).mono ?_; rintro e wA ⟨vA,rfl,hrA,hbA⟩)
    | (go_at_call 50; refine (spec_sqMask.calls k a0_0 a0_1 _ _ l0_2 _ _ l0_3 (M:Int) _ (Kd.C_below HR2.out (below_step (below_drew HB1.out) hbA)) HQ2.out (Kd.C_below HR3.out (below_step (below_drew HB1.out) hbA)) HQ3.out HMASK.out).mono ?_; rintro e wB ⟨rfl,hbB⟩)))
  go_split_ands
  obtain ⟨A1,c1,rfl⟩:=Kd.R_slice hrA
  have HBB:=am_ (below_step (below_step (below_drew HB1.out) hbA) hbB)
  have HRB:=am_ (Kd.R_below hrA hbB)
  have HROW:Aside0 (∀ W:World,(∀ k,k < wB.heap.size → W.heap[k]? = wB.heap[k]?) → Kd.C k122 W A1 PL.length PL):=⟨fun W hW => (Kd.R_reads' (Kd.R_move (Kd.R_bound HRB.out) (fun k hk => hW k hk.2.2.1))).2.2⟩
  have HC9:=am_ (Kd.R_reads' HRB.out).2
  clear q0 q1 q2 q3 hrA hbA hbB hlt HB1 HRB
  generalize hnl:PL.length = nl
  have HNL:=am_ hnl
  clear hnl
  have HF:Aside0 (∀ W,Below wB.heap.size wB W → Calls Tryd.prog 48 #[.slice A1 nl c1,.int .i64 (M:Int)] W fun e w' => e = .returned (.int .i64 (N:Int)) ∧ Below W.heap.size W w'):=⟨fun W hW => by
   have h:=spec_sqFewest.calls k A1 c1 PL (M:Int) (N:Int) W (HROW.out W (fun k hk => hW.block k hk)) HC9.out.1 HN.out
   rwa [HNL.out] at h⟩
  have HTK:Aside0 (∀ W,Below wB.heap.size wB W → W.cell? ⟨wB.heap.size,0,none⟩ = some (.slice none 0 0) → W.frozen? ⟨wB.heap.size,0,none⟩ = false → Calls Tryd.prog 92 #[.slice A1 nl c1,.int .i64 (M:Int),.int .i64 (N:Int),.pointer (some ⟨wB.heap.size,0,none⟩)] W fun e w' => e = .returned (.tuple #[]) ∧ ∃ A' c',w'.cell? ⟨wB.heap.size,0,none⟩ = some (.slice A' (lftL PL (M:Int) (N:Int)).length c') ∧ Kd.R (Kd.int .i64) 3 w' wB.heap.size (fun _ => True) (.slice A' (lftL PL (M:Int) (N:Int)).length c') (lftL PL (M:Int) (N:Int)) ∧ Below wB.heap.size wB w'):=⟨fun W hW h1 h2 => by
   have h:=sqTakes_new PL M N HC.out A1 c1 wB HC9.out.2 HROW.out wB.heap.size W hW (Nat.le_refl _) h1 h2
   rwa [HNL.out] at h⟩
  obtain ⟨RES,hRES⟩:∃ RES,lftL PL (M:Int) (N:Int) = RES:=⟨_,rfl⟩
  rw [hRES] at HTK
  have HRES:=am_ hRES
  clear hRES
  clear HC HN HROW HC9 HNL HPL HMASK
  go_wp2_with fail
  go_at_call 48
  refine (HF.out _ (below_alloc (Below.refl _ _) _)).mono ?_
  rintro e w3 ⟨rfl,hb3⟩
  have co:w3.cell? ⟨wB.heap.size,0,none⟩ = some (.slice none 0 0):=(hb3.cell (by simp)).trans (World.cell?_alloc_at _ _ _ _ rfl)
  have fo:w3.frozen? ⟨wB.heap.size,0,none⟩ = false:=(hb3.frozen (by simp)).trans (by go_simp)
  have HB3:=am_ (below_step (below_alloc (Below.refl wB.heap.size wB) _) hb3)
  clear hb3
  go_wp2_with fail
  go_at_call 92
  refine (HTK.out _ HB3.out co fo).mono ?_
  rintro e w4 ⟨rfl,A',c',co4,hr4,hb4⟩
  have HR4:=am_ (Kd.R_lower hr4 HBB.out.size)
  have HB4:=am_ (HBB.out.trans (hb4.mono HBB.out.size))
  clear hr4 hb4 co fo
  go_wp2_with fail
  go_ret
  exact ⟨_,rfl,by rw [HRES.out]; exact HR4.out,HB4.out⟩
 ·rw [if_neg hc] at h
  cases h


mutual
def spec_sqFigure.l0:Nat → Int → Int → Int → Int → Int → Int → List Int → Option (Int × Int × List Int × List Int)
 | 0,_,_,_,_,_,_,_ => none
 | k + 1,x0,x1,x2,x8,x246000,x246001,x246002 => if x8 < (wrap64 (x0 * (wrap64 (x1 + 1)))) then ((spec_sqBit.f x0 x1 false x8).bind fun t246 => (if (Go.bits .and .i64 x2 t246) = 0 then (spec_sqFigure.l0 k x0 x1 x2 (wrap64 (x8 + 1)) x246000 x246001 x246002) else (if x246002.length < 17592186044416 then (spec_sqFigure.l0 k x0 x1 x2 (wrap64 (x8 + 1)) x246000 x246001 (x246002 ++ [x8])) else (none)))) else (spec_sqFigure.l1 k x0 x1 x2 0 x246000 x246001 x246002 ([]:List Int))
def spec_sqFigure.l1:Nat → Int → Int → Int → Int → Int → Int → List Int → List Int → Option (Int × Int × List Int × List Int)
 | 0,_,_,_,_,_,_,_,_ => none
 | k + 1,x0,x1,x2,x9,x246000,x246001,x246002,x246003 => if x9 < (wrap64 ((wrap64 (x0 + 1)) * x1)) then ((spec_sqBit.f x0 x1 true x9).bind fun t250 => (if (Go.bits .and .i64 x2 t250) = 0 then (spec_sqFigure.l1 k x0 x1 x2 (wrap64 (x9 + 1)) x246000 x246001 x246002 x246003) else (if x246003.length < 17592186044416 then (spec_sqFigure.l1 k x0 x1 x2 (wrap64 (x9 + 1)) x246000 x246001 x246002 (x246003 ++ [x9])) else (none)))) else (some (x246000,x246001,x246002,x246003))
end
def spec_sqFigure.f (k:Nat) (a0:Int) (a1:Int) (a2:Int):Option (Int × Int × List Int × List Int):=spec_sqFigure.l0 k a0 a1 a2 0 a0 a1 ([]:List Int)
theorem spec_sqFigure.mono_l:∀ k,(∀ y0 y1 y2 y3 y4 y5 y6,LeO (spec_sqFigure.l0 k y0 y1 y2 y3 y4 y5 y6) (spec_sqFigure.l0 (k + 1) y0 y1 y2 y3 y4 y5 y6)) ∧ (∀ y0 y1 y2 y3 y4 y5 y6 y7,LeO (spec_sqFigure.l1 k y0 y1 y2 y3 y4 y5 y6 y7) (spec_sqFigure.l1 (k + 1) y0 y1 y2 y3 y4 y5 y6 y7))
 | 0 => ⟨fun _ _ _ _ _ _ _ r h => by simp [spec_sqFigure.l0] at h,fun _ _ _ _ _ _ _ _ r h => by simp [spec_sqFigure.l1] at h⟩
 | k + 1 => by
  obtain ⟨ih0,ih1⟩:=spec_sqFigure.mono_l k
  refine ⟨?_,?_⟩
  ·intro y0 y1 y2 y3 y4 y5 y6
   unfold spec_sqFigure.l0
   repeat' first | (with_reducible first | exact ih0 _ _ _ _ _ _ _ | exact ih1 _ _ _ _ _ _ _ _ | exact LeO.refl _ | exact LeO.none _ | refine LeO.ite ?_ ?_ | refine LeO.bind ?_ (fun _ => ?_)) | exact ih0 _ _ _ _ _ _ _ | exact ih1 _ _ _ _ _ _ _ _
  ·intro y0 y1 y2 y3 y4 y5 y6 y7
   unfold spec_sqFigure.l1
   repeat' first | (with_reducible first | exact ih0 _ _ _ _ _ _ _ | exact ih1 _ _ _ _ _ _ _ _ | exact LeO.refl _ | exact LeO.none _ | refine LeO.ite ?_ ?_ | refine LeO.bind ?_ (fun _ => ?_)) | exact ih0 _ _ _ _ _ _ _ | exact ih1 _ _ _ _ _ _ _ _
theorem spec_sqFigure.mono:∀ a0 a1 a2 k,LeO (spec_sqFigure.f k a0 a1 a2) (spec_sqFigure.f (k + 1) a0 a1 a2):=by
 intro a0 a1 a2 k
 obtain ⟨ih0,ih1⟩:=spec_sqFigure.mono_l k
 unfold spec_sqFigure.f
 repeat' first | (with_reducible first | exact ih0 _ _ _ _ _ _ _ | exact ih1 _ _ _ _ _ _ _ _ | exact LeO.refl _ | exact LeO.none _ | refine LeO.ite ?_ ?_ | refine LeO.bind ?_ (fun _ => ?_)) | exact ih0 _ _ _ _ _ _ _ | exact ih1 _ _ _ _ _ _ _ _
set_option maxHeartbeats 8000000 in
set_option maxRecDepth 100000 in
theorem spec_sqFigure.calls (k:Nat) (a0:Int) (a1:Int) (a2:Int) (r1:Int) (r2:Int) (r3:List Int) (r4:List Int) (w:World) (h:spec_sqFigure.f k a0 a1 a2 = some (r1,r2,r3,r4)) :
  Calls Tryd.prog 69 #[.int .i64 a0,.int .i64 a1,.int .i64 a2] w fun e w' => ∃ v2_ v3_:Value,e = .returned (.agg #[.int .i64 r1,.int .i64 r2,v2_,v3_]) ∧ Kd.R (Kd.int .i64) 3 w' w.heap.size (fun k_ => some k_ ≠ (v3_:Value).ownBlock) v2_ r3 ∧ Kd.R (Kd.int .i64) 3 w' w.heap.size (fun k_ => some k_ ≠ (v2_:Value).ownBlock) v3_ r4 ∧ Below w.heap.size w w':=by
 have hu36:=Tryd.underlying36
 have HB:=am_ (Below.refl w.heap.size w)
 have H:(spec_sqFigure.l0 k a0 a1 a2 0 a0 a1 ([]:List Int)) = some (r1,r2,r3,r4):=h
 clear h
 have H':=am_ H
 clear H
 go_enter Tryd.func69,Tryd.ntmps69
 go_wp2_with (first | ((with_reducible refine gate_dst (N:=6) rfl ?_); refine boxE_ (N:=6) (cs:=#[.int .i64 0,.int .i64 0,.slice none 0 0,.slice none 0 0]) (t:=36) ?_; intro gb244 hg w4 hbox hb; have n0_:=am_ (below_step (bl0_ HB.out) hb); have n1_:=am_ (hbox); have n2_:=am_ ((bs0_ hg HB.out:w.heap.size ≤ gb244)); have n3_:=am_ ((bs0_ hg HB.out:w.heap.size ≤ gb244)); clear HB; have HB:=n0_; have BK244:=n1_; have GW244:=n2_; have GE244:=n3_; clear n0_ n1_ n2_ n3_; clear hb hbox hg) | ((with_reducible refine gate_dst (N:=7) rfl ?_); refine boxE_ (N:=7) (cs:=#[.int .i64 0,.int .i64 0,.slice none 0 0,.slice none 0 0]) (t:=36) ?_; intro gb245 hg w5 hbox hb; have n0_:=am_ (bb_ BK244.out hb); have n1_:=am_ (below_step (bl1_ HB.out GE244.out) hb); have n2_:=am_ (hbox); have n3_:=am_ ((bs1_ hg HB.out GE244.out:w.heap.size ≤ gb245)); have n4_:=am_ ((bs1_ hg HB.out GE244.out:w.heap.size ≤ gb245)); have n5_:=am_ ((nl_ hg BK244.out:gb244 ≠ gb245)); have n6_:=am_ ((ng_ hg BK244.out:gb245 ≠ gb244)); clear BK244; clear HB; have BK244:=n0_; have HB:=n1_; have BK245:=n2_; have GW245:=n3_; have GE245:=n4_; have NB244_245:=n5_; have NB245_244:=n6_; clear n0_ n1_ n2_ n3_ n4_ n5_ n6_; clear hb hbox hg; have hnb6:=NB245_244.out; have hnc6:=NB244_245.out; have hcz7_0:w5.cell? ⟨gb245,0,none⟩ = some (.int .i64 0):=(bc_ BK245.out 0).trans rfl; have hcz7_1:w5.cell? ⟨gb245,1,none⟩ = some (.int .i64 0):=(bc_ BK245.out 1).trans rfl; have hcz7_2:w5.cell? ⟨gb245,2,none⟩ = some (.slice none 0 0):=(bc_ BK245.out 2).trans rfl; have hcz7_3:w5.cell? ⟨gb245,3,none⟩ = some (.slice none 0 0):=(bc_ BK245.out 3).trans rfl; have hfz7_0:=bz_ BK245.out 0; have hfz7_1:=bz_ BK245.out 1; have hfz7_2:=bz_ BK245.out 2; have hfz7_3:=bz_ BK245.out 3))
 go_loopg [8] k (fun kq v8 w' => ∃ (x8_1:Int) (x246002_1:List Int) (u246002:Value),v8 = .int .i64 x8_1 ∧ Aside0 (spec_sqFigure.l0 kq a0 a1 a2 x8_1 a0 a1 x246002_1 = some (r1,r2,r3,r4)) ∧ Aside0 (kq ≤ k) ∧ Aside0 (Kd.R (Kd.int .i64) 3 w' w.heap.size (fun _ => True) u246002 x246002_1) ∧ Aside0 (w'.heap[gb244]? = some (.cells #[.int .i64 0,.int .i64 0,(.slice none 0 0),(.slice none 0 0)] 36 (0,0))) ∧ Aside0 (w'.heap[gb245]? = some (.cells #[.int .i64 a0,.int .i64 a1,u246002,(.slice none 0 0)] 36 (0,0))) ∧ Aside0 (Below w.heap.size w w'))
 case atStart => exact ⟨(0),(([]:List Int)),(.slice none 0 0),rs_,H',⟨Nat.le_refl _⟩,⟨by first | exact Kd.R_nil _ _ _ _ _ | exact Kd.N_nil _ _ _ _ _ | exact Kd.V_nil _ _ _ _ _ | exact Kd.Q_nil _ _ _ _ _ | exact Kd.S_nil _ _ _ _ _⟩,⟨bf4_ NB244_245.out NB244_245.out NB244_245.out NB244_245.out BK244.out⟩,⟨by (with_reducible repeat (first | refine blk_drewN ?_ _ | refine blk_drew ?_ | refine blk_alloc ?_ _)); refine blk_put (cs:=#[.int .i64 a0,.int .i64 a1,.slice none 0 0,.slice none 0 0]) ?_ 3 _ rfl; (with_reducible repeat (first | refine blk_drewN ?_ _ | refine blk_drew ?_ | refine blk_alloc ?_ _)); refine blk_put (cs:=#[.int .i64 a0,.int .i64 a1,.slice none 0 0,.slice none 0 0]) ?_ 2 _ rfl; (with_reducible repeat (first | refine blk_drewN ?_ _ | refine blk_drew ?_ | refine blk_alloc ?_ _)); refine blk_put (cs:=#[.int .i64 a0,.int .i64 0,.slice none 0 0,.slice none 0 0]) ?_ 1 _ rfl; (with_reducible repeat (first | refine blk_drewN ?_ _ | refine blk_drew ?_ | refine blk_alloc ?_ _)); refine blk_put (cs:=#[.int .i64 0,.int .i64 0,.slice none 0 0,.slice none 0 0]) ?_ 0 _ rfl; (with_reducible repeat (first | refine blk_drewN ?_ _ | refine blk_drew ?_ | refine blk_alloc ?_ _)); exact BK245.out⟩,⟨bl2_ HB.out GE244.out GE245.out⟩⟩
 case round =>
  clear H'
  try clear p2
  try clear c6
  try clear hcz7_0
  try clear hcz7_1
  try clear hcz7_2
  try clear hcz7_3
  try clear hfz7_0
  try clear hfz7_1
  try clear hfz7_2
  try clear hfz7_3
  obtain ⟨x8_1,x246002_1,u246002,rfl,HA,HK1,HO_246002,BK244,BK245,HB⟩:=hrel
  cases gk with
  | zero => exact absurd HA.out (by simp [spec_sqFigure.l0])
  | succ k1 =>
   have H:=HA.out
   clear HA
   simp only [spec_sqFigure.l0] at H
   by_cases c8:x8_1 < (wrap64 (a0 * (wrap64 (a1 + 1))))
   ·rw [if_pos c8] at H
    have c8b0:decide (x8_1 < (wrap64 (a0 * (wrap64 (a1 + 1))))) = true:=decide_eq_true c8
    clear c8
    replace H:=bi_ H
    obtain ⟨t246,A90,H⟩:=H
    replace H:(if (Go.bits .and .i64 a2 t246) = 0 then (spec_sqFigure.l0 k1 a0 a1 a2 (wrap64 (x8_1 + 1)) a0 a1 x246002_1) else (if x246002_1.length < 17592186044416 then (spec_sqFigure.l0 k1 a0 a1 a2 (wrap64 (x8_1 + 1)) a0 a1 (x246002_1 ++ [x8_1])) else (none))) = some (r1,r2,r3,r4):=H
    have A9:=am_ A90
    clear A90
    by_cases c10:(Go.bits .and .i64 a2 t246) = 0
    ·rw [if_pos c10] at H
     have c10b0:((Go.bits .and .i64 a2 t246) == 0) = true:=beq_iff_eq.mpr c10
     have c10b1:((Go.bits .and .i64 a2 t246) != 0) = false:=bne_eq_false_iff_eq.mpr c10
     clear c10
     have H':=am_ H
     clear H
     go_wp2_with (first | ((with_reducible refine gate_callee (f:=97) rfl ?_); refine goesL_ (some 25) rfl rfl Tryd.func97 (by kernel_rfl) rfl #[.int .i64 a0,.int .i64 a1,.bool false,.int .i64 x8_1] rfl ob_ ?_; (with_reducible refine (spec_sqBit.calls a0 a1 false x8_1 t246 _ A9.out).mono ?_); rintro e w' ⟨rfl,⟨nd,rfl⟩⟩; refine ⟨_,rfl,?_⟩))
     go_roundg k1
     case measure => have:=HK1.out; omega
     case rel => exact ⟨(wrap64 (x8_1 + 1)),(x246002_1),(u246002),rs_,H',⟨by have:=HK1.out; omega⟩,⟨kr_ HO_246002.out⟩,⟨bk_ BK244.out⟩,⟨bk_ BK245.out⟩,⟨bl2_ HB.out GE244.out GE245.out⟩⟩
    ·rw [if_neg c10] at H
     have c10b0:((Go.bits .and .i64 a2 t246) == 0) = false:=beq_eq_false_iff_ne.mpr c10
     have c10b1:((Go.bits .and .i64 a2 t246) != 0) = true:=bne_iff_ne.mpr c10
     by_cases c11:x246002_1.length < 17592186044416
     ·rw [if_pos c11] at H
      have LMc11:=am_ c11
      clear c11
      obtain ⟨y247,hy247⟩:∃ y_:List Int,y_ = (x246002_1 ++ [x8_1]):=⟨_,rfl⟩
      replace H:(spec_sqFigure.l0 k1 a0 a1 a2 (wrap64 (x8_1 + 1)) a0 a1 y247) = some (r1,r2,r3,r4):=by first | (rw [hy247]; with_reducible exact H) | (have H2_:=(Option.bind_some _ _).symm.trans H; rw [hy247]; with_reducible exact H2_) | (have H2_:=(Option.bind_some _ _).symm.trans H; with_reducible exact H2_) | with_reducible exact H | (rw [hy247]; exact H) | exact H
      have Ny247:=am_ hy247
      clear hy247
      have H':=am_ H
      clear H
      go_wp2_with (first | ((with_reducible refine gate_callee (f:=97) rfl ?_); refine goesL_ (some 25) rfl rfl Tryd.func97 (by kernel_rfl) rfl #[.int .i64 a0,.int .i64 a1,.bool false,.int .i64 x8_1] rfl ob_ ?_; (with_reducible refine (spec_sqBit.calls a0 a1 false x8_1 t246 _ A9.out).mono ?_); rintro e w' ⟨rfl,⟨nd,rfl⟩⟩; refine ⟨_,rfl,?_⟩; (try (rw [drewN_self wr]; generalize hq_:World.drewN wr _ = wr; have n0_:Aside0 (Kd.R (Kd.int .i64) 3 wr w.heap.size (fun _ => True) u246002 x246002_1):=⟨by rw [← hq_]; exact (kr_ HO_246002.out)⟩; have n1_:Aside0 (wr.heap[gb244]? = some (.cells #[.int .i64 0,.int .i64 0,.slice none 0 0,.slice none 0 0] 36 (0,0))):=⟨by rw [← hq_]; exact (bk_ BK244.out)⟩; have n2_:Aside0 (wr.heap[gb245]? = some (.cells #[.int .i64 a0,.int .i64 a1,u246002,.slice none 0 0] 36 (0,0))):=⟨by rw [← hq_]; exact (bk_ BK245.out)⟩; have n3_:Aside0 (Below w.heap.size w wr):=⟨by rw [← hq_]; exact (bl2_ HB.out GE244.out GE245.out)⟩; clear HO_246002 BK244 BK245 HB hq_; have HO_246002:=n0_; have BK244:=n1_; have BK245:=n2_; have HB:=n3_; clear n0_ n1_ n2_ n3_)); have hnb12:=NB245_244.out; have hnc12:=NB244_245.out; have hcz13_0:wr.cell? ⟨gb245,0,none⟩ = some (.int .i64 a0):=(bc_ BK245.out 0).trans rfl; have hcz13_1:wr.cell? ⟨gb245,1,none⟩ = some (.int .i64 a1):=(bc_ BK245.out 1).trans rfl; have hcz13_2:wr.cell? ⟨gb245,2,none⟩ = some (u246002):=(bc_ BK245.out 2).trans rfl; have hcz13_3:wr.cell? ⟨gb245,3,none⟩ = some (.slice none 0 0):=(bc_ BK245.out 3).trans rfl; have hfz13_0:=bz_ BK245.out 0; have hfz13_1:=bz_ BK245.out 1; have hfz13_2:=bz_ BK245.out 2; have hfz13_3:=bz_ BK245.out 3) | ((with_reducible refine gate_builtin (b:=.append) (xs:=#[.tmp 29,.tmp 31]) rfl ?_); at_builtin; refine Kd.R_append (Kd.int .i64) (w0:=w) w.heap.size rfl (.tmp 29) (.tmp 31) 22 3 (.int .i64 0) 8 rfl Tryd.underlying22 info3 rfl (by decide) (by omega) u246002 x246002_1 x8_1 [.int .i64 x8_1] (fun _ => True) (fun _ => False) rfl rfl ?aP (fun _ hk => hk.elim) ?aF ?aO ?aB ?aS ?aL ?_; (case aP => exact rfl); (case aB => exact (bl2_ HB.out GE244.out GE245.out)); (case aF => exact (fun _ _ => trivial)); (case aO => exact (kr_ HO_246002.out)); (case aS => exact (below_size (bl2_ HB.out GE244.out GE245.out))); (case aL => have:=LMc11.out; omega); intro v248 w14 ho hb hg hat; rw [← Ny247.out] at ho; have n0_:=am_ (blk_grown (g:=gb244) (o:=.cells #[.int .i64 0,.int .i64 0,.slice none 0 0,.slice none 0 0] 36 (0,0)) (bk_ BK244.out) hg (Kd.R_ne HO_246002.out BK244.out (by decide))); have n1_:=am_ (blk_grown (g:=gb245) (o:=.cells #[.int .i64 a0,.int .i64 a1,u246002,.slice none 0 0] 36 (0,0)) (bk_ BK245.out) hg (Kd.R_ne HO_246002.out BK245.out (by decide))); have n2_:=am_ (hb); have n3_:=am_ (ho); clear BK244; clear BK245; clear HB; clear HO_246002; have BK244:=n0_; have BK245:=n1_; have HB:=n2_; have HO249:=n3_; clear n0_ n1_ n2_ n3_; clear ho hb hg hat; obtain ⟨Ao15,co15,eo15⟩:=Kd.R_slice HO249.out; subst eo15; have hcz16_0:w14.cell? ⟨gb245,0,none⟩ = some (.int .i64 a0):=(bc_ BK245.out 0).trans rfl; have hcz16_1:w14.cell? ⟨gb245,1,none⟩ = some (.int .i64 a1):=(bc_ BK245.out 1).trans rfl; have hcz16_2:w14.cell? ⟨gb245,2,none⟩ = some (u246002):=(bc_ BK245.out 2).trans rfl; have hcz16_3:w14.cell? ⟨gb245,3,none⟩ = some (.slice none 0 0):=(bc_ BK245.out 3).trans rfl; have hfz16_0:=bz_ BK245.out 0; have hfz16_1:=bz_ BK245.out 1; have hfz16_2:=bz_ BK245.out 2; have hfz16_3:=bz_ BK245.out 3))
      go_roundg k1
      case measure => have:=HK1.out; omega
      case rel => exact ⟨(wrap64 (x8_1 + 1)),(y247),(.slice Ao15 y247.length co15),rs_,H',⟨by have:=HK1.out; omega⟩,⟨by (with_reducible repeat (first | apply Kd.R_alloc | apply Kd.R_drewN | apply Kd.R_drew)); exact Kd.R_mono (Kd.R_far (p:=⟨gb245,2,none⟩) (Kd.R_types HO249.out BK245.out (by decide)) (fun _ hk => hk.2) (.slice Ao15 y247.length co15)) (fun _ hk => trivial)⟩,⟨bf1_ NB244_245.out BK244.out⟩,⟨by (with_reducible repeat (first | refine blk_drewN ?_ _ | refine blk_drew ?_ | refine blk_alloc ?_ _)); refine blk_put (cs:=#[.int .i64 a0,.int .i64 a1,u246002,.slice none 0 0]) ?_ 2 _ rfl; (with_reducible repeat (first | refine blk_drewN ?_ _ | refine blk_drew ?_ | refine blk_alloc ?_ _)); exact BK245.out⟩,⟨bl2_ HB.out GE244.out GE245.out⟩⟩
     ·rw [if_neg c11] at H
      exact absurd H (by simp)
   ·rw [if_neg c8] at H
    have c8b0:decide (x8_1 < (wrap64 (a0 * (wrap64 (a1 + 1))))) = false:=decide_eq_false c8
    clear c8
    have H':=am_ H
    clear H
    go_wp2
    go_loopg [9] k1 (fun kq v9 w' => ∃ (x9_2:Int) (x246003_2:List Int) (u246003:Value),v9 = .int .i64 x9_2 ∧ Aside0 (spec_sqFigure.l1 kq a0 a1 a2 x9_2 a0 a1 x246002_1 x246003_2 = some (r1,r2,r3,r4)) ∧ Aside0 (kq ≤ k1) ∧ Aside0 (Kd.R (Kd.int .i64) 3 w' w.heap.size (fun k_ => some k_ ≠ (u246003:Value).ownBlock) u246002 x246002_1) ∧ Aside0 (Kd.R (Kd.int .i64) 3 w' w.heap.size (fun k_ => some k_ ≠ (u246002:Value).ownBlock) u246003 x246003_2) ∧ Aside0 (w'.heap[gb244]? = some (.cells #[.int .i64 0,.int .i64 0,(.slice none 0 0),(.slice none 0 0)] 36 (0,0))) ∧ Aside0 (w'.heap[gb245]? = some (.cells #[.int .i64 a0,.int .i64 a1,u246002,u246003] 36 (0,0))) ∧ Aside0 (Below w.heap.size w w'))
    case atStart => exact ⟨(0),(([]:List Int)),(.slice none 0 0),rs_,H',⟨Nat.le_refl _⟩,⟨by (with_reducible repeat (first | apply Kd.R_alloc | apply Kd.R_drewN | apply Kd.R_drew)); exact Kd.R_mono HO_246002.out (fun _ hk => (by simp [Value.ownBlock]))⟩,⟨by first | exact Kd.R_nil _ _ _ _ _ | exact Kd.N_nil _ _ _ _ _ | exact Kd.V_nil _ _ _ _ _ | exact Kd.Q_nil _ _ _ _ _ | exact Kd.S_nil _ _ _ _ _⟩,⟨bk_ BK244.out⟩,⟨bk_ BK245.out⟩,⟨bl2_ HB.out GE244.out GE245.out⟩⟩
    case round =>
     clear H'
     try clear c1
     try clear p2
     try clear c6
     try clear p6
     try clear c8
     try clear c8b0
     try clear c9
     try clear c10
     try clear c10b0
     try clear c10b1
     try clear c11
     try clear c12
     try clear hcz13_0
     try clear hcz13_1
     try clear hcz13_2
     try clear hcz13_3
     try clear hcz16_0
     try clear hcz16_1
     try clear hcz16_2
     try clear hcz16_3
     try clear hcz7_0
     try clear hcz7_1
     try clear hcz7_2
     try clear hcz7_3
     try clear hfz13_0
     try clear hfz13_1
     try clear hfz13_2
     try clear hfz13_3
     try clear hfz16_0
     try clear hfz16_1
     try clear hfz16_2
     try clear hfz16_3
     try clear hfz7_0
     try clear hfz7_1
     try clear hfz7_2
     try clear hfz7_3
     try clear p2
     obtain ⟨x9_2,x246003_2,u246003,rfl,HA,HK2,HO_246002,HO_246003,BK244,BK245,HB⟩:=hrel
     cases gk with
     | zero => exact absurd HA.out (by simp [spec_sqFigure.l1])
     | succ k2 =>
      have H:=HA.out
      clear HA
      simp only [spec_sqFigure.l1] at H
      by_cases c17:x9_2 < (wrap64 ((wrap64 (a0 + 1)) * a1))
      ·rw [if_pos c17] at H
       have c17b0:decide (x9_2 < (wrap64 ((wrap64 (a0 + 1)) * a1))) = true:=decide_eq_true c17
       clear c17
       replace H:=bi_ H
       obtain ⟨t250,A180,H⟩:=H
       replace H:(if (Go.bits .and .i64 a2 t250) = 0 then (spec_sqFigure.l1 k2 a0 a1 a2 (wrap64 (x9_2 + 1)) a0 a1 x246002_1 x246003_2) else (if x246003_2.length < 17592186044416 then (spec_sqFigure.l1 k2 a0 a1 a2 (wrap64 (x9_2 + 1)) a0 a1 x246002_1 (x246003_2 ++ [x9_2])) else (none))) = some (r1,r2,r3,r4):=H
       have A18:=am_ A180
       clear A180
       by_cases c19:(Go.bits .and .i64 a2 t250) = 0
       ·rw [if_pos c19] at H
        have c19b0:((Go.bits .and .i64 a2 t250) == 0) = true:=beq_iff_eq.mpr c19
        have c19b1:((Go.bits .and .i64 a2 t250) != 0) = false:=bne_eq_false_iff_eq.mpr c19
        clear c19
        have H':=am_ H
        clear H
        go_wp2_with (first | ((with_reducible refine gate_callee (f:=97) rfl ?_); refine goesL_ (some 46) rfl rfl Tryd.func97 (by kernel_rfl) rfl #[.int .i64 a0,.int .i64 a1,.bool true,.int .i64 x9_2] rfl ob_ ?_; (with_reducible refine (spec_sqBit.calls a0 a1 true x9_2 t250 _ A18.out).mono ?_); rintro e w' ⟨rfl,⟨nd,rfl⟩⟩; refine ⟨_,rfl,?_⟩))
        go_roundg k2
        case measure => have:=HK1.out; have:=HK2.out; omega
        case rel => exact ⟨(wrap64 (x9_2 + 1)),(x246003_2),(u246003),rs_,H',⟨by have:=HK1.out; have:=HK2.out; omega⟩,⟨kr_ HO_246002.out⟩,⟨kr_ HO_246003.out⟩,⟨bk_ BK244.out⟩,⟨bk_ BK245.out⟩,⟨bl2_ HB.out GE244.out GE245.out⟩⟩
       ·rw [if_neg c19] at H
        have c19b0:((Go.bits .and .i64 a2 t250) == 0) = false:=beq_eq_false_iff_ne.mpr c19
        have c19b1:((Go.bits .and .i64 a2 t250) != 0) = true:=bne_iff_ne.mpr c19
        by_cases c20:x246003_2.length < 17592186044416
        ·rw [if_pos c20] at H
         have LMc20:=am_ c20
         clear c20
         obtain ⟨y251,hy251⟩:∃ y_:List Int,y_ = (x246003_2 ++ [x9_2]):=⟨_,rfl⟩
         replace H:(spec_sqFigure.l1 k2 a0 a1 a2 (wrap64 (x9_2 + 1)) a0 a1 x246002_1 y251) = some (r1,r2,r3,r4):=by first | (rw [hy251]; with_reducible exact H) | (have H2_:=(Option.bind_some _ _).symm.trans H; rw [hy251]; with_reducible exact H2_) | (have H2_:=(Option.bind_some _ _).symm.trans H; with_reducible exact H2_) | with_reducible exact H | (rw [hy251]; exact H) | exact H
         have Ny251:=am_ hy251
         clear hy251
         have H':=am_ H
         clear H
         go_wp2_with (first | ((with_reducible refine gate_callee (f:=97) rfl ?_); refine goesL_ (some 46) rfl rfl Tryd.func97 (by kernel_rfl) rfl #[.int .i64 a0,.int .i64 a1,.bool true,.int .i64 x9_2] rfl ob_ ?_; (with_reducible refine (spec_sqBit.calls a0 a1 true x9_2 t250 _ A18.out).mono ?_); rintro e w' ⟨rfl,⟨nd,rfl⟩⟩; refine ⟨_,rfl,?_⟩; (try (rw [drewN_self wr]; generalize hq_:World.drewN wr _ = wr; have n0_:Aside0 (Kd.R (Kd.int .i64) 3 wr w.heap.size (fun k_ => some k_ ≠ (u246003:Value).ownBlock) u246002 x246002_1):=⟨by rw [← hq_]; exact (kr_ HO_246002.out)⟩; have n1_:Aside0 (Kd.R (Kd.int .i64) 3 wr w.heap.size (fun k_ => some k_ ≠ (u246002:Value).ownBlock) u246003 x246003_2):=⟨by rw [← hq_]; exact (kr_ HO_246003.out)⟩; have n2_:Aside0 (wr.heap[gb244]? = some (.cells #[.int .i64 0,.int .i64 0,.slice none 0 0,.slice none 0 0] 36 (0,0))):=⟨by rw [← hq_]; exact (bk_ BK244.out)⟩; have n3_:Aside0 (wr.heap[gb245]? = some (.cells #[.int .i64 a0,.int .i64 a1,u246002,u246003] 36 (0,0))):=⟨by rw [← hq_]; exact (bk_ BK245.out)⟩; have n4_:Aside0 (Below w.heap.size w wr):=⟨by rw [← hq_]; exact (bl2_ HB.out GE244.out GE245.out)⟩; clear HO_246002 HO_246003 BK244 BK245 HB hq_; have HO_246002:=n0_; have HO_246003:=n1_; have BK244:=n2_; have BK245:=n3_; have HB:=n4_; clear n0_ n1_ n2_ n3_ n4_)); have hnb21:=NB245_244.out; have hnc21:=NB244_245.out; have hcz22_0:wr.cell? ⟨gb245,0,none⟩ = some (.int .i64 a0):=(bc_ BK245.out 0).trans rfl; have hcz22_1:wr.cell? ⟨gb245,1,none⟩ = some (.int .i64 a1):=(bc_ BK245.out 1).trans rfl; have hcz22_2:wr.cell? ⟨gb245,2,none⟩ = some (u246002):=(bc_ BK245.out 2).trans rfl; have hcz22_3:wr.cell? ⟨gb245,3,none⟩ = some (u246003):=(bc_ BK245.out 3).trans rfl; have hfz22_0:=bz_ BK245.out 0; have hfz22_1:=bz_ BK245.out 1; have hfz22_2:=bz_ BK245.out 2; have hfz22_3:=bz_ BK245.out 3) | ((with_reducible refine gate_builtin (b:=.append) (xs:=#[.tmp 50,.tmp 52]) rfl ?_); at_builtin; refine Kd.R_append (Kd.int .i64) (w0:=w) w.heap.size rfl (.tmp 50) (.tmp 52) 22 3 (.int .i64 0) 8 rfl Tryd.underlying22 info3 rfl (by decide) (by omega) u246003 x246003_2 x9_2 [.int .i64 x9_2] (fun k_ => some k_ ≠ (u246002:Value).ownBlock) (fun _ => False) rfl rfl ?aP (fun _ hk => hk.elim) ?aF ?aO ?aB ?aS ?aL ?_; (case aP => exact rfl); (case aB => exact (bl2_ HB.out GE244.out GE245.out)); (case aF => exact (fun k_ hk => Kd.fresh' (Kd.R_lt (kr_ HO_246002.out)) k_ hk)); (case aO => exact (kr_ HO_246003.out)); (case aS => exact (below_size (bl2_ HB.out GE244.out GE245.out))); (case aL => have:=LMc20.out; omega); intro v252 w23 ho hb hg hat; rw [← Ny251.out] at ho; have n0_:=am_ (Kd.R_after (ok:=(fun _ => True)) (by (with_reducible repeat (first | apply Kd.R_alloc | apply Kd.R_drewN | apply Kd.R_drew)); exact Kd.R_mono HO_246002.out (fun _ hk => ⟨trivial,hk⟩)) hg hat); have n1_:=am_ (blk_grown (g:=gb244) (o:=.cells #[.int .i64 0,.int .i64 0,.slice none 0 0,.slice none 0 0] 36 (0,0)) (bk_ BK244.out) hg (Kd.R_ne HO_246003.out BK244.out (by decide))); have n2_:=am_ (blk_grown (g:=gb245) (o:=.cells #[.int .i64 a0,.int .i64 a1,u246002,u246003] 36 (0,0)) (bk_ BK245.out) hg (Kd.R_ne HO_246003.out BK245.out (by decide))); have n3_:=am_ (hb); have n4_:=am_ (ho); clear HO_246002; clear BK244; clear BK245; clear HB; clear HO_246003; have HO_246002:=n0_; have BK244:=n1_; have BK245:=n2_; have HB:=n3_; have HO253:=n4_; clear n0_ n1_ n2_ n3_ n4_; clear ho hb hg hat; obtain ⟨Ao24,co24,eo24⟩:=Kd.R_slice HO253.out; subst eo24; have hcz25_0:w23.cell? ⟨gb245,0,none⟩ = some (.int .i64 a0):=(bc_ BK245.out 0).trans rfl; have hcz25_1:w23.cell? ⟨gb245,1,none⟩ = some (.int .i64 a1):=(bc_ BK245.out 1).trans rfl; have hcz25_2:w23.cell? ⟨gb245,2,none⟩ = some (u246002):=(bc_ BK245.out 2).trans rfl; have hcz25_3:w23.cell? ⟨gb245,3,none⟩ = some (u246003):=(bc_ BK245.out 3).trans rfl; have hfz25_0:=bz_ BK245.out 0; have hfz25_1:=bz_ BK245.out 1; have hfz25_2:=bz_ BK245.out 2; have hfz25_3:=bz_ BK245.out 3))
         go_roundg k2
         case measure => have:=HK1.out; have:=HK2.out; omega
         case rel => exact ⟨(wrap64 (x9_2 + 1)),(y251),(.slice Ao24 y251.length co24),rs_,H',⟨by have:=HK1.out; have:=HK2.out; omega⟩,⟨by (with_reducible repeat (first | apply Kd.R_alloc | apply Kd.R_drewN | apply Kd.R_drew)); exact Kd.R_mono (Kd.R_far (p:=⟨gb245,3,none⟩) (Kd.R_types HO_246002.out BK245.out (by decide)) (fun _ hk => hk.2) (.slice Ao24 y251.length co24)) (fun _ hk => hk.1.2)⟩,⟨by (with_reducible repeat (first | apply Kd.R_alloc | apply Kd.R_drewN | apply Kd.R_drew)); exact Kd.R_mono (Kd.R_far (p:=⟨gb245,3,none⟩) (Kd.R_types HO253.out BK245.out (by decide)) (fun _ hk => hk.2) (.slice Ao24 y251.length co24)) (fun _ hk => hk.1)⟩,⟨bf1_ NB244_245.out BK244.out⟩,⟨by (with_reducible repeat (first | refine blk_drewN ?_ _ | refine blk_drew ?_ | refine blk_alloc ?_ _)); refine blk_put (cs:=#[.int .i64 a0,.int .i64 a1,u246002,u246003]) ?_ 3 _ rfl; (with_reducible repeat (first | refine blk_drewN ?_ _ | refine blk_drew ?_ | refine blk_alloc ?_ _)); exact BK245.out⟩,⟨bl2_ HB.out GE244.out GE245.out⟩⟩
        ·rw [if_neg c20] at H
         exact absurd H (by simp)
      ·rw [if_neg c17] at H
       have c17b0:decide (x9_2 < (wrap64 ((wrap64 (a0 + 1)) * a1))) = false:=decide_eq_false c17
       clear c17
       simp only [Option.some.injEq,Prod.mk.injEq] at H
       obtain ⟨rfl,rfl,rfl,rfl⟩:=H
       have hnb26:=NB245_244.out
       have hnc26:=NB244_245.out
       have hcz27_0:wr.cell? ⟨gb245,0,none⟩ = some (.int .i64 a0):=(bc_ BK245.out 0).trans rfl
       have hcz27_1:wr.cell? ⟨gb245,1,none⟩ = some (.int .i64 a1):=(bc_ BK245.out 1).trans rfl
       have hcz27_2:wr.cell? ⟨gb245,2,none⟩ = some (u246002):=(bc_ BK245.out 2).trans rfl
       have hcz27_3:wr.cell? ⟨gb245,3,none⟩ = some (u246003):=(bc_ BK245.out 3).trans rfl
       have hfz27_0:=bz_ BK245.out 0
       have hfz27_1:=bz_ BK245.out 1
       have hfz27_2:=bz_ BK245.out 2
       have hfz27_3:=bz_ BK245.out 3
       have hcz28_0:wr.cell? ⟨gb244,0,none⟩ = some (.int .i64 0):=(bc_ BK244.out 0).trans rfl
       have hcz28_1:wr.cell? ⟨gb244,1,none⟩ = some (.int .i64 0):=(bc_ BK244.out 1).trans rfl
       have hcz28_2:wr.cell? ⟨gb244,2,none⟩ = some (.slice none 0 0):=(bc_ BK244.out 2).trans rfl
       have hcz28_3:wr.cell? ⟨gb244,3,none⟩ = some (.slice none 0 0):=(bc_ BK244.out 3).trans rfl
       have hfz28_0:=bz_ BK244.out 0
       have hfz28_1:=bz_ BK244.out 1
       have hfz28_2:=bz_ BK244.out 2
       have hfz28_3:=bz_ BK244.out 3
       obtain ⟨Ao29,co29,eo29⟩:=Kd.R_slice HO_246002.out
       subst eo29
       obtain ⟨Ao30,co30,eo30⟩:=Kd.R_slice HO_246003.out
       subst eo30
       go_wp2
       refine bodyPost_ret (results_cell_row rfl _ _ gb244 36 #[.int .i64 a0,.int .i64 a1,.slice Ao29 x246002_1.length co29,.slice Ao30 x246003_2.length co30] (0,0) _ rfl (by (with_reducible repeat (first | refine blk_drewN ?_ _ | refine blk_drew ?_ | refine blk_alloc ?_ _)); refine blk_put (cs:=#[.int .i64 a0,.int .i64 a1,.slice Ao29 x246002_1.length co29,.slice none 0 0]) ?_ 3 _ rfl; (with_reducible repeat (first | refine blk_drewN ?_ _ | refine blk_drew ?_ | refine blk_alloc ?_ _)); refine blk_put (cs:=#[.int .i64 a0,.int .i64 a1,.slice none 0 0,.slice none 0 0]) ?_ 2 _ rfl; (with_reducible repeat (first | refine blk_drewN ?_ _ | refine blk_drew ?_ | refine blk_alloc ?_ _)); refine blk_put (cs:=#[.int .i64 a0,.int .i64 0,.slice none 0 0,.slice none 0 0]) ?_ 1 _ rfl; (with_reducible repeat (first | refine blk_drewN ?_ _ | refine blk_drew ?_ | refine blk_alloc ?_ _)); refine blk_put (cs:=#[.int .i64 0,.int .i64 0,.slice none 0 0,.slice none 0 0]) ?_ 0 _ rfl; (with_reducible repeat (first | refine blk_drewN ?_ _ | refine blk_drew ?_ | refine blk_alloc ?_ _)); exact BK244.out) Tryd.underlying36 rfl (by kernel_rfl)) rfl ?_
       exact ⟨_,_,er_,by (with_reducible repeat (first | apply Kd.R_alloc | apply Kd.R_drewN | apply Kd.R_drew)); exact Kd.R_mono (Kd.R_far (p:=⟨gb244,3,none⟩) (Kd.R_far (p:=⟨gb244,2,none⟩) (Kd.R_far (p:=⟨gb244,1,none⟩) (Kd.R_far (p:=⟨gb244,0,none⟩) (Kd.R_types HO_246002.out BK244.out (by decide)) (fun _ hk => hk.2) (.int .i64 a0)) (fun _ hk => hk.2) (.int .i64 a1)) (fun _ hk => hk.2) (.slice Ao29 x246002_1.length co29)) (fun _ hk => hk.2) (.slice Ao30 x246003_2.length co30)) (fun _ hk => hk.1),by (with_reducible repeat (first | apply Kd.R_alloc | apply Kd.R_drewN | apply Kd.R_drew)); exact Kd.R_mono (Kd.R_far (p:=⟨gb244,3,none⟩) (Kd.R_far (p:=⟨gb244,2,none⟩) (Kd.R_far (p:=⟨gb244,1,none⟩) (Kd.R_far (p:=⟨gb244,0,none⟩) (Kd.R_types HO_246003.out BK244.out (by decide)) (fun _ hk => hk.2) (.int .i64 a0)) (fun _ hk => hk.2) (.int .i64 a1)) (fun _ hk => hk.2) (.slice Ao29 x246002_1.length co29)) (fun _ hk => hk.2) (.slice Ao30 x246003_2.length co30)) (fun _ hk => hk.1),bl2_ HB.out GE244.out GE245.out⟩


mutual
def spec_fiText.l0:Nat → ByteArray → Int → Int → Int → List Int → List Int → Option (ByteArray)
 | 0,_,_,_,_,_,_ => none
 | k + 1,x3,x4,x266000,x266001,x266002,x266003 => if x4 ≤ x266001 then (if x4 > 0 then (if x3.size + 1 ≤ 9223372036854775807 then (spec_fiText.j1 k (x3 ++ (⟨#[47]⟩:ByteArray)) x4 x266000 x266001 x266002 x266003) else (none)) else (spec_fiText.j1 k x3 x4 x266000 x266001 x266002 x266003)) else (some x3)
def spec_fiText.j1:Nat → ByteArray → Int → Int → Int → List Int → List Int → Option (ByteArray)
 | 0,_,_,_,_,_,_ => none
 | k + 1,x3,x4,x266000,x266001,x266002,x266003 => spec_fiText.l1 k x3 x4 0 x266000 x266001 x266002 x266003
def spec_fiText.l1:Nat → ByteArray → Int → Int → Int → Int → List Int → List Int → Option (ByteArray)
 | 0,_,_,_,_,_,_,_ => none
 | k + 1,x3,x4,x5,x266000,x266001,x266002,x266003 => if x5 < x266000 then ((spec_fiHas.f k x266000 x266001 x266002 x266003 false x5 x4).bind fun t266 => (if t266 = true then (if x3.size + 1 ≤ 9223372036854775807 then (spec_fiText.l1 k (x3 ++ (⟨#[45]⟩:ByteArray)) x4 (wrap64 (x5 + 1)) x266000 x266001 x266002 x266003) else (none)) else (if x3.size + 1 ≤ 9223372036854775807 then (spec_fiText.l1 k (x3 ++ (⟨#[46]⟩:ByteArray)) x4 (wrap64 (x5 + 1)) x266000 x266001 x266002 x266003) else (none)))) else (if x4 = x266001 then (some x3) else (if x3.size + 1 ≤ 9223372036854775807 then (spec_fiText.l2 k (x3 ++ (⟨#[47]⟩:ByteArray)) x4 0 x266000 x266001 x266002 x266003) else (none)))
def spec_fiText.l2:Nat → ByteArray → Int → Int → Int → Int → List Int → List Int → Option (ByteArray)
 | 0,_,_,_,_,_,_,_ => none
 | k + 1,x3,x4,x6,x266000,x266001,x266002,x266003 => if x6 ≤ x266000 then ((spec_fiHas.f k x266000 x266001 x266002 x266003 true x6 x4).bind fun t267 => (if t267 = true then (if x3.size + 1 ≤ 9223372036854775807 then (spec_fiText.l2 k (x3 ++ (⟨#[124]⟩:ByteArray)) x4 (wrap64 (x6 + 1)) x266000 x266001 x266002 x266003) else (none)) else (if x3.size + 1 ≤ 9223372036854775807 then (spec_fiText.l2 k (x3 ++ (⟨#[46]⟩:ByteArray)) x4 (wrap64 (x6 + 1)) x266000 x266001 x266002 x266003) else (none)))) else (spec_fiText.l0 k x3 (wrap64 (x4 + 1)) x266000 x266001 x266002 x266003)
end
def spec_fiText.f (k:Nat) (a0_0:Int) (a0_1:Int) (l0_2:List Int) (l0_3:List Int):Option (ByteArray):=spec_fiText.l0 k (⟨#[]⟩:ByteArray) 0 a0_0 a0_1 l0_2 l0_3
theorem spec_fiText.mono_l:∀ k,(∀ y0 y1 y2 y3 y4 y5,LeO (spec_fiText.l0 k y0 y1 y2 y3 y4 y5) (spec_fiText.l0 (k + 1) y0 y1 y2 y3 y4 y5)) ∧ (∀ y0 y1 y2 y3 y4 y5,LeO (spec_fiText.j1 k y0 y1 y2 y3 y4 y5) (spec_fiText.j1 (k + 1) y0 y1 y2 y3 y4 y5)) ∧ (∀ y0 y1 y2 y3 y4 y5 y6,LeO (spec_fiText.l1 k y0 y1 y2 y3 y4 y5 y6) (spec_fiText.l1 (k + 1) y0 y1 y2 y3 y4 y5 y6)) ∧ (∀ y0 y1 y2 y3 y4 y5 y6,LeO (spec_fiText.l2 k y0 y1 y2 y3 y4 y5 y6) (spec_fiText.l2 (k + 1) y0 y1 y2 y3 y4 y5 y6))
 | 0 => ⟨fun _ _ _ _ _ _ r h => by simp [spec_fiText.l0] at h,fun _ _ _ _ _ _ r h => by simp [spec_fiText.j1] at h,fun _ _ _ _ _ _ _ r h => by simp [spec_fiText.l1] at h,fun _ _ _ _ _ _ _ r h => by simp [spec_fiText.l2] at h⟩
 | k + 1 => by
  obtain ⟨ih0,ih1,ih2,ih3⟩:=spec_fiText.mono_l k
  refine ⟨?_,?_,?_,?_⟩
  ·intro y0 y1 y2 y3 y4 y5
   unfold spec_fiText.l0
   repeat' first | (with_reducible first | exact ih0 _ _ _ _ _ _ | exact ih1 _ _ _ _ _ _ | exact ih2 _ _ _ _ _ _ _ | exact ih3 _ _ _ _ _ _ _ | exact spec_fiHas.mono _ _ _ _ _ _ _ _ | exact LeO.refl _ | exact LeO.none _ | refine LeO.ite ?_ ?_ | refine LeO.bind ?_ (fun _ => ?_)) | exact ih0 _ _ _ _ _ _ | exact ih1 _ _ _ _ _ _ | exact ih2 _ _ _ _ _ _ _ | exact ih3 _ _ _ _ _ _ _ | exact spec_fiHas.mono _ _ _ _ _ _ _ _
  ·intro y0 y1 y2 y3 y4 y5
   unfold spec_fiText.j1
   repeat' first | (with_reducible first | exact ih0 _ _ _ _ _ _ | exact ih1 _ _ _ _ _ _ | exact ih2 _ _ _ _ _ _ _ | exact ih3 _ _ _ _ _ _ _ | exact spec_fiHas.mono _ _ _ _ _ _ _ _ | exact LeO.refl _ | exact LeO.none _ | refine LeO.ite ?_ ?_ | refine LeO.bind ?_ (fun _ => ?_)) | exact ih0 _ _ _ _ _ _ | exact ih1 _ _ _ _ _ _ | exact ih2 _ _ _ _ _ _ _ | exact ih3 _ _ _ _ _ _ _ | exact spec_fiHas.mono _ _ _ _ _ _ _ _
  ·intro y0 y1 y2 y3 y4 y5 y6
   unfold spec_fiText.l1
   repeat' first | (with_reducible first | exact ih0 _ _ _ _ _ _ | exact ih1 _ _ _ _ _ _ | exact ih2 _ _ _ _ _ _ _ | exact ih3 _ _ _ _ _ _ _ | exact spec_fiHas.mono _ _ _ _ _ _ _ _ | exact LeO.refl _ | exact LeO.none _ | refine LeO.ite ?_ ?_ | refine LeO.bind ?_ (fun _ => ?_)) | exact ih0 _ _ _ _ _ _ | exact ih1 _ _ _ _ _ _ | exact ih2 _ _ _ _ _ _ _ | exact ih3 _ _ _ _ _ _ _ | exact spec_fiHas.mono _ _ _ _ _ _ _ _
  ·intro y0 y1 y2 y3 y4 y5 y6
   unfold spec_fiText.l2
   repeat' first | (with_reducible first | exact ih0 _ _ _ _ _ _ | exact ih1 _ _ _ _ _ _ | exact ih2 _ _ _ _ _ _ _ | exact ih3 _ _ _ _ _ _ _ | exact spec_fiHas.mono _ _ _ _ _ _ _ _ | exact LeO.refl _ | exact LeO.none _ | refine LeO.ite ?_ ?_ | refine LeO.bind ?_ (fun _ => ?_)) | exact ih0 _ _ _ _ _ _ | exact ih1 _ _ _ _ _ _ | exact ih2 _ _ _ _ _ _ _ | exact ih3 _ _ _ _ _ _ _ | exact spec_fiHas.mono _ _ _ _ _ _ _ _
theorem spec_fiText.mono:∀ a0 a1 a2 a3 k,LeO (spec_fiText.f k a0 a1 a2 a3) (spec_fiText.f (k + 1) a0 a1 a2 a3):=by
 intro a0 a1 a2 a3 k
 obtain ⟨ih0,ih1,ih2,ih3⟩:=spec_fiText.mono_l k
 unfold spec_fiText.f
 repeat' first | (with_reducible first | exact ih0 _ _ _ _ _ _ | exact ih1 _ _ _ _ _ _ | exact ih2 _ _ _ _ _ _ _ | exact ih3 _ _ _ _ _ _ _ | exact spec_fiHas.mono _ _ _ _ _ _ _ _ | exact LeO.refl _ | exact LeO.none _ | refine LeO.ite ?_ ?_ | refine LeO.bind ?_ (fun _ => ?_)) | exact ih0 _ _ _ _ _ _ | exact ih1 _ _ _ _ _ _ | exact ih2 _ _ _ _ _ _ _ | exact ih3 _ _ _ _ _ _ _ | exact spec_fiHas.mono _ _ _ _ _ _ _ _
set_option maxHeartbeats 8000000 in
set_option maxRecDepth 100000 in
theorem spec_fiText.calls (k:Nat) (a0_0:Int) (a0_1:Int) (A0_2:Option Addr) (c0_2:Nat) (l0_2:List Int) (A0_3:Option Addr) (c0_3:Nat) (l0_3:List Int) (r:ByteArray) (w:World) (hr0_2:Kd.C (Kd.int .i64) w A0_2 l0_2.length l0_2) (hc0_2:l0_2.length ≤ c0_2) (hr0_3:Kd.C (Kd.int .i64) w A0_3 l0_3.length l0_3) (hc0_3:l0_3.length ≤ c0_3) (h:spec_fiText.f k a0_0 a0_1 l0_2 l0_3 = some r) :
  Calls Tryd.prog 70 #[.agg #[.int .i64 a0_0,.int .i64 a0_1,.slice A0_2 l0_2.length c0_2,.slice A0_3 l0_3.length c0_3]] w fun e w' => e = .returned (.string r) ∧ Below w.heap.size w w':=by
 have hu36:=Tryd.underlying36
 have HR0_2:=am_ hr0_2
 have HC0_2:=am_ hc0_2
 clear hr0_2 hc0_2
 have HR0_3:=am_ hr0_3
 have HC0_3:=am_ hc0_3
 clear hr0_3 hc0_3
 have HB:=am_ (Below.refl w.heap.size w)
 have H:(spec_fiText.l0 k (⟨#[]⟩:ByteArray) 0 a0_0 a0_1 l0_2 l0_3) = some r:=h
 clear h
 have H':=am_ H
 clear H
 go_enter Tryd.func70,Tryd.ntmps70
 go_wp2_with (first | ((with_reducible refine gate_dst (N:=1) rfl ?_); refine boxE_ (N:=1) (cs:=#[.int .i64 a0_0,.int .i64 a0_1,.slice A0_2 l0_2.length c0_2,.slice A0_3 l0_3.length c0_3]) (t:=36) ?_; intro gb265 hg w2 hbox hb; have n0_:=am_ (below_step (bl0_ HB.out) hb); have n1_:=am_ (hbox); have n2_:=am_ ((bs0_ hg HB.out:w.heap.size ≤ gb265)); have n3_:=am_ ((bs0_ hg HB.out:w.heap.size ≤ gb265)); clear HB; have HB:=n0_; have BK265:=n1_; have GW265:=n2_; have GE265:=n3_; clear n0_ n1_ n2_ n3_; clear hb hbox hg))
 go_loopg [3,4] k (fun kq v3 v4 w' => ∃ (x3_1:ByteArray) (x4_1:Int),v3 = .string x3_1 ∧ v4 = .int .i64 x4_1 ∧ Aside0 (spec_fiText.l0 kq x3_1 x4_1 a0_0 a0_1 l0_2 l0_3 = some r) ∧ Aside0 (kq ≤ k) ∧ Aside0 (w'.heap[gb265]? = some (.cells #[.int .i64 a0_0,.int .i64 a0_1,(.slice A0_2 l0_2.length c0_2),(.slice A0_3 l0_3.length c0_3)] 36 (0,0))) ∧ Aside0 (Below w.heap.size w w'))
 case atStart => exact ⟨((⟨#[]⟩:ByteArray)),(0),rs_,rs_,H',⟨Nat.le_refl _⟩,⟨bk_ BK265.out⟩,⟨bl1_ HB.out GE265.out⟩⟩
 case round =>
  clear H'
  try clear p2
  obtain ⟨x3_1,x4_1,rfl,rfl,HA,HK1,BK265,HB⟩:=hrel
  cases gk with
  | zero => exact absurd HA.out (by simp [spec_fiText.l0])
  | succ k1 =>
   have H:=HA.out
   clear HA
   simp only [spec_fiText.l0] at H
   by_cases c3:x4_1 ≤ a0_1
   ·rw [if_pos c3] at H
    have c3b0:decide (x4_1 ≤ a0_1) = true:=decide_eq_true c3
    clear c3
    have HC4:=am_ H
    clear H
    have hcz5_0:wr.cell? ⟨gb265,0,none⟩ = some (.int .i64 a0_0):=(bc_ BK265.out 0).trans rfl
    have hcz5_1:wr.cell? ⟨gb265,1,none⟩ = some (.int .i64 a0_1):=(bc_ BK265.out 1).trans rfl
    have hcz5_2:wr.cell? ⟨gb265,2,none⟩ = some (.slice A0_2 l0_2.length c0_2):=(bc_ BK265.out 2).trans rfl
    have hcz5_3:wr.cell? ⟨gb265,3,none⟩ = some (.slice A0_3 l0_3.length c0_3):=(bc_ BK265.out 3).trans rfl
    have hfz5_0:=bz_ BK265.out 0
    have hfz5_1:=bz_ BK265.out 1
    have hfz5_2:=bz_ BK265.out 2
    have hfz5_3:=bz_ BK265.out 3
    go_upto_if 14 with (fail)
    go_cut [3] (fun v3 wc => ∃ (kq:Nat) (x3_3:ByteArray),v3 = .string x3_3 ∧ Aside0 (spec_fiText.j1 kq x3_3 x4_1 a0_0 a0_1 l0_2 l0_3 = some r) ∧ Aside0 (kq ≤ k1) ∧ Aside0 (wc.heap[gb265]? = some (.cells #[.int .i64 a0_0,.int .i64 a0_1,(.slice A0_2 l0_2.length c0_2),(.slice A0_3 l0_3.length c0_3)] 36 (0,0))) ∧ Aside0 (Below w.heap.size w wc))
    case first =>
     have H:=HC4.out
     clear HC4
     by_cases c6:x4_1 > 0
     ·rw [if_pos c6] at H
      have c6b0:decide (0 < x4_1) = true:=decide_eq_true c6
      clear c6
      (first | rw [c6b0] | (simp only [i64_w,i32_w]; rw [c6b0]) | skip)
      by_cases c7:x3_1.size + 1 ≤ 9223372036854775807
      ·rw [if_pos c7] at H
       have c7b0:=eq_true c7
       have c7b1:decide (x3_1.size + 1 ≤ 9223372036854775807) = true:=decide_eq_true c7
       try have c7b2:(9223372036854775807 < x3_1.size + 1) = False:=eq_false (Nat.not_lt.2 c7)
       have H':=am_ H
       clear H
       go_wp2
       go_meet
       case rel => exact ⟨_,(x3_1 ++ (⟨#[47]⟩:ByteArray)),rs_,H',⟨by have:=HK1.out; first | omega | exact Nat.le_refl _⟩,⟨bk_ BK265.out⟩,⟨bl1_ HB.out GE265.out⟩⟩
      ·rw [if_neg c7] at H
       exact absurd H (by simp)
     ·rw [if_neg c6] at H
      have c6b0:decide (0 < x4_1) = false:=decide_eq_false c6
      clear c6
      (first | rw [c6b0] | (simp only [i64_w,i32_w]; rw [c6b0]) | skip)
      have H':=am_ H
      clear H
      go_wp2
      go_meet
      case rel => exact ⟨_,(x3_1),rs_,H',⟨by have:=HK1.out; first | omega | exact Nat.le_refl _⟩,⟨bk_ BK265.out⟩,⟨bl1_ HB.out GE265.out⟩⟩
    case rest =>
     clear HC4
     try clear p2
     try clear c3
     try clear c3b0
     try clear c6
     try clear c6b0
     try clear c7
     try clear c7b0
     try clear c7b1
     try clear c7b2
     try clear hcz5_0
     try clear hcz5_1
     try clear hcz5_2
     try clear hcz5_3
     try clear hfz5_0
     try clear hfz5_1
     try clear hfz5_2
     try clear hfz5_3
     try clear p2
     obtain ⟨kq,x3_3,rfl,HA,HJ3,BK265,HB⟩:=hcut
     cases kq with
     | zero => exact absurd HA.out (by simp [spec_fiText.j1])
     | succ kj3 =>
      have H:=HA.out
      clear HA
      simp only [spec_fiText.j1] at H
      have H':=am_ H
      clear H
      go_wp2
      go_loopg [3,5] kj3 (fun kq v3 v5 w' => ∃ (x3_3:ByteArray) (x5_3:Int),v3 = .string x3_3 ∧ v5 = .int .i64 x5_3 ∧ Aside0 (spec_fiText.l1 kq x3_3 x4_1 x5_3 a0_0 a0_1 l0_2 l0_3 = some r) ∧ Aside0 (kq ≤ kj3) ∧ Aside0 (w'.heap[gb265]? = some (.cells #[.int .i64 a0_0,.int .i64 a0_1,(.slice A0_2 l0_2.length c0_2),(.slice A0_3 l0_3.length c0_3)] 36 (0,0))) ∧ Aside0 (Below w.heap.size w w'))
      case atStart => exact ⟨(x3_3),(0),rs_,rs_,H',⟨Nat.le_refl _⟩,⟨bk_ BK265.out⟩,⟨bl1_ HB.out GE265.out⟩⟩
      case round =>
       clear H'
       try clear p2
       try clear c3
       try clear c3b0
       try clear c6
       try clear c6b0
       try clear c7
       try clear c7b0
       try clear c7b1
       try clear c7b2
       try clear hcz5_0
       try clear hcz5_1
       try clear hcz5_2
       try clear hcz5_3
       try clear hfz5_0
       try clear hfz5_1
       try clear hfz5_2
       try clear hfz5_3
       try clear p2
       obtain ⟨x3_3,x5_3,rfl,rfl,HA,HK3,BK265,HB⟩:=hrel
       cases gk with
       | zero => exact absurd HA.out (by simp [spec_fiText.l1])
       | succ k3 =>
        have H:=HA.out
        clear HA
        simp only [spec_fiText.l1] at H
        by_cases c8:x5_3 < a0_0
        ·rw [if_pos c8] at H
         have c8b0:decide (x5_3 < a0_0) = true:=decide_eq_true c8
         clear c8
         replace H:=bi_ H
         obtain ⟨t266,A90,H⟩:=H
         replace H:(if t266 = true then (if x3_3.size + 1 ≤ 9223372036854775807 then (spec_fiText.l1 k3 (x3_3 ++ (⟨#[45]⟩:ByteArray)) x4_1 (wrap64 (x5_3 + 1)) a0_0 a0_1 l0_2 l0_3) else (none)) else (if x3_3.size + 1 ≤ 9223372036854775807 then (spec_fiText.l1 k3 (x3_3 ++ (⟨#[46]⟩:ByteArray)) x4_1 (wrap64 (x5_3 + 1)) a0_0 a0_1 l0_2 l0_3) else (none))) = some r:=H
         have A9:=am_ A90
         clear A90
         by_cases c10:t266 = true
         ·subst c10
          have H1:(if x3_3.size + 1 ≤ 9223372036854775807 then (spec_fiText.l1 k3 (x3_3 ++ (⟨#[45]⟩:ByteArray)) x4_1 (wrap64 (x5_3 + 1)) a0_0 a0_1 l0_2 l0_3) else (none)) = some r:=by rw [if_pos rfl] at H; exact H
          clear H
          have H:=H1
          clear H1
          by_cases c11:x3_3.size + 1 ≤ 9223372036854775807
          ·rw [if_pos c11] at H
           have c11b0:=eq_true c11
           have c11b1:decide (x3_3.size + 1 ≤ 9223372036854775807) = true:=decide_eq_true c11
           try have c11b2:(9223372036854775807 < x3_3.size + 1) = False:=eq_false (Nat.not_lt.2 c11)
           have H':=am_ H
           clear H
           have hcz12_0:wr.cell? ⟨gb265,0,none⟩ = some (.int .i64 a0_0):=(bc_ BK265.out 0).trans rfl
           have hcz12_1:wr.cell? ⟨gb265,1,none⟩ = some (.int .i64 a0_1):=(bc_ BK265.out 1).trans rfl
           have hcz12_2:wr.cell? ⟨gb265,2,none⟩ = some (.slice A0_2 l0_2.length c0_2):=(bc_ BK265.out 2).trans rfl
           have hcz12_3:wr.cell? ⟨gb265,3,none⟩ = some (.slice A0_3 l0_3.length c0_3):=(bc_ BK265.out 3).trans rfl
           have hfz12_0:=bz_ BK265.out 0
           have hfz12_1:=bz_ BK265.out 1
           have hfz12_2:=bz_ BK265.out 2
           have hfz12_3:=bz_ BK265.out 3
           go_wp2_with (first | ((with_reducible refine gate_callee (f:=122) rfl ?_); refine goesL_ (some 26) rfl rfl Tryd.func122 (by kernel_rfl) rfl #[.agg #[.int .i64 a0_0,.int .i64 a0_1,.slice A0_2 l0_2.length c0_2,.slice A0_3 l0_3.length c0_3],.bool false,.int .i64 x5_3,.int .i64 x4_1] rfl ob_ ?_; (with_reducible refine (spec_fiHas.calls k3 a0_0 a0_1 _ _ l0_2 _ _ l0_3 false x5_3 x4_1 true _ ?side1 ?side2 ?side3 ?side4 A9.out).mono ?_); (case side1 => exact kc_ (Kd.C_below HR0_2.out HB.out)); (case side2 => exact HC0_2.out); (case side3 => exact kc_ (Kd.C_below HR0_3.out HB.out)); (case side4 => exact HC0_3.out); rintro e w13 ⟨rfl,hb⟩; refine ⟨_,rfl,?_⟩; have n0_:=am_ (bb_ BK265.out hb); have n1_:=am_ (below_step (bl1_ HB.out GE265.out) hb); clear BK265; clear HB; have BK265:=n0_; have HB:=n1_; clear n0_ n1_; (try clear hb); (try clear hb2); (try clear hk); (try clear hi)))
           go_roundg k3
           case measure => have:=HK1.out; have:=HJ3.out; have:=HK3.out; omega
           case rel => exact ⟨(x3_3 ++ (⟨#[45]⟩:ByteArray)),(wrap64 (x5_3 + 1)),rs_,rs_,H',⟨by have:=HK1.out; have:=HJ3.out; have:=HK3.out; omega⟩,⟨bk_ BK265.out⟩,⟨bl1_ HB.out GE265.out⟩⟩
          ·rw [if_neg c11] at H
           exact absurd H (by simp)
         ·replace c10:=Bool.eq_false_iff.mpr c10
          subst c10
          have H1:(if x3_3.size + 1 ≤ 9223372036854775807 then (spec_fiText.l1 k3 (x3_3 ++ (⟨#[46]⟩:ByteArray)) x4_1 (wrap64 (x5_3 + 1)) a0_0 a0_1 l0_2 l0_3) else (none)) = some r:=by rw [if_neg (show ¬ (false = true) by decide)] at H; exact H
          clear H
          have H:=H1
          clear H1
          by_cases c14:x3_3.size + 1 ≤ 9223372036854775807
          ·rw [if_pos c14] at H
           have c14b0:=eq_true c14
           have c14b1:decide (x3_3.size + 1 ≤ 9223372036854775807) = true:=decide_eq_true c14
           try have c14b2:(9223372036854775807 < x3_3.size + 1) = False:=eq_false (Nat.not_lt.2 c14)
           have H':=am_ H
           clear H
           have hcz15_0:wr.cell? ⟨gb265,0,none⟩ = some (.int .i64 a0_0):=(bc_ BK265.out 0).trans rfl
           have hcz15_1:wr.cell? ⟨gb265,1,none⟩ = some (.int .i64 a0_1):=(bc_ BK265.out 1).trans rfl
           have hcz15_2:wr.cell? ⟨gb265,2,none⟩ = some (.slice A0_2 l0_2.length c0_2):=(bc_ BK265.out 2).trans rfl
           have hcz15_3:wr.cell? ⟨gb265,3,none⟩ = some (.slice A0_3 l0_3.length c0_3):=(bc_ BK265.out 3).trans rfl
           have hfz15_0:=bz_ BK265.out 0
           have hfz15_1:=bz_ BK265.out 1
           have hfz15_2:=bz_ BK265.out 2
           have hfz15_3:=bz_ BK265.out 3
           go_wp2_with (first | ((with_reducible refine gate_callee (f:=122) rfl ?_); refine goesL_ (some 26) rfl rfl Tryd.func122 (by kernel_rfl) rfl #[.agg #[.int .i64 a0_0,.int .i64 a0_1,.slice A0_2 l0_2.length c0_2,.slice A0_3 l0_3.length c0_3],.bool false,.int .i64 x5_3,.int .i64 x4_1] rfl ob_ ?_; (with_reducible refine (spec_fiHas.calls k3 a0_0 a0_1 _ _ l0_2 _ _ l0_3 false x5_3 x4_1 false _ ?side1 ?side2 ?side3 ?side4 A9.out).mono ?_); (case side1 => exact kc_ (Kd.C_below HR0_2.out HB.out)); (case side2 => exact HC0_2.out); (case side3 => exact kc_ (Kd.C_below HR0_3.out HB.out)); (case side4 => exact HC0_3.out); rintro e w16 ⟨rfl,hb⟩; refine ⟨_,rfl,?_⟩; have n0_:=am_ (bb_ BK265.out hb); have n1_:=am_ (below_step (bl1_ HB.out GE265.out) hb); clear BK265; clear HB; have BK265:=n0_; have HB:=n1_; clear n0_ n1_; (try clear hb); (try clear hb2); (try clear hk); (try clear hi)))
           go_roundg k3
           case measure => have:=HK1.out; have:=HJ3.out; have:=HK3.out; omega
           case rel => exact ⟨(x3_3 ++ (⟨#[46]⟩:ByteArray)),(wrap64 (x5_3 + 1)),rs_,rs_,H',⟨by have:=HK1.out; have:=HJ3.out; have:=HK3.out; omega⟩,⟨bk_ BK265.out⟩,⟨bl1_ HB.out GE265.out⟩⟩
          ·rw [if_neg c14] at H
           exact absurd H (by simp)
        ·rw [if_neg c8] at H
         have c8b0:decide (x5_3 < a0_0) = false:=decide_eq_false c8
         clear c8
         by_cases c17:x4_1 = a0_1
         ·rw [if_pos c17] at H
          have c17b0:(x4_1 == a0_1) = true:=beq_iff_eq.mpr c17
          have c17b1:(x4_1 != a0_1) = false:=bne_eq_false_iff_eq.mpr c17
          clear c17
          obtain rfl:=Option.some.inj H
          have hcz18_0:wr.cell? ⟨gb265,0,none⟩ = some (.int .i64 a0_0):=(bc_ BK265.out 0).trans rfl
          have hcz18_1:wr.cell? ⟨gb265,1,none⟩ = some (.int .i64 a0_1):=(bc_ BK265.out 1).trans rfl
          have hcz18_2:wr.cell? ⟨gb265,2,none⟩ = some (.slice A0_2 l0_2.length c0_2):=(bc_ BK265.out 2).trans rfl
          have hcz18_3:wr.cell? ⟨gb265,3,none⟩ = some (.slice A0_3 l0_3.length c0_3):=(bc_ BK265.out 3).trans rfl
          have hfz18_0:=bz_ BK265.out 0
          have hfz18_1:=bz_ BK265.out 1
          have hfz18_2:=bz_ BK265.out 2
          have hfz18_3:=bz_ BK265.out 3
          go_wp2
          go_ret
          exact ⟨er_,bl1_ HB.out GE265.out⟩
         ·rw [if_neg c17] at H
          have c17b0:(x4_1 == a0_1) = false:=beq_eq_false_iff_ne.mpr c17
          have c17b1:(x4_1 != a0_1) = true:=bne_iff_ne.mpr c17
          by_cases c19:x3_3.size + 1 ≤ 9223372036854775807
          ·rw [if_pos c19] at H
           have c19b0:=eq_true c19
           have c19b1:decide (x3_3.size + 1 ≤ 9223372036854775807) = true:=decide_eq_true c19
           try have c19b2:(9223372036854775807 < x3_3.size + 1) = False:=eq_false (Nat.not_lt.2 c19)
           have H':=am_ H
           clear H
           have hcz20_0:wr.cell? ⟨gb265,0,none⟩ = some (.int .i64 a0_0):=(bc_ BK265.out 0).trans rfl
           have hcz20_1:wr.cell? ⟨gb265,1,none⟩ = some (.int .i64 a0_1):=(bc_ BK265.out 1).trans rfl
           have hcz20_2:wr.cell? ⟨gb265,2,none⟩ = some (.slice A0_2 l0_2.length c0_2):=(bc_ BK265.out 2).trans rfl
           have hcz20_3:wr.cell? ⟨gb265,3,none⟩ = some (.slice A0_3 l0_3.length c0_3):=(bc_ BK265.out 3).trans rfl
           have hfz20_0:=bz_ BK265.out 0
           have hfz20_1:=bz_ BK265.out 1
           have hfz20_2:=bz_ BK265.out 2
           have hfz20_3:=bz_ BK265.out 3
           go_wp2
           go_loopg [3,6] k3 (fun kq v3 v6 w' => ∃ (x3_4:ByteArray) (x6_4:Int),v3 = .string x3_4 ∧ v6 = .int .i64 x6_4 ∧ Aside0 (spec_fiText.l2 kq x3_4 x4_1 x6_4 a0_0 a0_1 l0_2 l0_3 = some r) ∧ Aside0 (kq ≤ k3) ∧ Aside0 (w'.heap[gb265]? = some (.cells #[.int .i64 a0_0,.int .i64 a0_1,(.slice A0_2 l0_2.length c0_2),(.slice A0_3 l0_3.length c0_3)] 36 (0,0))) ∧ Aside0 (Below w.heap.size w w'))
           case atStart => exact ⟨(x3_3 ++ (⟨#[47]⟩:ByteArray)),(0),rs_,rs_,H',⟨Nat.le_refl _⟩,⟨bk_ BK265.out⟩,⟨bl1_ HB.out GE265.out⟩⟩
           case round =>
            clear H'
            try clear c1
            try clear p2
            try clear c3
            try clear c3b0
            try clear c6
            try clear c6b0
            try clear p6
            try clear c7
            try clear c7b0
            try clear c7b1
            try clear c7b2
            try clear c8
            try clear c8b0
            try clear c10
            try clear c11
            try clear c11b0
            try clear c11b1
            try clear c11b2
            try clear c12
            try clear c14
            try clear c14b0
            try clear c14b1
            try clear c14b2
            try clear c17
            try clear c17b0
            try clear c17b1
            try clear c19
            try clear c19b0
            try clear c19b1
            try clear c19b2
            try clear hcz12_0
            try clear hcz12_1
            try clear hcz12_2
            try clear hcz12_3
            try clear hcz15_0
            try clear hcz15_1
            try clear hcz15_2
            try clear hcz15_3
            try clear hcz18_0
            try clear hcz18_1
            try clear hcz18_2
            try clear hcz18_3
            try clear hcz20_0
            try clear hcz20_1
            try clear hcz20_2
            try clear hcz20_3
            try clear hcz5_0
            try clear hcz5_1
            try clear hcz5_2
            try clear hcz5_3
            try clear hfz12_0
            try clear hfz12_1
            try clear hfz12_2
            try clear hfz12_3
            try clear hfz15_0
            try clear hfz15_1
            try clear hfz15_2
            try clear hfz15_3
            try clear hfz18_0
            try clear hfz18_1
            try clear hfz18_2
            try clear hfz18_3
            try clear hfz20_0
            try clear hfz20_1
            try clear hfz20_2
            try clear hfz20_3
            try clear hfz5_0
            try clear hfz5_1
            try clear hfz5_2
            try clear hfz5_3
            try clear p2
            obtain ⟨x3_4,x6_4,rfl,rfl,HA,HK4,BK265,HB⟩:=hrel
            cases gk with
            | zero => exact absurd HA.out (by simp [spec_fiText.l2])
            | succ k4 =>
             have H:=HA.out
             clear HA
             simp only [spec_fiText.l2] at H
             by_cases c21:x6_4 ≤ a0_0
             ·rw [if_pos c21] at H
              have c21b0:decide (x6_4 ≤ a0_0) = true:=decide_eq_true c21
              clear c21
              replace H:=bi_ H
              obtain ⟨t267,A220,H⟩:=H
              replace H:(if t267 = true then (if x3_4.size + 1 ≤ 9223372036854775807 then (spec_fiText.l2 k4 (x3_4 ++ (⟨#[124]⟩:ByteArray)) x4_1 (wrap64 (x6_4 + 1)) a0_0 a0_1 l0_2 l0_3) else (none)) else (if x3_4.size + 1 ≤ 9223372036854775807 then (spec_fiText.l2 k4 (x3_4 ++ (⟨#[46]⟩:ByteArray)) x4_1 (wrap64 (x6_4 + 1)) a0_0 a0_1 l0_2 l0_3) else (none))) = some r:=H
              have A22:=am_ A220
              clear A220
              by_cases c23:t267 = true
              ·subst c23
               have H1:(if x3_4.size + 1 ≤ 9223372036854775807 then (spec_fiText.l2 k4 (x3_4 ++ (⟨#[124]⟩:ByteArray)) x4_1 (wrap64 (x6_4 + 1)) a0_0 a0_1 l0_2 l0_3) else (none)) = some r:=by rw [if_pos rfl] at H; exact H
               clear H
               have H:=H1
               clear H1
               by_cases c24:x3_4.size + 1 ≤ 9223372036854775807
               ·rw [if_pos c24] at H
                have c24b0:=eq_true c24
                have c24b1:decide (x3_4.size + 1 ≤ 9223372036854775807) = true:=decide_eq_true c24
                try have c24b2:(9223372036854775807 < x3_4.size + 1) = False:=eq_false (Nat.not_lt.2 c24)
                have H':=am_ H
                clear H
                have hcz25_0:wr.cell? ⟨gb265,0,none⟩ = some (.int .i64 a0_0):=(bc_ BK265.out 0).trans rfl
                have hcz25_1:wr.cell? ⟨gb265,1,none⟩ = some (.int .i64 a0_1):=(bc_ BK265.out 1).trans rfl
                have hcz25_2:wr.cell? ⟨gb265,2,none⟩ = some (.slice A0_2 l0_2.length c0_2):=(bc_ BK265.out 2).trans rfl
                have hcz25_3:wr.cell? ⟨gb265,3,none⟩ = some (.slice A0_3 l0_3.length c0_3):=(bc_ BK265.out 3).trans rfl
                have hfz25_0:=bz_ BK265.out 0
                have hfz25_1:=bz_ BK265.out 1
                have hfz25_2:=bz_ BK265.out 2
                have hfz25_3:=bz_ BK265.out 3
                go_wp2_with (first | ((with_reducible refine gate_callee (f:=122) rfl ?_); refine goesL_ (some 46) rfl rfl Tryd.func122 (by kernel_rfl) rfl #[.agg #[.int .i64 a0_0,.int .i64 a0_1,.slice A0_2 l0_2.length c0_2,.slice A0_3 l0_3.length c0_3],.bool true,.int .i64 x6_4,.int .i64 x4_1] rfl ob_ ?_; (with_reducible refine (spec_fiHas.calls k4 a0_0 a0_1 _ _ l0_2 _ _ l0_3 true x6_4 x4_1 true _ ?side1 ?side2 ?side3 ?side4 A22.out).mono ?_); (case side1 => exact kc_ (Kd.C_below HR0_2.out HB.out)); (case side2 => exact HC0_2.out); (case side3 => exact kc_ (Kd.C_below HR0_3.out HB.out)); (case side4 => exact HC0_3.out); rintro e w26 ⟨rfl,hb⟩; refine ⟨_,rfl,?_⟩; have n0_:=am_ (bb_ BK265.out hb); have n1_:=am_ (below_step (bl1_ HB.out GE265.out) hb); clear BK265; clear HB; have BK265:=n0_; have HB:=n1_; clear n0_ n1_; (try clear hb); (try clear hb2); (try clear hk); (try clear hi)))
                go_roundg k4
                case measure => have:=HK1.out; have:=HJ3.out; have:=HK3.out; have:=HK4.out; omega
                case rel => exact ⟨(x3_4 ++ (⟨#[124]⟩:ByteArray)),(wrap64 (x6_4 + 1)),rs_,rs_,H',⟨by have:=HK1.out; have:=HJ3.out; have:=HK3.out; have:=HK4.out; omega⟩,⟨bk_ BK265.out⟩,⟨bl1_ HB.out GE265.out⟩⟩
               ·rw [if_neg c24] at H
                exact absurd H (by simp)
              ·replace c23:=Bool.eq_false_iff.mpr c23
               subst c23
               have H1:(if x3_4.size + 1 ≤ 9223372036854775807 then (spec_fiText.l2 k4 (x3_4 ++ (⟨#[46]⟩:ByteArray)) x4_1 (wrap64 (x6_4 + 1)) a0_0 a0_1 l0_2 l0_3) else (none)) = some r:=by rw [if_neg (show ¬ (false = true) by decide)] at H; exact H
               clear H
               have H:=H1
               clear H1
               by_cases c27:x3_4.size + 1 ≤ 9223372036854775807
               ·rw [if_pos c27] at H
                have c27b0:=eq_true c27
                have c27b1:decide (x3_4.size + 1 ≤ 9223372036854775807) = true:=decide_eq_true c27
                try have c27b2:(9223372036854775807 < x3_4.size + 1) = False:=eq_false (Nat.not_lt.2 c27)
                have H':=am_ H
                clear H
                have hcz28_0:wr.cell? ⟨gb265,0,none⟩ = some (.int .i64 a0_0):=(bc_ BK265.out 0).trans rfl
                have hcz28_1:wr.cell? ⟨gb265,1,none⟩ = some (.int .i64 a0_1):=(bc_ BK265.out 1).trans rfl
                have hcz28_2:wr.cell? ⟨gb265,2,none⟩ = some (.slice A0_2 l0_2.length c0_2):=(bc_ BK265.out 2).trans rfl
                have hcz28_3:wr.cell? ⟨gb265,3,none⟩ = some (.slice A0_3 l0_3.length c0_3):=(bc_ BK265.out 3).trans rfl
                have hfz28_0:=bz_ BK265.out 0
                have hfz28_1:=bz_ BK265.out 1
                have hfz28_2:=bz_ BK265.out 2
                have hfz28_3:=bz_ BK265.out 3
                go_wp2_with (first | ((with_reducible refine gate_callee (f:=122) rfl ?_); refine goesL_ (some 46) rfl rfl Tryd.func122 (by kernel_rfl) rfl #[.agg #[.int .i64 a0_0,.int .i64 a0_1,.slice A0_2 l0_2.length c0_2,.slice A0_3 l0_3.length c0_3],.bool true,.int .i64 x6_4,.int .i64 x4_1] rfl ob_ ?_; (with_reducible refine (spec_fiHas.calls k4 a0_0 a0_1 _ _ l0_2 _ _ l0_3 true x6_4 x4_1 false _ ?side1 ?side2 ?side3 ?side4 A22.out).mono ?_); (case side1 => exact kc_ (Kd.C_below HR0_2.out HB.out)); (case side2 => exact HC0_2.out); (case side3 => exact kc_ (Kd.C_below HR0_3.out HB.out)); (case side4 => exact HC0_3.out); rintro e w29 ⟨rfl,hb⟩; refine ⟨_,rfl,?_⟩; have n0_:=am_ (bb_ BK265.out hb); have n1_:=am_ (below_step (bl1_ HB.out GE265.out) hb); clear BK265; clear HB; have BK265:=n0_; have HB:=n1_; clear n0_ n1_; (try clear hb); (try clear hb2); (try clear hk); (try clear hi)))
                go_roundg k4
                case measure => have:=HK1.out; have:=HJ3.out; have:=HK3.out; have:=HK4.out; omega
                case rel => exact ⟨(x3_4 ++ (⟨#[46]⟩:ByteArray)),(wrap64 (x6_4 + 1)),rs_,rs_,H',⟨by have:=HK1.out; have:=HJ3.out; have:=HK3.out; have:=HK4.out; omega⟩,⟨bk_ BK265.out⟩,⟨bl1_ HB.out GE265.out⟩⟩
               ·rw [if_neg c27] at H
                exact absurd H (by simp)
             ·rw [if_neg c21] at H
              have c21b0:decide (x6_4 ≤ a0_0) = false:=decide_eq_false c21
              clear c21
              have H':=am_ H
              clear H
              have hcz30_0:wr.cell? ⟨gb265,0,none⟩ = some (.int .i64 a0_0):=(bc_ BK265.out 0).trans rfl
              have hcz30_1:wr.cell? ⟨gb265,1,none⟩ = some (.int .i64 a0_1):=(bc_ BK265.out 1).trans rfl
              have hcz30_2:wr.cell? ⟨gb265,2,none⟩ = some (.slice A0_2 l0_2.length c0_2):=(bc_ BK265.out 2).trans rfl
              have hcz30_3:wr.cell? ⟨gb265,3,none⟩ = some (.slice A0_3 l0_3.length c0_3):=(bc_ BK265.out 3).trans rfl
              have hfz30_0:=bz_ BK265.out 0
              have hfz30_1:=bz_ BK265.out 1
              have hfz30_2:=bz_ BK265.out 2
              have hfz30_3:=bz_ BK265.out 3
              go_wp2
              go_roundg k4
              case measure => have:=HK1.out; have:=HJ3.out; have:=HK3.out; have:=HK4.out; omega
              case rel => exact ⟨(x3_4),(wrap64 (x4_1 + 1)),rs_,rs_,H',⟨by have:=HK1.out; have:=HJ3.out; have:=HK3.out; have:=HK4.out; omega⟩,⟨bk_ BK265.out⟩,⟨bl1_ HB.out GE265.out⟩⟩
          ·rw [if_neg c19] at H
           exact absurd H (by simp)
   ·rw [if_neg c3] at H
    have c3b0:decide (x4_1 ≤ a0_1) = false:=decide_eq_false c3
    clear c3
    obtain rfl:=Option.some.inj H
    have hcz31_0:wr.cell? ⟨gb265,0,none⟩ = some (.int .i64 a0_0):=(bc_ BK265.out 0).trans rfl
    have hcz31_1:wr.cell? ⟨gb265,1,none⟩ = some (.int .i64 a0_1):=(bc_ BK265.out 1).trans rfl
    have hcz31_2:wr.cell? ⟨gb265,2,none⟩ = some (.slice A0_2 l0_2.length c0_2):=(bc_ BK265.out 2).trans rfl
    have hcz31_3:wr.cell? ⟨gb265,3,none⟩ = some (.slice A0_3 l0_3.length c0_3):=(bc_ BK265.out 3).trans rfl
    have hfz31_0:=bz_ BK265.out 0
    have hfz31_1:=bz_ BK265.out 1
    have hfz31_2:=bz_ BK265.out 2
    have hfz31_3:=bz_ BK265.out 3
    go_wp2
    go_ret
    exact ⟨er_,bl1_ HB.out GE265.out⟩


def spec_FirstToTake.l0:Nat → ByteArray → List Int → Int → Int → Int → Int → List Int → List Int → Int → Int → List Int → List Int → Option (Int × Int × List Int × List Int × Bool)
 | 0,_,_,_,_,_,_,_,_,_,_,_,_ => none
 | k + 1,x5,x16,x17,x18,x269000,x269001,x269002,x269003,x272000,x272001,x272002,x272003 => if x18 < x17 then (if 0 ≤ x18 then (if x18 < (x16.length:Int) then ((spec_sqFigure.f k x269000 x269001 (rd x16 x18)).bind fun bt276 => ((spec_fiText.f k bt276.1 bt276.2.1 bt276.2.2.1 bt276.2.2.2).bind fun t285 => (if x5.toList = ([]:List UInt8) then (spec_FirstToTake.l0 k t285 x16 x17 (wrap64 (x18 + 1)) x269000 x269001 x269002 x269003 bt276.1 bt276.2.1 bt276.2.2.1 bt276.2.2.2) else (if (Op.bytesLess t285.toList x5.toList) = true then (spec_FirstToTake.l0 k t285 x16 x17 (wrap64 (x18 + 1)) x269000 x269001 x269002 x269003 bt276.1 bt276.2.1 bt276.2.2.1 bt276.2.2.2) else (spec_FirstToTake.l0 k x5 x16 x17 (wrap64 (x18 + 1)) x269000 x269001 x269002 x269003 x272000 x272001 x272002 x272003))))) else (none)) else (none)) else (some (x272000,x272001,x272002,x272003,true))
def spec_FirstToTake.f (k:Nat) (a0_0:Int) (a0_1:Int) (l0_2:List Int) (l0_3:List Int):Option (Int × Int × List Int × List Int × Bool):=(spec_sqFew.f k a0_0 a0_1 l0_2 l0_3).bind fun t270 => (if t270 = true then ((spec_sqLeft.f k a0_0 a0_1 l0_2 l0_3).bind fun t272 => (spec_FirstToTake.l0 k (⟨#[]⟩:ByteArray) t272 (t272.length:Int) 0 a0_0 a0_1 l0_2 l0_3 0 0 ([]:List Int) ([]:List Int))) else (some (0,0,([]:List Int),([]:List Int),false)))
theorem spec_FirstToTake.mono_l:∀ k,(∀ y0 y1 y2 y3 y4 y5 y6 y7 y8 y9 y10 y11,LeO (spec_FirstToTake.l0 k y0 y1 y2 y3 y4 y5 y6 y7 y8 y9 y10 y11) (spec_FirstToTake.l0 (k + 1) y0 y1 y2 y3 y4 y5 y6 y7 y8 y9 y10 y11))
 | 0 => fun _ _ _ _ _ _ _ _ _ _ _ _ r h => by simp [spec_FirstToTake.l0] at h
 | k + 1 => by
  have ih0:=spec_FirstToTake.mono_l k
  ·intro y0 y1 y2 y3 y4 y5 y6 y7 y8 y9 y10 y11
   unfold spec_FirstToTake.l0
   repeat' first | (with_reducible first | exact ih0 _ _ _ _ _ _ _ _ _ _ _ _ | exact spec_fiText.mono _ _ _ _ _ | exact spec_sqFew.mono _ _ _ _ _ | exact spec_sqFigure.mono _ _ _ _ | exact spec_sqLeft.mono _ _ _ _ _ | exact LeO.refl _ | exact LeO.none _ | refine LeO.ite ?_ ?_ | refine LeO.bind ?_ (fun _ => ?_)) | exact ih0 _ _ _ _ _ _ _ _ _ _ _ _ | exact spec_fiText.mono _ _ _ _ _ | exact spec_sqFew.mono _ _ _ _ _ | exact spec_sqFigure.mono _ _ _ _ | exact spec_sqLeft.mono _ _ _ _ _
theorem spec_FirstToTake.mono:∀ a0 a1 a2 a3 k,LeO (spec_FirstToTake.f k a0 a1 a2 a3) (spec_FirstToTake.f (k + 1) a0 a1 a2 a3):=by
 intro a0 a1 a2 a3 k
 have ih0:=spec_FirstToTake.mono_l k
 unfold spec_FirstToTake.f
 repeat' first | (with_reducible first | exact ih0 _ _ _ _ _ _ _ _ _ _ _ _ | exact spec_fiText.mono _ _ _ _ _ | exact spec_sqFew.mono _ _ _ _ _ | exact spec_sqFigure.mono _ _ _ _ | exact spec_sqLeft.mono _ _ _ _ _ | exact LeO.refl _ | exact LeO.none _ | refine LeO.ite ?_ ?_ | refine LeO.bind ?_ (fun _ => ?_)) | exact ih0 _ _ _ _ _ _ _ _ _ _ _ _ | exact spec_fiText.mono _ _ _ _ _ | exact spec_sqFew.mono _ _ _ _ _ | exact spec_sqFigure.mono _ _ _ _ | exact spec_sqLeft.mono _ _ _ _ _
set_option maxHeartbeats 8000000 in
set_option maxRecDepth 100000 in
theorem spec_FirstToTake.calls (k:Nat) (a0_0:Int) (a0_1:Int) (A0_2:Option Addr) (c0_2:Nat) (l0_2:List Int) (A0_3:Option Addr) (c0_3:Nat) (l0_3:List Int) (r1:Int) (r2:Int) (r3:List Int) (r4:List Int) (r5:Bool) (w:World) (hr0_2:Kd.C (Kd.int .i64) w A0_2 l0_2.length l0_2) (hc0_2:l0_2.length ≤ c0_2) (hr0_3:Kd.C (Kd.int .i64) w A0_3 l0_3.length l0_3) (hc0_3:l0_3.length ≤ c0_3) (h:spec_FirstToTake.f k a0_0 a0_1 l0_2 l0_3 = some (r1,r2,r3,r4,r5)) :
  Calls Tryd.prog 28 #[.agg #[.int .i64 a0_0,.int .i64 a0_1,.slice A0_2 l0_2.length c0_2,.slice A0_3 l0_3.length c0_3]] w fun e w' => ∃ v2_ v3_:Value,e = .returned (.tuple #[.agg #[.int .i64 r1,.int .i64 r2,v2_,v3_],.bool r5]) ∧ Kd.R (Kd.int .i64) 3 w' w.heap.size (fun k_ => some k_ ≠ (v3_:Value).ownBlock) v2_ r3 ∧ Kd.R (Kd.int .i64) 3 w' w.heap.size (fun k_ => some k_ ≠ (v2_:Value).ownBlock) v3_ r4 ∧ Below w.heap.size w w':=by
 have hu36:=Tryd.underlying36
 have HR0_2:=am_ hr0_2
 have HC0_2:=am_ hc0_2
 clear hr0_2 hc0_2
 have HR0_3:=am_ hr0_3
 have HC0_3:=am_ hc0_3
 clear hr0_3 hc0_3
 have HB:=am_ (Below.refl w.heap.size w)
 have H:((spec_sqFew.f k a0_0 a0_1 l0_2 l0_3).bind fun t270 => (if t270 = true then ((spec_sqLeft.f k a0_0 a0_1 l0_2 l0_3).bind fun t272 => (spec_FirstToTake.l0 k (⟨#[]⟩:ByteArray) t272 (t272.length:Int) 0 a0_0 a0_1 l0_2 l0_3 0 0 ([]:List Int) ([]:List Int))) else (some (0,0,([]:List Int),([]:List Int),false)))) = some (r1,r2,r3,r4,r5):=h
 clear h
 replace H:=bi_ H
 obtain ⟨t270,A20,H⟩:=H
 replace H:(if t270 = true then ((spec_sqLeft.f k a0_0 a0_1 l0_2 l0_3).bind fun t272 => (spec_FirstToTake.l0 k (⟨#[]⟩:ByteArray) t272 (t272.length:Int) 0 a0_0 a0_1 l0_2 l0_3 0 0 ([]:List Int) ([]:List Int))) else (some (0,0,([]:List Int),([]:List Int),false))) = some (r1,r2,r3,r4,r5):=H
 have A2:=am_ A20
 clear A20
 by_cases c3:t270 = true
 ·subst c3
  have H1:((spec_sqLeft.f k a0_0 a0_1 l0_2 l0_3).bind fun t272 => (spec_FirstToTake.l0 k (⟨#[]⟩:ByteArray) t272 (t272.length:Int) 0 a0_0 a0_1 l0_2 l0_3 0 0 ([]:List Int) ([]:List Int))) = some (r1,r2,r3,r4,r5):=by rw [if_pos rfl] at H; exact H
  clear H
  have H:=H1
  clear H1
  replace H:=bi_ H
  obtain ⟨t272,A40,H⟩:=H
  replace H:(spec_FirstToTake.l0 k (⟨#[]⟩:ByteArray) t272 (t272.length:Int) 0 a0_0 a0_1 l0_2 l0_3 0 0 ([]:List Int) ([]:List Int)) = some (r1,r2,r3,r4,r5):=H
  have A4:=am_ A40
  clear A40
  have H':=am_ H
  clear H
  go_enter Tryd.func28,Tryd.ntmps28
  go_wp2_with (first | ((with_reducible refine gate_dst (N:=1) rfl ?_); refine boxE_ (N:=1) (cs:=#[.int .i64 a0_0,.int .i64 a0_1,.slice A0_2 l0_2.length c0_2,.slice A0_3 l0_3.length c0_3]) (t:=36) ?_; intro gb268 hg w5 hbox hb; have n0_:=am_ (below_step (bl0_ HB.out) hb); have n1_:=am_ (hbox); have n2_:=am_ ((bs0_ hg HB.out:w.heap.size ≤ gb268)); have n3_:=am_ ((bs0_ hg HB.out:w.heap.size ≤ gb268)); clear HB; have HB:=n0_; have BK268:=n1_; have GW268:=n2_; have GE268:=n3_; clear n0_ n1_ n2_ n3_; clear hb hbox hg) | ((with_reducible refine gate_dst (N:=2) rfl ?_); refine boxE_ (N:=2) (cs:=#[.int .i64 0,.int .i64 0,.slice none 0 0,.slice none 0 0]) (t:=36) ?_; intro gb269 hg w6 hbox hb; have n0_:=am_ (bb_ BK268.out hb); have n1_:=am_ (below_step (bl1_ HB.out GE268.out) hb); have n2_:=am_ (hbox); have n3_:=am_ ((bs1_ hg HB.out GE268.out:w.heap.size ≤ gb269)); have n4_:=am_ ((bs1_ hg HB.out GE268.out:w.heap.size ≤ gb269)); have n5_:=am_ ((nl_ hg BK268.out:gb268 ≠ gb269)); have n6_:=am_ ((ng_ hg BK268.out:gb269 ≠ gb268)); clear BK268; clear HB; have BK268:=n0_; have HB:=n1_; have BK269:=n2_; have GW269:=n3_; have GE269:=n4_; have NB268_269:=n5_; have NB269_268:=n6_; clear n0_ n1_ n2_ n3_ n4_ n5_ n6_; clear hb hbox hg; have hnb7:=NB268_269.out; have hnc7:=NB269_268.out; have hcz8_0:w6.cell? ⟨gb268,0,none⟩ = some (.int .i64 a0_0):=(bc_ BK268.out 0).trans rfl; have hcz8_1:w6.cell? ⟨gb268,1,none⟩ = some (.int .i64 a0_1):=(bc_ BK268.out 1).trans rfl; have hcz8_2:w6.cell? ⟨gb268,2,none⟩ = some (.slice A0_2 l0_2.length c0_2):=(bc_ BK268.out 2).trans rfl; have hcz8_3:w6.cell? ⟨gb268,3,none⟩ = some (.slice A0_3 l0_3.length c0_3):=(bc_ BK268.out 3).trans rfl; have hfz8_0:=bz_ BK268.out 0; have hfz8_1:=bz_ BK268.out 1; have hfz8_2:=bz_ BK268.out 2; have hfz8_3:=bz_ BK268.out 3) | ((with_reducible refine gate_callee (f:=44) rfl ?_); refine goesL_ (some 11) rfl rfl Tryd.func44 (by kernel_rfl) rfl #[.agg #[.int .i64 a0_0,.int .i64 a0_1,.slice A0_2 l0_2.length c0_2,.slice A0_3 l0_3.length c0_3]] rfl ob_ ?_; (with_reducible refine (spec_sqFew.calls k a0_0 a0_1 _ _ l0_2 _ _ l0_3 true _ ?side1 ?side2 ?side3 ?side4 A2.out).mono ?_); (case side1 => exact kc_ (Kd.C_below HR0_2.out HB.out)); (case side2 => exact HC0_2.out); (case side3 => exact kc_ (Kd.C_below HR0_3.out HB.out)); (case side4 => exact HC0_3.out); rintro e w9 ⟨rfl,hb⟩; refine ⟨_,rfl,?_⟩; have n0_:=am_ (bb_ BK268.out hb); have n1_:=am_ (bb_ BK269.out hb); have n2_:=am_ (below_step (bl2_ HB.out GE268.out GE269.out) hb); clear BK268; clear BK269; clear HB; have BK268:=n0_; have BK269:=n1_; have HB:=n2_; clear n0_ n1_ n2_; (try clear hb); (try clear hb2); (try clear hk); (try clear hi)) | ((with_reducible refine gate_dst (N:=4) rfl ?_); refine boxE_ (N:=4) (cs:=#[.int .i64 0,.int .i64 0,.slice none 0 0,.slice none 0 0]) (t:=36) ?_; intro gb271 hg w10 hbox hb; have n0_:=am_ (bb_ BK268.out hb); have n1_:=am_ (bb_ BK269.out hb); have n2_:=am_ (below_step (bl2_ HB.out GE268.out GE269.out) hb); have n3_:=am_ (hbox); have n4_:=am_ ((bs2_ hg HB.out GE268.out GE269.out:w.heap.size ≤ gb271)); have n5_:=am_ ((bs2_ hg HB.out GE268.out GE269.out:w.heap.size ≤ gb271)); have n6_:=am_ ((nl_ hg BK268.out:gb268 ≠ gb271)); have n7_:=am_ ((ng_ hg BK268.out:gb271 ≠ gb268)); have n8_:=am_ ((nl_ hg BK269.out:gb269 ≠ gb271)); have n9_:=am_ ((ng_ hg BK269.out:gb271 ≠ gb269)); clear BK268; clear BK269; clear HB; have BK268:=n0_; have BK269:=n1_; have HB:=n2_; have BK271:=n3_; have GW271:=n4_; have GE271:=n5_; have NB268_271:=n6_; have NB271_268:=n7_; have NB269_271:=n8_; have NB271_269:=n9_; clear n0_ n1_ n2_ n3_ n4_ n5_ n6_ n7_ n8_ n9_; clear hb hbox hg; have hnb11:=NB271_268.out; have hnc11:=NB268_271.out; have hnb12:=NB271_269.out; have hnc12:=NB269_271.out; have hcz13_0:w10.cell? ⟨gb271,0,none⟩ = some (.int .i64 0):=(bc_ BK271.out 0).trans rfl; have hcz13_1:w10.cell? ⟨gb271,1,none⟩ = some (.int .i64 0):=(bc_ BK271.out 1).trans rfl; have hcz13_2:w10.cell? ⟨gb271,2,none⟩ = some (.slice none 0 0):=(bc_ BK271.out 2).trans rfl; have hcz13_3:w10.cell? ⟨gb271,3,none⟩ = some (.slice none 0 0):=(bc_ BK271.out 3).trans rfl; have hfz13_0:=bz_ BK271.out 0; have hfz13_1:=bz_ BK271.out 1; have hfz13_2:=bz_ BK271.out 2; have hfz13_3:=bz_ BK271.out 3; have hcz14_0:w10.cell? ⟨gb268,0,none⟩ = some (.int .i64 a0_0):=(bc_ BK268.out 0).trans rfl; have hcz14_1:w10.cell? ⟨gb268,1,none⟩ = some (.int .i64 a0_1):=(bc_ BK268.out 1).trans rfl; have hcz14_2:w10.cell? ⟨gb268,2,none⟩ = some (.slice A0_2 l0_2.length c0_2):=(bc_ BK268.out 2).trans rfl; have hcz14_3:w10.cell? ⟨gb268,3,none⟩ = some (.slice A0_3 l0_3.length c0_3):=(bc_ BK268.out 3).trans rfl; have hfz14_0:=bz_ BK268.out 0; have hfz14_1:=bz_ BK268.out 1; have hfz14_2:=bz_ BK268.out 2; have hfz14_3:=bz_ BK268.out 3) | ((with_reducible refine gate_callee (f:=45) rfl ?_); refine goesL_ (some 16) rfl rfl Tryd.func45 (by kernel_rfl) rfl #[.agg #[.int .i64 a0_0,.int .i64 a0_1,.slice A0_2 l0_2.length c0_2,.slice A0_3 l0_3.length c0_3]] rfl ob_ ?_; (with_reducible refine (spec_sqLeft.calls k a0_0 a0_1 _ _ l0_2 _ _ l0_3 t272 _ ?side1 ?side2 ?side3 ?side4 A4.out).mono ?_); (case side1 => exact Kd.C_below HR0_2.out (bl3_ HB.out GE268.out GE269.out GE271.out)); (case side2 => exact HC0_2.out); (case side3 => exact Kd.C_below HR0_3.out (bl3_ HB.out GE268.out GE269.out GE271.out)); (case side4 => exact HC0_3.out); rintro e w15 ⟨v273,rfl,ho0,hb⟩; refine ⟨_,rfl,?_⟩; have n0_:=am_ (Kd.R_lower ho0 (below_size (bl3_ HB.out GE268.out GE269.out GE271.out))); have n1_:=am_ (blk_below (g:=gb268) (o:=.cells #[.int .i64 a0_0,.int .i64 a0_1,.slice A0_2 l0_2.length c0_2,.slice A0_3 l0_3.length c0_3] 36 (0,0)) (bf4_ NB268_271.out NB268_271.out NB268_271.out NB268_271.out BK268.out) hb); have n2_:=am_ (blk_below (g:=gb269) (o:=.cells #[.int .i64 0,.int .i64 0,.slice none 0 0,.slice none 0 0] 36 (0,0)) (bf4_ NB269_271.out NB269_271.out NB269_271.out NB269_271.out BK269.out) hb); have n3_:=am_ (blk_below (g:=gb271) (o:=.cells #[.int .i64 0,.int .i64 0,.slice none 0 0,.slice none 0 0] 36 (0,0)) (by (with_reducible repeat (first | refine blk_drewN ?_ _ | refine blk_drew ?_ | refine blk_alloc ?_ _)); refine blk_put (cs:=#[.int .i64 0,.int .i64 0,.slice none 0 0,.slice none 0 0]) ?_ 3 _ rfl; (with_reducible repeat (first | refine blk_drewN ?_ _ | refine blk_drew ?_ | refine blk_alloc ?_ _)); refine blk_put (cs:=#[.int .i64 0,.int .i64 0,.slice none 0 0,.slice none 0 0]) ?_ 2 _ rfl; (with_reducible repeat (first | refine blk_drewN ?_ _ | refine blk_drew ?_ | refine blk_alloc ?_ _)); refine blk_put (cs:=#[.int .i64 0,.int .i64 0,.slice none 0 0,.slice none 0 0]) ?_ 1 _ rfl; (with_reducible repeat (first | refine blk_drewN ?_ _ | refine blk_drew ?_ | refine blk_alloc ?_ _)); refine blk_put (cs:=#[.int .i64 0,.int .i64 0,.slice none 0 0,.slice none 0 0]) ?_ 0 _ rfl; (with_reducible repeat (first | refine blk_drewN ?_ _ | refine blk_drew ?_ | refine blk_alloc ?_ _)); exact BK271.out) hb); have n4_:=am_ (below_step (bl3_ HB.out GE268.out GE269.out GE271.out) hb); clear BK268; clear BK269; clear BK271; clear HB; have HO274:=n0_; have BK268:=n1_; have BK269:=n2_; have BK271:=n3_; have HB:=n4_; clear n0_ n1_ n2_ n3_ n4_; (try clear hb); (try clear hb2); (try clear hk); (try clear hi); (try clear ho0); obtain ⟨Ao16,co16,eo16⟩:=Kd.R_slice HO274.out; subst eo16))
  go_loopg [5,18] k (fun kq v5 v18 w' => ∃ (x5_1:ByteArray) (x18_1:Int) (x272000_1:Int) (x272001_1:Int) (x272002_1:List Int) (x272003_1:List Int) (u272002:Value) (u272003:Value),v5 = .string x5_1 ∧ v18 = .int .i64 x18_1 ∧ Aside0 (spec_FirstToTake.l0 kq x5_1 t272 (t272.length:Int) x18_1 a0_0 a0_1 l0_2 l0_3 x272000_1 x272001_1 x272002_1 x272003_1 = some (r1,r2,r3,r4,r5)) ∧ Aside0 (kq ≤ k) ∧ Aside0 (Kd.R (Kd.int .i64) 3 w' w.heap.size (fun k_ => some k_ ≠ (u272002:Value).ownBlock ∧ some k_ ≠ (u272003:Value).ownBlock) (.slice Ao16 t272.length co16) t272) ∧ Aside0 (Kd.R (Kd.int .i64) 3 w' w.heap.size (fun k_ => some k_ ≠ ((.slice Ao16 t272.length co16):Value).ownBlock ∧ some k_ ≠ (u272003:Value).ownBlock) u272002 x272002_1) ∧ Aside0 (Kd.R (Kd.int .i64) 3 w' w.heap.size (fun k_ => some k_ ≠ ((.slice Ao16 t272.length co16):Value).ownBlock ∧ some k_ ≠ (u272002:Value).ownBlock) u272003 x272003_1) ∧ Aside0 (w'.heap[gb268]? = some (.cells #[.int .i64 a0_0,.int .i64 a0_1,(.slice A0_2 l0_2.length c0_2),(.slice A0_3 l0_3.length c0_3)] 36 (0,0))) ∧ Aside0 (w'.heap[gb269]? = some (.cells #[.int .i64 0,.int .i64 0,(.slice none 0 0),(.slice none 0 0)] 36 (0,0))) ∧ Aside0 (w'.heap[gb271]? = some (.cells #[.int .i64 x272000_1,.int .i64 x272001_1,u272002,u272003] 36 (0,0))) ∧ Aside0 (Below w.heap.size w w'))
  case atStart => exact ⟨((⟨#[]⟩:ByteArray)),(0),(0),(0),(([]:List Int)),(([]:List Int)),(.slice none 0 0),(.slice none 0 0),rs_,rs_,H',⟨Nat.le_refl _⟩,⟨by (with_reducible repeat (first | apply Kd.R_alloc | apply Kd.R_drewN | apply Kd.R_drew)); exact Kd.R_mono HO274.out (fun _ hk => ⟨(by simp [Value.ownBlock]),(by simp [Value.ownBlock])⟩)⟩,⟨by first | exact Kd.R_nil _ _ _ _ _ | exact Kd.N_nil _ _ _ _ _ | exact Kd.V_nil _ _ _ _ _ | exact Kd.Q_nil _ _ _ _ _ | exact Kd.S_nil _ _ _ _ _⟩,⟨by first | exact Kd.R_nil _ _ _ _ _ | exact Kd.N_nil _ _ _ _ _ | exact Kd.V_nil _ _ _ _ _ | exact Kd.Q_nil _ _ _ _ _ | exact Kd.S_nil _ _ _ _ _⟩,⟨bk_ BK268.out⟩,⟨bk_ BK269.out⟩,⟨bk_ BK271.out⟩,⟨bl3_ HB.out GE268.out GE269.out GE271.out⟩⟩
  case round =>
   clear H'
   try clear c1
   try clear c2
   try clear p2
   try clear c3
   try clear c4
   try clear c7
   try clear c11
   try clear c12
   try clear hcz13_0
   try clear hcz13_1
   try clear hcz13_2
   try clear hcz13_3
   try clear hcz14_0
   try clear hcz14_1
   try clear hcz14_2
   try clear hcz14_3
   try clear hcz8_0
   try clear hcz8_1
   try clear hcz8_2
   try clear hcz8_3
   try clear hfz13_0
   try clear hfz13_1
   try clear hfz13_2
   try clear hfz13_3
   try clear hfz14_0
   try clear hfz14_1
   try clear hfz14_2
   try clear hfz14_3
   try clear hfz8_0
   try clear hfz8_1
   try clear hfz8_2
   try clear hfz8_3
   obtain ⟨x5_1,x18_1,x272000_1,x272001_1,x272002_1,x272003_1,u272002,u272003,rfl,rfl,HA,HK1,HO_16,HO_272002,HO_272003,BK268,BK269,BK271,HB⟩:=hrel
   cases gk with
   | zero => exact absurd HA.out (by simp [spec_FirstToTake.l0])
   | succ k1 =>
    have H:=HA.out
    clear HA
    simp only [spec_FirstToTake.l0] at H
    by_cases c17:x18_1 < (t272.length:Int)
    ·rw [if_pos c17] at H
     have c17b0:decide (x18_1 < (t272.length:Int)) = true:=decide_eq_true c17
     clear c17
     by_cases c18:0 ≤ x18_1
     ·rw [if_pos c18] at H
      have c18b0:decide (0 ≤ x18_1) = true:=decide_eq_true c18
      clear c18
      by_cases c19:x18_1 < (t272.length:Int)
      ·rw [if_pos c19] at H
       have c19b0:decide (x18_1 < (t272.length:Int)) = true:=decide_eq_true c19
       clear c19
       replace H:=bi_ H
       obtain ⟨⟨t276,t277,t278,t281⟩,A200,H⟩:=H
       replace H:((spec_fiText.f k1 t276 t277 t278 t281).bind fun t285 => (if x5_1.toList = ([]:List UInt8) then (spec_FirstToTake.l0 k1 t285 t272 (t272.length:Int) (wrap64 (x18_1 + 1)) a0_0 a0_1 l0_2 l0_3 t276 t277 t278 t281) else (if (Op.bytesLess t285.toList x5_1.toList) = true then (spec_FirstToTake.l0 k1 t285 t272 (t272.length:Int) (wrap64 (x18_1 + 1)) a0_0 a0_1 l0_2 l0_3 t276 t277 t278 t281) else (spec_FirstToTake.l0 k1 x5_1 t272 (t272.length:Int) (wrap64 (x18_1 + 1)) a0_0 a0_1 l0_2 l0_3 x272000_1 x272001_1 x272002_1 x272003_1)))) = some (r1,r2,r3,r4,r5):=H
       have A20:=am_ A200
       clear A200
       replace H:=bi_ H
       obtain ⟨t285,A210,H⟩:=H
       replace H:(if x5_1.toList = ([]:List UInt8) then (spec_FirstToTake.l0 k1 t285 t272 (t272.length:Int) (wrap64 (x18_1 + 1)) a0_0 a0_1 l0_2 l0_3 t276 t277 t278 t281) else (if (Op.bytesLess t285.toList x5_1.toList) = true then (spec_FirstToTake.l0 k1 t285 t272 (t272.length:Int) (wrap64 (x18_1 + 1)) a0_0 a0_1 l0_2 l0_3 t276 t277 t278 t281) else (spec_FirstToTake.l0 k1 x5_1 t272 (t272.length:Int) (wrap64 (x18_1 + 1)) a0_0 a0_1 l0_2 l0_3 x272000_1 x272001_1 x272002_1 x272003_1))) = some (r1,r2,r3,r4,r5):=H
       have A21:=am_ A210
       clear A210
       by_cases c22:x5_1.toList = ([]:List UInt8)
       ·rw [if_pos c22] at H
        have c22b0:(x5_1.toList == ([]:List UInt8)) = true:=beq_iff_eq.mpr c22
        have c22b1:(x5_1.toList != ([]:List UInt8)) = false:=bne_eq_false_iff_eq.mpr c22
        clear c22
        have H':=am_ H
        clear H
        have p275:0 ≤ (x18_1:Int):=of_decide_eq_true as_
        have q275:x18_1 < (t272.length:Int):=of_decide_eq_true as_
        obtain ⟨ad275,e275,hx275_0⟩:=Kd.at_int (Kd.R_reads' HO_16.out).2.2 x18_1 p275 q275
        cases e275
        replace p275:=eq_true p275
        replace q275:=eq_true q275
        have hnb23:=NB268_269.out
        have hnc23:=NB269_268.out
        have hnb24:=NB268_271.out
        have hnc24:=NB271_268.out
        have hcz25_0:wr.cell? ⟨gb268,0,none⟩ = some (.int .i64 a0_0):=(bc_ BK268.out 0).trans rfl
        have hcz25_1:wr.cell? ⟨gb268,1,none⟩ = some (.int .i64 a0_1):=(bc_ BK268.out 1).trans rfl
        have hcz25_2:wr.cell? ⟨gb268,2,none⟩ = some (.slice A0_2 l0_2.length c0_2):=(bc_ BK268.out 2).trans rfl
        have hcz25_3:wr.cell? ⟨gb268,3,none⟩ = some (.slice A0_3 l0_3.length c0_3):=(bc_ BK268.out 3).trans rfl
        have hfz25_0:=bz_ BK268.out 0
        have hfz25_1:=bz_ BK268.out 1
        have hfz25_2:=bz_ BK268.out 2
        have hfz25_3:=bz_ BK268.out 3
        go_wp2_with (first | ((with_reducible refine gate_callee (f:=69) rfl ?_); refine goesL_ (some 27) rfl rfl Tryd.func69 (by kernel_rfl) rfl #[.int .i64 a0_0,.int .i64 a0_1,.int .i64 (rd t272 x18_1)] rfl ob_ ?_; (with_reducible refine (spec_sqFigure.calls k1 a0_0 a0_1 (rd t272 x18_1) t276 t277 t278 t281 _ A20.out).mono ?_); rintro e w26 ⟨v279,v282,rfl,ho0,ho1,hb⟩; refine ⟨_,rfl,?_⟩; have n0_:=am_ (Kd.R_mono (Kd.R_told (Kd.R_told (Kd.R_old (kr_ HO_16.out) hb) (Kd.R_base ho0)) (Kd.R_base ho1)) (fun _ h_ => h_.1)); have n1_:=am_ (Kd.R_mono (Kd.R_told (Kd.R_told (Kd.R_old (kr_ HO_272002.out) hb) (Kd.R_base ho0)) (Kd.R_base ho1)) (fun _ h_ => h_.1)); have n2_:=am_ (Kd.R_mono (Kd.R_told (Kd.R_told (Kd.R_old (kr_ HO_272003.out) hb) (Kd.R_base ho0)) (Kd.R_base ho1)) (fun _ h_ => h_.1)); have n3_:=am_ (Kd.R_lower (Kd.R_new' (Kd.R_new' (Kd.R_new' ho0 (Kd.R_lt (kr_ HO_16.out))) (Kd.R_lt (kr_ HO_272002.out))) (Kd.R_lt (kr_ HO_272003.out))) (below_size (bl3_ HB.out GE268.out GE269.out GE271.out))); have n4_:=am_ (Kd.R_lower (Kd.R_new' (Kd.R_new' (Kd.R_new' ho1 (Kd.R_lt (kr_ HO_16.out))) (Kd.R_lt (kr_ HO_272002.out))) (Kd.R_lt (kr_ HO_272003.out))) (below_size (bl3_ HB.out GE268.out GE269.out GE271.out))); have n5_:=am_ (bb_ BK268.out hb); have n6_:=am_ (bb_ BK269.out hb); have n7_:=am_ (bb_ BK271.out hb); have n8_:=am_ (below_step (bl3_ HB.out GE268.out GE269.out GE271.out) hb); clear HO_16; clear HO_272002; clear HO_272003; clear BK268; clear BK269; clear BK271; clear HB; have HO_16:=n0_; have HO_272002:=n1_; have HO_272003:=n2_; have HO280:=n3_; have HO283:=n4_; have BK268:=n5_; have BK269:=n6_; have BK271:=n7_; have HB:=n8_; clear n0_ n1_ n2_ n3_ n4_ n5_ n6_ n7_ n8_; (try clear hb); (try clear hb2); (try clear hk); (try clear hi); (try clear ho0); (try clear ho1)) | ((with_reducible refine gate_dst (N:=8) rfl ?_); refine boxE_ (N:=8) (cs:=#[.int .i64 0,.int .i64 0,.slice none 0 0,.slice none 0 0]) (t:=36) ?_; intro gb284 hg w27 hbox hb; have n0_:=am_ (Kd.R_below (kr_ HO_16.out) hb); have n1_:=am_ (Kd.R_below (kr_ HO_272002.out) hb); have n2_:=am_ (Kd.R_below (kr_ HO_272003.out) hb); have n3_:=am_ (Kd.R_below (kr_ HO280.out) hb); have n4_:=am_ (Kd.R_below (kr_ HO283.out) hb); have n5_:=am_ (bb_ BK268.out hb); have n6_:=am_ (bb_ BK269.out hb); have n7_:=am_ (bb_ BK271.out hb); have n8_:=am_ (below_step (bl3_ HB.out GE268.out GE269.out GE271.out) hb); have n9_:=am_ (hbox); have n10_:=am_ ((bs3_ hg HB.out GE268.out GE269.out GE271.out:w.heap.size ≤ gb284)); have n11_:=am_ ((bs3_ hg HB.out GE268.out GE269.out GE271.out:w.heap.size ≤ gb284)); have n12_:=am_ ((nl_ hg BK268.out:gb268 ≠ gb284)); have n13_:=am_ ((ng_ hg BK268.out:gb284 ≠ gb268)); have n14_:=am_ ((nl_ hg BK269.out:gb269 ≠ gb284)); have n15_:=am_ ((ng_ hg BK269.out:gb284 ≠ gb269)); have n16_:=am_ ((nl_ hg BK271.out:gb271 ≠ gb284)); have n17_:=am_ ((ng_ hg BK271.out:gb284 ≠ gb271)); clear HO_16; clear HO_272002; clear HO_272003; clear HO280; clear HO283; clear BK268; clear BK269; clear BK271; clear HB; have HO_16:=n0_; have HO_272002:=n1_; have HO_272003:=n2_; have HO280:=n3_; have HO283:=n4_; have BK268:=n5_; have BK269:=n6_; have BK271:=n7_; have HB:=n8_; have BK284:=n9_; have GW284:=n10_; have GE284:=n11_; have NB268_284:=n12_; have NB284_268:=n13_; have NB269_284:=n14_; have NB284_269:=n15_; have NB271_284:=n16_; have NB284_271:=n17_; clear n0_ n1_ n2_ n3_ n4_ n5_ n6_ n7_ n8_ n9_ n10_ n11_ n12_ n13_ n14_ n15_ n16_ n17_; clear hb hbox hg; have hnb28:=NB284_268.out; have hnc28:=NB268_284.out; have hnb29:=NB284_269.out; have hnc29:=NB269_284.out; have hnb30:=NB284_271.out; have hnc30:=NB271_284.out; have hcz31_0:w27.cell? ⟨gb284,0,none⟩ = some (.int .i64 0):=(bc_ BK284.out 0).trans rfl; have hcz31_1:w27.cell? ⟨gb284,1,none⟩ = some (.int .i64 0):=(bc_ BK284.out 1).trans rfl; have hcz31_2:w27.cell? ⟨gb284,2,none⟩ = some (.slice none 0 0):=(bc_ BK284.out 2).trans rfl; have hcz31_3:w27.cell? ⟨gb284,3,none⟩ = some (.slice none 0 0):=(bc_ BK284.out 3).trans rfl; have hfz31_0:=bz_ BK284.out 0; have hfz31_1:=bz_ BK284.out 1; have hfz31_2:=bz_ BK284.out 2; have hfz31_3:=bz_ BK284.out 3; obtain ⟨Ao32,co32,eo32⟩:=Kd.R_slice HO280.out; subst eo32; obtain ⟨Ao33,co33,eo33⟩:=Kd.R_slice HO283.out; subst eo33) | ((with_reducible refine gate_callee (f:=70) rfl ?_); refine goesL_ (some 29) rfl rfl Tryd.func70 (by kernel_rfl) rfl #[.agg #[.int .i64 t276,.int .i64 t277,.slice Ao32 t278.length co32,.slice Ao33 t281.length co33]] rfl ob_ ?_; (with_reducible refine (spec_fiText.calls k1 t276 t277 _ _ t278 _ _ t281 t285 _ ?side1 ?side2 ?side3 ?side4 A21.out).mono ?_); (case side1 => refine (Kd.R_reads' (e:=3) (base:=w.heap.size) (ok:=fun k_ => (((some k_ ≠ (.slice Ao33 t281.length co33:Value).ownBlock ∧ some k_ ≠ (.slice (some ad275) t272.length co16:Value).ownBlock) ∧ some k_ ≠ (u272002:Value).ownBlock) ∧ some k_ ≠ (u272003:Value).ownBlock)) (n:=t278.length) (c:=co32) ?_).2.2; exact (by (with_reducible repeat (first | apply Kd.R_alloc | apply Kd.R_drewN | apply Kd.R_drew)); exact (Kd.R_mono (Kd.R_far (p:=⟨gb284,3,none⟩) (Kd.R_far (p:=⟨gb284,2,none⟩) (Kd.R_far (p:=⟨gb284,1,none⟩) (Kd.R_far (p:=⟨gb284,0,none⟩) (Kd.R_types HO280.out BK284.out (by decide)) (fun _ hk => hk.2) (.int .i64 t276)) (fun _ hk => hk.2) (.int .i64 t277)) (fun _ hk => hk.2) (.slice Ao32 t278.length co32)) (fun _ hk => hk.2) (.slice Ao33 t281.length co33)) (fun _ h_ => h_.1)))); (case side2 => exact (Kd.R_reads' HO280.out).2.1); (case side3 => refine (Kd.R_reads' (e:=3) (base:=w.heap.size) (ok:=fun k_ => (((some k_ ≠ (.slice Ao32 t278.length co32:Value).ownBlock ∧ some k_ ≠ (.slice (some ad275) t272.length co16:Value).ownBlock) ∧ some k_ ≠ (u272002:Value).ownBlock) ∧ some k_ ≠ (u272003:Value).ownBlock)) (n:=t281.length) (c:=co33) ?_).2.2; exact (by (with_reducible repeat (first | apply Kd.R_alloc | apply Kd.R_drewN | apply Kd.R_drew)); exact (Kd.R_mono (Kd.R_far (p:=⟨gb284,3,none⟩) (Kd.R_far (p:=⟨gb284,2,none⟩) (Kd.R_far (p:=⟨gb284,1,none⟩) (Kd.R_far (p:=⟨gb284,0,none⟩) (Kd.R_types HO283.out BK284.out (by decide)) (fun _ hk => hk.2) (.int .i64 t276)) (fun _ hk => hk.2) (.int .i64 t277)) (fun _ hk => hk.2) (.slice Ao32 t278.length co32)) (fun _ hk => hk.2) (.slice Ao33 t281.length co33)) (fun _ h_ => h_.1)))); (case side4 => exact (Kd.R_reads' HO283.out).2.1); rintro e w34 ⟨rfl,hb⟩; refine ⟨_,rfl,?_⟩; have n0_:=am_ (Kd.R_below (by (with_reducible repeat (first | apply Kd.R_alloc | apply Kd.R_drewN | apply Kd.R_drew)); exact (Kd.R_mono (Kd.R_far (p:=⟨gb284,3,none⟩) (Kd.R_far (p:=⟨gb284,2,none⟩) (Kd.R_far (p:=⟨gb284,1,none⟩) (Kd.R_far (p:=⟨gb284,0,none⟩) (Kd.R_types HO_16.out BK284.out (by decide)) (fun _ hk => hk.2) (.int .i64 t276)) (fun _ hk => hk.2) (.int .i64 t277)) (fun _ hk => hk.2) (.slice Ao32 t278.length co32)) (fun _ hk => hk.2) (.slice Ao33 t281.length co33)) (fun _ h_ => h_.1))) hb); have n1_:=am_ (Kd.R_below (by (with_reducible repeat (first | apply Kd.R_alloc | apply Kd.R_drewN | apply Kd.R_drew)); exact (Kd.R_mono (Kd.R_far (p:=⟨gb284,3,none⟩) (Kd.R_far (p:=⟨gb284,2,none⟩) (Kd.R_far (p:=⟨gb284,1,none⟩) (Kd.R_far (p:=⟨gb284,0,none⟩) (Kd.R_types HO_272002.out BK284.out (by decide)) (fun _ hk => hk.2) (.int .i64 t276)) (fun _ hk => hk.2) (.int .i64 t277)) (fun _ hk => hk.2) (.slice Ao32 t278.length co32)) (fun _ hk => hk.2) (.slice Ao33 t281.length co33)) (fun _ h_ => h_.1))) hb); have n2_:=am_ (Kd.R_below (by (with_reducible repeat (first | apply Kd.R_alloc | apply Kd.R_drewN | apply Kd.R_drew)); exact (Kd.R_mono (Kd.R_far (p:=⟨gb284,3,none⟩) (Kd.R_far (p:=⟨gb284,2,none⟩) (Kd.R_far (p:=⟨gb284,1,none⟩) (Kd.R_far (p:=⟨gb284,0,none⟩) (Kd.R_types HO_272003.out BK284.out (by decide)) (fun _ hk => hk.2) (.int .i64 t276)) (fun _ hk => hk.2) (.int .i64 t277)) (fun _ hk => hk.2) (.slice Ao32 t278.length co32)) (fun _ hk => hk.2) (.slice Ao33 t281.length co33)) (fun _ h_ => h_.1))) hb); have n3_:=am_ (Kd.R_below (by (with_reducible repeat (first | apply Kd.R_alloc | apply Kd.R_drewN | apply Kd.R_drew)); exact (Kd.R_mono (Kd.R_far (p:=⟨gb284,3,none⟩) (Kd.R_far (p:=⟨gb284,2,none⟩) (Kd.R_far (p:=⟨gb284,1,none⟩) (Kd.R_far (p:=⟨gb284,0,none⟩) (Kd.R_types HO280.out BK284.out (by decide)) (fun _ hk => hk.2) (.int .i64 t276)) (fun _ hk => hk.2) (.int .i64 t277)) (fun _ hk => hk.2) (.slice Ao32 t278.length co32)) (fun _ hk => hk.2) (.slice Ao33 t281.length co33)) (fun _ h_ => h_.1))) hb); have n4_:=am_ (Kd.R_below (by (with_reducible repeat (first | apply Kd.R_alloc | apply Kd.R_drewN | apply Kd.R_drew)); exact (Kd.R_mono (Kd.R_far (p:=⟨gb284,3,none⟩) (Kd.R_far (p:=⟨gb284,2,none⟩) (Kd.R_far (p:=⟨gb284,1,none⟩) (Kd.R_far (p:=⟨gb284,0,none⟩) (Kd.R_types HO283.out BK284.out (by decide)) (fun _ hk => hk.2) (.int .i64 t276)) (fun _ hk => hk.2) (.int .i64 t277)) (fun _ hk => hk.2) (.slice Ao32 t278.length co32)) (fun _ hk => hk.2) (.slice Ao33 t281.length co33)) (fun _ h_ => h_.1))) hb); have n5_:=am_ (blk_below (g:=gb268) (o:=.cells #[.int .i64 a0_0,.int .i64 a0_1,.slice A0_2 l0_2.length c0_2,.slice A0_3 l0_3.length c0_3] 36 (0,0)) (bf4_ NB268_284.out NB268_284.out NB268_284.out NB268_284.out BK268.out) hb); have n6_:=am_ (blk_below (g:=gb269) (o:=.cells #[.int .i64 0,.int .i64 0,.slice none 0 0,.slice none 0 0] 36 (0,0)) (bf4_ NB269_284.out NB269_284.out NB269_284.out NB269_284.out BK269.out) hb); have n7_:=am_ (blk_below (g:=gb271) (o:=.cells #[.int .i64 x272000_1,.int .i64 x272001_1,u272002,u272003] 36 (0,0)) (bf4_ NB271_284.out NB271_284.out NB271_284.out NB271_284.out BK271.out) hb); have n8_:=am_ (blk_below (g:=gb284) (o:=.cells #[.int .i64 t276,.int .i64 t277,.slice Ao32 t278.length co32,.slice Ao33 t281.length co33] 36 (0,0)) (by (with_reducible repeat (first | refine blk_drewN ?_ _ | refine blk_drew ?_ | refine blk_alloc ?_ _)); refine blk_put (cs:=#[.int .i64 t276,.int .i64 t277,.slice Ao32 t278.length co32,.slice none 0 0]) ?_ 3 _ rfl; (with_reducible repeat (first | refine blk_drewN ?_ _ | refine blk_drew ?_ | refine blk_alloc ?_ _)); refine blk_put (cs:=#[.int .i64 t276,.int .i64 t277,.slice none 0 0,.slice none 0 0]) ?_ 2 _ rfl; (with_reducible repeat (first | refine blk_drewN ?_ _ | refine blk_drew ?_ | refine blk_alloc ?_ _)); refine blk_put (cs:=#[.int .i64 t276,.int .i64 0,.slice none 0 0,.slice none 0 0]) ?_ 1 _ rfl; (with_reducible repeat (first | refine blk_drewN ?_ _ | refine blk_drew ?_ | refine blk_alloc ?_ _)); refine blk_put (cs:=#[.int .i64 0,.int .i64 0,.slice none 0 0,.slice none 0 0]) ?_ 0 _ rfl; (with_reducible repeat (first | refine blk_drewN ?_ _ | refine blk_drew ?_ | refine blk_alloc ?_ _)); exact BK284.out) hb); have n9_:=am_ (below_step (bl4_ HB.out GE268.out GE269.out GE271.out GE284.out) hb); clear HO_16; clear HO_272002; clear HO_272003; clear HO280; clear HO283; clear BK268; clear BK269; clear BK271; clear BK284; clear HB; have HO_16:=n0_; have HO_272002:=n1_; have HO_272003:=n2_; have HO280:=n3_; have HO283:=n4_; have BK268:=n5_; have BK269:=n6_; have BK271:=n7_; have BK284:=n8_; have HB:=n9_; clear n0_ n1_ n2_ n3_ n4_ n5_ n6_ n7_ n8_ n9_; (try clear hb); (try clear hb2); (try clear hk); (try clear hi); have hcz35_0:w34.cell? ⟨gb284,0,none⟩ = some (.int .i64 t276):=(bc_ BK284.out 0).trans rfl; have hcz35_1:w34.cell? ⟨gb284,1,none⟩ = some (.int .i64 t277):=(bc_ BK284.out 1).trans rfl; have hcz35_2:w34.cell? ⟨gb284,2,none⟩ = some (.slice Ao32 t278.length co32):=(bc_ BK284.out 2).trans rfl; have hcz35_3:w34.cell? ⟨gb284,3,none⟩ = some (.slice Ao33 t281.length co33):=(bc_ BK284.out 3).trans rfl; have hfz35_0:=bz_ BK284.out 0; have hfz35_1:=bz_ BK284.out 1; have hfz35_2:=bz_ BK284.out 2; have hfz35_3:=bz_ BK284.out 3; have hnb36:=NB271_269.out; have hnc36:=NB269_271.out; have hcz37_0:w34.cell? ⟨gb271,0,none⟩ = some (.int .i64 x272000_1):=(bc_ BK271.out 0).trans rfl; have hcz37_1:w34.cell? ⟨gb271,1,none⟩ = some (.int .i64 x272001_1):=(bc_ BK271.out 1).trans rfl; have hcz37_2:w34.cell? ⟨gb271,2,none⟩ = some (u272002):=(bc_ BK271.out 2).trans rfl; have hcz37_3:w34.cell? ⟨gb271,3,none⟩ = some (u272003):=(bc_ BK271.out 3).trans rfl; have hfz37_0:=bz_ BK271.out 0; have hfz37_1:=bz_ BK271.out 1; have hfz37_2:=bz_ BK271.out 2; have hfz37_3:=bz_ BK271.out 3))
        go_roundg k1
        case measure => have:=HK1.out; omega
        case rel => exact ⟨(t285),(wrap64 (x18_1 + 1)),(t276),(t277),(t278),(t281),(.slice Ao32 t278.length co32),(.slice Ao33 t281.length co33),rs_,rs_,H',⟨by have:=HK1.out; omega⟩,⟨by (with_reducible repeat (first | apply Kd.R_alloc | apply Kd.R_drewN | apply Kd.R_drew)); exact Kd.R_mono (Kd.R_far (p:=⟨gb271,3,none⟩) (Kd.R_far (p:=⟨gb271,2,none⟩) (Kd.R_far (p:=⟨gb271,1,none⟩) (Kd.R_far (p:=⟨gb271,0,none⟩) (Kd.R_types HO_16.out BK271.out (by decide)) (fun _ hk => hk.2) (.int .i64 t276)) (fun _ hk => hk.2) (.int .i64 t277)) (fun _ hk => hk.2) (.slice Ao32 t278.length co32)) (fun _ hk => hk.2) (.slice Ao33 t281.length co33)) (fun _ hk => ⟨hk.1.1.2,hk.1.2⟩)⟩,⟨by (with_reducible repeat (first | apply Kd.R_alloc | apply Kd.R_drewN | apply Kd.R_drew)); exact Kd.R_mono (Kd.R_far (p:=⟨gb271,3,none⟩) (Kd.R_far (p:=⟨gb271,2,none⟩) (Kd.R_far (p:=⟨gb271,1,none⟩) (Kd.R_far (p:=⟨gb271,0,none⟩) (Kd.R_types HO280.out BK271.out (by decide)) (fun _ hk => hk.2) (.int .i64 t276)) (fun _ hk => hk.2) (.int .i64 t277)) (fun _ hk => hk.2) (.slice Ao32 t278.length co32)) (fun _ hk => hk.2) (.slice Ao33 t281.length co33)) (fun _ hk => ⟨hk.1.1.1.2,hk.1.1.1.1⟩)⟩,⟨by (with_reducible repeat (first | apply Kd.R_alloc | apply Kd.R_drewN | apply Kd.R_drew)); exact Kd.R_mono (Kd.R_far (p:=⟨gb271,3,none⟩) (Kd.R_far (p:=⟨gb271,2,none⟩) (Kd.R_far (p:=⟨gb271,1,none⟩) (Kd.R_far (p:=⟨gb271,0,none⟩) (Kd.R_types HO283.out BK271.out (by decide)) (fun _ hk => hk.2) (.int .i64 t276)) (fun _ hk => hk.2) (.int .i64 t277)) (fun _ hk => hk.2) (.slice Ao32 t278.length co32)) (fun _ hk => hk.2) (.slice Ao33 t281.length co33)) (fun _ hk => ⟨hk.1.1.1.2,hk.1.1.1.1⟩)⟩,⟨bf4_ NB268_271.out NB268_271.out NB268_271.out NB268_271.out BK268.out⟩,⟨bf4_ NB269_271.out NB269_271.out NB269_271.out NB269_271.out BK269.out⟩,⟨by (with_reducible repeat (first | refine blk_drewN ?_ _ | refine blk_drew ?_ | refine blk_alloc ?_ _)); refine blk_put (cs:=#[.int .i64 t276,.int .i64 t277,.slice Ao32 t278.length co32,u272003]) ?_ 3 _ rfl; (with_reducible repeat (first | refine blk_drewN ?_ _ | refine blk_drew ?_ | refine blk_alloc ?_ _)); refine blk_put (cs:=#[.int .i64 t276,.int .i64 t277,u272002,u272003]) ?_ 2 _ rfl; (with_reducible repeat (first | refine blk_drewN ?_ _ | refine blk_drew ?_ | refine blk_alloc ?_ _)); refine blk_put (cs:=#[.int .i64 t276,.int .i64 x272001_1,u272002,u272003]) ?_ 1 _ rfl; (with_reducible repeat (first | refine blk_drewN ?_ _ | refine blk_drew ?_ | refine blk_alloc ?_ _)); refine blk_put (cs:=#[.int .i64 x272000_1,.int .i64 x272001_1,u272002,u272003]) ?_ 0 _ rfl; (with_reducible repeat (first | refine blk_drewN ?_ _ | refine blk_drew ?_ | refine blk_alloc ?_ _)); exact BK271.out⟩,⟨bl4_ HB.out GE268.out GE269.out GE271.out GE284.out⟩⟩
       ·rw [if_neg c22] at H
        have c22b0:(x5_1.toList == ([]:List UInt8)) = false:=beq_eq_false_iff_ne.mpr c22
        have c22b1:(x5_1.toList != ([]:List UInt8)) = true:=bne_iff_ne.mpr c22
        by_cases c38:(Op.bytesLess t285.toList x5_1.toList) = true
        ·rw [if_pos c38] at H
         have c38b0:(Op.bytesLess t285.toList x5_1.toList) = true:=c38
         clear c38
         have H':=am_ H
         clear H
         have p275:0 ≤ (x18_1:Int):=of_decide_eq_true as_
         have q275:x18_1 < (t272.length:Int):=of_decide_eq_true as_
         obtain ⟨ad275,e275,hx275_0⟩:=Kd.at_int (Kd.R_reads' HO_16.out).2.2 x18_1 p275 q275
         cases e275
         replace p275:=eq_true p275
         replace q275:=eq_true q275
         have hnb39:=NB268_269.out
         have hnc39:=NB269_268.out
         have hnb40:=NB268_271.out
         have hnc40:=NB271_268.out
         have hcz41_0:wr.cell? ⟨gb268,0,none⟩ = some (.int .i64 a0_0):=(bc_ BK268.out 0).trans rfl
         have hcz41_1:wr.cell? ⟨gb268,1,none⟩ = some (.int .i64 a0_1):=(bc_ BK268.out 1).trans rfl
         have hcz41_2:wr.cell? ⟨gb268,2,none⟩ = some (.slice A0_2 l0_2.length c0_2):=(bc_ BK268.out 2).trans rfl
         have hcz41_3:wr.cell? ⟨gb268,3,none⟩ = some (.slice A0_3 l0_3.length c0_3):=(bc_ BK268.out 3).trans rfl
         have hfz41_0:=bz_ BK268.out 0
         have hfz41_1:=bz_ BK268.out 1
         have hfz41_2:=bz_ BK268.out 2
         have hfz41_3:=bz_ BK268.out 3
         go_wp2_with (first | ((with_reducible refine gate_callee (f:=69) rfl ?_); refine goesL_ (some 27) rfl rfl Tryd.func69 (by kernel_rfl) rfl #[.int .i64 a0_0,.int .i64 a0_1,.int .i64 (rd t272 x18_1)] rfl ob_ ?_; (with_reducible refine (spec_sqFigure.calls k1 a0_0 a0_1 (rd t272 x18_1) t276 t277 t278 t281 _ A20.out).mono ?_); rintro e w42 ⟨v279,v282,rfl,ho0,ho1,hb⟩; refine ⟨_,rfl,?_⟩; have n0_:=am_ (Kd.R_mono (Kd.R_told (Kd.R_told (Kd.R_old (kr_ HO_16.out) hb) (Kd.R_base ho0)) (Kd.R_base ho1)) (fun _ h_ => h_.1)); have n1_:=am_ (Kd.R_mono (Kd.R_told (Kd.R_told (Kd.R_old (kr_ HO_272002.out) hb) (Kd.R_base ho0)) (Kd.R_base ho1)) (fun _ h_ => h_.1)); have n2_:=am_ (Kd.R_mono (Kd.R_told (Kd.R_told (Kd.R_old (kr_ HO_272003.out) hb) (Kd.R_base ho0)) (Kd.R_base ho1)) (fun _ h_ => h_.1)); have n3_:=am_ (Kd.R_lower (Kd.R_new' (Kd.R_new' (Kd.R_new' ho0 (Kd.R_lt (kr_ HO_16.out))) (Kd.R_lt (kr_ HO_272002.out))) (Kd.R_lt (kr_ HO_272003.out))) (below_size (bl3_ HB.out GE268.out GE269.out GE271.out))); have n4_:=am_ (Kd.R_lower (Kd.R_new' (Kd.R_new' (Kd.R_new' ho1 (Kd.R_lt (kr_ HO_16.out))) (Kd.R_lt (kr_ HO_272002.out))) (Kd.R_lt (kr_ HO_272003.out))) (below_size (bl3_ HB.out GE268.out GE269.out GE271.out))); have n5_:=am_ (bb_ BK268.out hb); have n6_:=am_ (bb_ BK269.out hb); have n7_:=am_ (bb_ BK271.out hb); have n8_:=am_ (below_step (bl3_ HB.out GE268.out GE269.out GE271.out) hb); clear HO_16; clear HO_272002; clear HO_272003; clear BK268; clear BK269; clear BK271; clear HB; have HO_16:=n0_; have HO_272002:=n1_; have HO_272003:=n2_; have HO280:=n3_; have HO283:=n4_; have BK268:=n5_; have BK269:=n6_; have BK271:=n7_; have HB:=n8_; clear n0_ n1_ n2_ n3_ n4_ n5_ n6_ n7_ n8_; (try clear hb); (try clear hb2); (try clear hk); (try clear hi); (try clear ho0); (try clear ho1)) | ((with_reducible refine gate_dst (N:=8) rfl ?_); refine boxE_ (N:=8) (cs:=#[.int .i64 0,.int .i64 0,.slice none 0 0,.slice none 0 0]) (t:=36) ?_; intro gb284 hg w43 hbox hb; have n0_:=am_ (Kd.R_below (kr_ HO_16.out) hb); have n1_:=am_ (Kd.R_below (kr_ HO_272002.out) hb); have n2_:=am_ (Kd.R_below (kr_ HO_272003.out) hb); have n3_:=am_ (Kd.R_below (kr_ HO280.out) hb); have n4_:=am_ (Kd.R_below (kr_ HO283.out) hb); have n5_:=am_ (bb_ BK268.out hb); have n6_:=am_ (bb_ BK269.out hb); have n7_:=am_ (bb_ BK271.out hb); have n8_:=am_ (below_step (bl3_ HB.out GE268.out GE269.out GE271.out) hb); have n9_:=am_ (hbox); have n10_:=am_ ((bs3_ hg HB.out GE268.out GE269.out GE271.out:w.heap.size ≤ gb284)); have n11_:=am_ ((bs3_ hg HB.out GE268.out GE269.out GE271.out:w.heap.size ≤ gb284)); have n12_:=am_ ((nl_ hg BK268.out:gb268 ≠ gb284)); have n13_:=am_ ((ng_ hg BK268.out:gb284 ≠ gb268)); have n14_:=am_ ((nl_ hg BK269.out:gb269 ≠ gb284)); have n15_:=am_ ((ng_ hg BK269.out:gb284 ≠ gb269)); have n16_:=am_ ((nl_ hg BK271.out:gb271 ≠ gb284)); have n17_:=am_ ((ng_ hg BK271.out:gb284 ≠ gb271)); clear HO_16; clear HO_272002; clear HO_272003; clear HO280; clear HO283; clear BK268; clear BK269; clear BK271; clear HB; have HO_16:=n0_; have HO_272002:=n1_; have HO_272003:=n2_; have HO280:=n3_; have HO283:=n4_; have BK268:=n5_; have BK269:=n6_; have BK271:=n7_; have HB:=n8_; have BK284:=n9_; have GW284:=n10_; have GE284:=n11_; have NB268_284:=n12_; have NB284_268:=n13_; have NB269_284:=n14_; have NB284_269:=n15_; have NB271_284:=n16_; have NB284_271:=n17_; clear n0_ n1_ n2_ n3_ n4_ n5_ n6_ n7_ n8_ n9_ n10_ n11_ n12_ n13_ n14_ n15_ n16_ n17_; clear hb hbox hg; have hnb44:=NB284_268.out; have hnc44:=NB268_284.out; have hnb45:=NB284_269.out; have hnc45:=NB269_284.out; have hnb46:=NB284_271.out; have hnc46:=NB271_284.out; have hcz47_0:w43.cell? ⟨gb284,0,none⟩ = some (.int .i64 0):=(bc_ BK284.out 0).trans rfl; have hcz47_1:w43.cell? ⟨gb284,1,none⟩ = some (.int .i64 0):=(bc_ BK284.out 1).trans rfl; have hcz47_2:w43.cell? ⟨gb284,2,none⟩ = some (.slice none 0 0):=(bc_ BK284.out 2).trans rfl; have hcz47_3:w43.cell? ⟨gb284,3,none⟩ = some (.slice none 0 0):=(bc_ BK284.out 3).trans rfl; have hfz47_0:=bz_ BK284.out 0; have hfz47_1:=bz_ BK284.out 1; have hfz47_2:=bz_ BK284.out 2; have hfz47_3:=bz_ BK284.out 3; obtain ⟨Ao48,co48,eo48⟩:=Kd.R_slice HO280.out; subst eo48; obtain ⟨Ao49,co49,eo49⟩:=Kd.R_slice HO283.out; subst eo49) | ((with_reducible refine gate_callee (f:=70) rfl ?_); refine goesL_ (some 29) rfl rfl Tryd.func70 (by kernel_rfl) rfl #[.agg #[.int .i64 t276,.int .i64 t277,.slice Ao48 t278.length co48,.slice Ao49 t281.length co49]] rfl ob_ ?_; (with_reducible refine (spec_fiText.calls k1 t276 t277 _ _ t278 _ _ t281 t285 _ ?side1 ?side2 ?side3 ?side4 A21.out).mono ?_); (case side1 => refine (Kd.R_reads' (e:=3) (base:=w.heap.size) (ok:=fun k_ => (((some k_ ≠ (.slice Ao49 t281.length co49:Value).ownBlock ∧ some k_ ≠ (.slice (some ad275) t272.length co16:Value).ownBlock) ∧ some k_ ≠ (u272002:Value).ownBlock) ∧ some k_ ≠ (u272003:Value).ownBlock)) (n:=t278.length) (c:=co48) ?_).2.2; exact (by (with_reducible repeat (first | apply Kd.R_alloc | apply Kd.R_drewN | apply Kd.R_drew)); exact (Kd.R_mono (Kd.R_far (p:=⟨gb284,3,none⟩) (Kd.R_far (p:=⟨gb284,2,none⟩) (Kd.R_far (p:=⟨gb284,1,none⟩) (Kd.R_far (p:=⟨gb284,0,none⟩) (Kd.R_types HO280.out BK284.out (by decide)) (fun _ hk => hk.2) (.int .i64 t276)) (fun _ hk => hk.2) (.int .i64 t277)) (fun _ hk => hk.2) (.slice Ao48 t278.length co48)) (fun _ hk => hk.2) (.slice Ao49 t281.length co49)) (fun _ h_ => h_.1)))); (case side2 => exact (Kd.R_reads' HO280.out).2.1); (case side3 => refine (Kd.R_reads' (e:=3) (base:=w.heap.size) (ok:=fun k_ => (((some k_ ≠ (.slice Ao48 t278.length co48:Value).ownBlock ∧ some k_ ≠ (.slice (some ad275) t272.length co16:Value).ownBlock) ∧ some k_ ≠ (u272002:Value).ownBlock) ∧ some k_ ≠ (u272003:Value).ownBlock)) (n:=t281.length) (c:=co49) ?_).2.2; exact (by (with_reducible repeat (first | apply Kd.R_alloc | apply Kd.R_drewN | apply Kd.R_drew)); exact (Kd.R_mono (Kd.R_far (p:=⟨gb284,3,none⟩) (Kd.R_far (p:=⟨gb284,2,none⟩) (Kd.R_far (p:=⟨gb284,1,none⟩) (Kd.R_far (p:=⟨gb284,0,none⟩) (Kd.R_types HO283.out BK284.out (by decide)) (fun _ hk => hk.2) (.int .i64 t276)) (fun _ hk => hk.2) (.int .i64 t277)) (fun _ hk => hk.2) (.slice Ao48 t278.length co48)) (fun _ hk => hk.2) (.slice Ao49 t281.length co49)) (fun _ h_ => h_.1)))); (case side4 => exact (Kd.R_reads' HO283.out).2.1); rintro e w50 ⟨rfl,hb⟩; refine ⟨_,rfl,?_⟩; have n0_:=am_ (Kd.R_below (by (with_reducible repeat (first | apply Kd.R_alloc | apply Kd.R_drewN | apply Kd.R_drew)); exact (Kd.R_mono (Kd.R_far (p:=⟨gb284,3,none⟩) (Kd.R_far (p:=⟨gb284,2,none⟩) (Kd.R_far (p:=⟨gb284,1,none⟩) (Kd.R_far (p:=⟨gb284,0,none⟩) (Kd.R_types HO_16.out BK284.out (by decide)) (fun _ hk => hk.2) (.int .i64 t276)) (fun _ hk => hk.2) (.int .i64 t277)) (fun _ hk => hk.2) (.slice Ao48 t278.length co48)) (fun _ hk => hk.2) (.slice Ao49 t281.length co49)) (fun _ h_ => h_.1))) hb); have n1_:=am_ (Kd.R_below (by (with_reducible repeat (first | apply Kd.R_alloc | apply Kd.R_drewN | apply Kd.R_drew)); exact (Kd.R_mono (Kd.R_far (p:=⟨gb284,3,none⟩) (Kd.R_far (p:=⟨gb284,2,none⟩) (Kd.R_far (p:=⟨gb284,1,none⟩) (Kd.R_far (p:=⟨gb284,0,none⟩) (Kd.R_types HO_272002.out BK284.out (by decide)) (fun _ hk => hk.2) (.int .i64 t276)) (fun _ hk => hk.2) (.int .i64 t277)) (fun _ hk => hk.2) (.slice Ao48 t278.length co48)) (fun _ hk => hk.2) (.slice Ao49 t281.length co49)) (fun _ h_ => h_.1))) hb); have n2_:=am_ (Kd.R_below (by (with_reducible repeat (first | apply Kd.R_alloc | apply Kd.R_drewN | apply Kd.R_drew)); exact (Kd.R_mono (Kd.R_far (p:=⟨gb284,3,none⟩) (Kd.R_far (p:=⟨gb284,2,none⟩) (Kd.R_far (p:=⟨gb284,1,none⟩) (Kd.R_far (p:=⟨gb284,0,none⟩) (Kd.R_types HO_272003.out BK284.out (by decide)) (fun _ hk => hk.2) (.int .i64 t276)) (fun _ hk => hk.2) (.int .i64 t277)) (fun _ hk => hk.2) (.slice Ao48 t278.length co48)) (fun _ hk => hk.2) (.slice Ao49 t281.length co49)) (fun _ h_ => h_.1))) hb); have n3_:=am_ (Kd.R_below (by (with_reducible repeat (first | apply Kd.R_alloc | apply Kd.R_drewN | apply Kd.R_drew)); exact (Kd.R_mono (Kd.R_far (p:=⟨gb284,3,none⟩) (Kd.R_far (p:=⟨gb284,2,none⟩) (Kd.R_far (p:=⟨gb284,1,none⟩) (Kd.R_far (p:=⟨gb284,0,none⟩) (Kd.R_types HO280.out BK284.out (by decide)) (fun _ hk => hk.2) (.int .i64 t276)) (fun _ hk => hk.2) (.int .i64 t277)) (fun _ hk => hk.2) (.slice Ao48 t278.length co48)) (fun _ hk => hk.2) (.slice Ao49 t281.length co49)) (fun _ h_ => h_.1))) hb); have n4_:=am_ (Kd.R_below (by (with_reducible repeat (first | apply Kd.R_alloc | apply Kd.R_drewN | apply Kd.R_drew)); exact (Kd.R_mono (Kd.R_far (p:=⟨gb284,3,none⟩) (Kd.R_far (p:=⟨gb284,2,none⟩) (Kd.R_far (p:=⟨gb284,1,none⟩) (Kd.R_far (p:=⟨gb284,0,none⟩) (Kd.R_types HO283.out BK284.out (by decide)) (fun _ hk => hk.2) (.int .i64 t276)) (fun _ hk => hk.2) (.int .i64 t277)) (fun _ hk => hk.2) (.slice Ao48 t278.length co48)) (fun _ hk => hk.2) (.slice Ao49 t281.length co49)) (fun _ h_ => h_.1))) hb); have n5_:=am_ (blk_below (g:=gb268) (o:=.cells #[.int .i64 a0_0,.int .i64 a0_1,.slice A0_2 l0_2.length c0_2,.slice A0_3 l0_3.length c0_3] 36 (0,0)) (bf4_ NB268_284.out NB268_284.out NB268_284.out NB268_284.out BK268.out) hb); have n6_:=am_ (blk_below (g:=gb269) (o:=.cells #[.int .i64 0,.int .i64 0,.slice none 0 0,.slice none 0 0] 36 (0,0)) (bf4_ NB269_284.out NB269_284.out NB269_284.out NB269_284.out BK269.out) hb); have n7_:=am_ (blk_below (g:=gb271) (o:=.cells #[.int .i64 x272000_1,.int .i64 x272001_1,u272002,u272003] 36 (0,0)) (bf4_ NB271_284.out NB271_284.out NB271_284.out NB271_284.out BK271.out) hb); have n8_:=am_ (blk_below (g:=gb284) (o:=.cells #[.int .i64 t276,.int .i64 t277,.slice Ao48 t278.length co48,.slice Ao49 t281.length co49] 36 (0,0)) (by (with_reducible repeat (first | refine blk_drewN ?_ _ | refine blk_drew ?_ | refine blk_alloc ?_ _)); refine blk_put (cs:=#[.int .i64 t276,.int .i64 t277,.slice Ao48 t278.length co48,.slice none 0 0]) ?_ 3 _ rfl; (with_reducible repeat (first | refine blk_drewN ?_ _ | refine blk_drew ?_ | refine blk_alloc ?_ _)); refine blk_put (cs:=#[.int .i64 t276,.int .i64 t277,.slice none 0 0,.slice none 0 0]) ?_ 2 _ rfl; (with_reducible repeat (first | refine blk_drewN ?_ _ | refine blk_drew ?_ | refine blk_alloc ?_ _)); refine blk_put (cs:=#[.int .i64 t276,.int .i64 0,.slice none 0 0,.slice none 0 0]) ?_ 1 _ rfl; (with_reducible repeat (first | refine blk_drewN ?_ _ | refine blk_drew ?_ | refine blk_alloc ?_ _)); refine blk_put (cs:=#[.int .i64 0,.int .i64 0,.slice none 0 0,.slice none 0 0]) ?_ 0 _ rfl; (with_reducible repeat (first | refine blk_drewN ?_ _ | refine blk_drew ?_ | refine blk_alloc ?_ _)); exact BK284.out) hb); have n9_:=am_ (below_step (bl4_ HB.out GE268.out GE269.out GE271.out GE284.out) hb); clear HO_16; clear HO_272002; clear HO_272003; clear HO280; clear HO283; clear BK268; clear BK269; clear BK271; clear BK284; clear HB; have HO_16:=n0_; have HO_272002:=n1_; have HO_272003:=n2_; have HO280:=n3_; have HO283:=n4_; have BK268:=n5_; have BK269:=n6_; have BK271:=n7_; have BK284:=n8_; have HB:=n9_; clear n0_ n1_ n2_ n3_ n4_ n5_ n6_ n7_ n8_ n9_; (try clear hb); (try clear hb2); (try clear hk); (try clear hi); have hcz51_0:w50.cell? ⟨gb284,0,none⟩ = some (.int .i64 t276):=(bc_ BK284.out 0).trans rfl; have hcz51_1:w50.cell? ⟨gb284,1,none⟩ = some (.int .i64 t277):=(bc_ BK284.out 1).trans rfl; have hcz51_2:w50.cell? ⟨gb284,2,none⟩ = some (.slice Ao48 t278.length co48):=(bc_ BK284.out 2).trans rfl; have hcz51_3:w50.cell? ⟨gb284,3,none⟩ = some (.slice Ao49 t281.length co49):=(bc_ BK284.out 3).trans rfl; have hfz51_0:=bz_ BK284.out 0; have hfz51_1:=bz_ BK284.out 1; have hfz51_2:=bz_ BK284.out 2; have hfz51_3:=bz_ BK284.out 3; have hnb52:=NB271_269.out; have hnc52:=NB269_271.out; have hcz53_0:w50.cell? ⟨gb271,0,none⟩ = some (.int .i64 x272000_1):=(bc_ BK271.out 0).trans rfl; have hcz53_1:w50.cell? ⟨gb271,1,none⟩ = some (.int .i64 x272001_1):=(bc_ BK271.out 1).trans rfl; have hcz53_2:w50.cell? ⟨gb271,2,none⟩ = some (u272002):=(bc_ BK271.out 2).trans rfl; have hcz53_3:w50.cell? ⟨gb271,3,none⟩ = some (u272003):=(bc_ BK271.out 3).trans rfl; have hfz53_0:=bz_ BK271.out 0; have hfz53_1:=bz_ BK271.out 1; have hfz53_2:=bz_ BK271.out 2; have hfz53_3:=bz_ BK271.out 3))
         go_roundg k1
         case measure => have:=HK1.out; omega
         case rel => exact ⟨(t285),(wrap64 (x18_1 + 1)),(t276),(t277),(t278),(t281),(.slice Ao48 t278.length co48),(.slice Ao49 t281.length co49),rs_,rs_,H',⟨by have:=HK1.out; omega⟩,⟨by (with_reducible repeat (first | apply Kd.R_alloc | apply Kd.R_drewN | apply Kd.R_drew)); exact Kd.R_mono (Kd.R_far (p:=⟨gb271,3,none⟩) (Kd.R_far (p:=⟨gb271,2,none⟩) (Kd.R_far (p:=⟨gb271,1,none⟩) (Kd.R_far (p:=⟨gb271,0,none⟩) (Kd.R_types HO_16.out BK271.out (by decide)) (fun _ hk => hk.2) (.int .i64 t276)) (fun _ hk => hk.2) (.int .i64 t277)) (fun _ hk => hk.2) (.slice Ao48 t278.length co48)) (fun _ hk => hk.2) (.slice Ao49 t281.length co49)) (fun _ hk => ⟨hk.1.1.2,hk.1.2⟩)⟩,⟨by (with_reducible repeat (first | apply Kd.R_alloc | apply Kd.R_drewN | apply Kd.R_drew)); exact Kd.R_mono (Kd.R_far (p:=⟨gb271,3,none⟩) (Kd.R_far (p:=⟨gb271,2,none⟩) (Kd.R_far (p:=⟨gb271,1,none⟩) (Kd.R_far (p:=⟨gb271,0,none⟩) (Kd.R_types HO280.out BK271.out (by decide)) (fun _ hk => hk.2) (.int .i64 t276)) (fun _ hk => hk.2) (.int .i64 t277)) (fun _ hk => hk.2) (.slice Ao48 t278.length co48)) (fun _ hk => hk.2) (.slice Ao49 t281.length co49)) (fun _ hk => ⟨hk.1.1.1.2,hk.1.1.1.1⟩)⟩,⟨by (with_reducible repeat (first | apply Kd.R_alloc | apply Kd.R_drewN | apply Kd.R_drew)); exact Kd.R_mono (Kd.R_far (p:=⟨gb271,3,none⟩) (Kd.R_far (p:=⟨gb271,2,none⟩) (Kd.R_far (p:=⟨gb271,1,none⟩) (Kd.R_far (p:=⟨gb271,0,none⟩) (Kd.R_types HO283.out BK271.out (by decide)) (fun _ hk => hk.2) (.int .i64 t276)) (fun _ hk => hk.2) (.int .i64 t277)) (fun _ hk => hk.2) (.slice Ao48 t278.length co48)) (fun _ hk => hk.2) (.slice Ao49 t281.length co49)) (fun _ hk => ⟨hk.1.1.1.2,hk.1.1.1.1⟩)⟩,⟨bf4_ NB268_271.out NB268_271.out NB268_271.out NB268_271.out BK268.out⟩,⟨bf4_ NB269_271.out NB269_271.out NB269_271.out NB269_271.out BK269.out⟩,⟨by (with_reducible repeat (first | refine blk_drewN ?_ _ | refine blk_drew ?_ | refine blk_alloc ?_ _)); refine blk_put (cs:=#[.int .i64 t276,.int .i64 t277,.slice Ao48 t278.length co48,u272003]) ?_ 3 _ rfl; (with_reducible repeat (first | refine blk_drewN ?_ _ | refine blk_drew ?_ | refine blk_alloc ?_ _)); refine blk_put (cs:=#[.int .i64 t276,.int .i64 t277,u272002,u272003]) ?_ 2 _ rfl; (with_reducible repeat (first | refine blk_drewN ?_ _ | refine blk_drew ?_ | refine blk_alloc ?_ _)); refine blk_put (cs:=#[.int .i64 t276,.int .i64 x272001_1,u272002,u272003]) ?_ 1 _ rfl; (with_reducible repeat (first | refine blk_drewN ?_ _ | refine blk_drew ?_ | refine blk_alloc ?_ _)); refine blk_put (cs:=#[.int .i64 x272000_1,.int .i64 x272001_1,u272002,u272003]) ?_ 0 _ rfl; (with_reducible repeat (first | refine blk_drewN ?_ _ | refine blk_drew ?_ | refine blk_alloc ?_ _)); exact BK271.out⟩,⟨bl4_ HB.out GE268.out GE269.out GE271.out GE284.out⟩⟩
        ·rw [if_neg c38] at H
         have c38b0:(Op.bytesLess t285.toList x5_1.toList) = false:=by simpa using c38
         clear c38
         have H':=am_ H
         clear H
         have p275:0 ≤ (x18_1:Int):=of_decide_eq_true as_
         have q275:x18_1 < (t272.length:Int):=of_decide_eq_true as_
         obtain ⟨ad275,e275,hx275_0⟩:=Kd.at_int (Kd.R_reads' HO_16.out).2.2 x18_1 p275 q275
         cases e275
         replace p275:=eq_true p275
         replace q275:=eq_true q275
         have hnb54:=NB268_269.out
         have hnc54:=NB269_268.out
         have hnb55:=NB268_271.out
         have hnc55:=NB271_268.out
         have hcz56_0:wr.cell? ⟨gb268,0,none⟩ = some (.int .i64 a0_0):=(bc_ BK268.out 0).trans rfl
         have hcz56_1:wr.cell? ⟨gb268,1,none⟩ = some (.int .i64 a0_1):=(bc_ BK268.out 1).trans rfl
         have hcz56_2:wr.cell? ⟨gb268,2,none⟩ = some (.slice A0_2 l0_2.length c0_2):=(bc_ BK268.out 2).trans rfl
         have hcz56_3:wr.cell? ⟨gb268,3,none⟩ = some (.slice A0_3 l0_3.length c0_3):=(bc_ BK268.out 3).trans rfl
         have hfz56_0:=bz_ BK268.out 0
         have hfz56_1:=bz_ BK268.out 1
         have hfz56_2:=bz_ BK268.out 2
         have hfz56_3:=bz_ BK268.out 3
         go_wp2_with (first | ((with_reducible refine gate_callee (f:=69) rfl ?_); refine goesL_ (some 27) rfl rfl Tryd.func69 (by kernel_rfl) rfl #[.int .i64 a0_0,.int .i64 a0_1,.int .i64 (rd t272 x18_1)] rfl ob_ ?_; (with_reducible refine (spec_sqFigure.calls k1 a0_0 a0_1 (rd t272 x18_1) t276 t277 t278 t281 _ A20.out).mono ?_); rintro e w57 ⟨v279,v282,rfl,ho0,ho1,hb⟩; refine ⟨_,rfl,?_⟩; have n0_:=am_ (Kd.R_mono (Kd.R_told (Kd.R_told (Kd.R_old (kr_ HO_16.out) hb) (Kd.R_base ho0)) (Kd.R_base ho1)) (fun _ h_ => h_.1)); have n1_:=am_ (Kd.R_mono (Kd.R_told (Kd.R_told (Kd.R_old (kr_ HO_272002.out) hb) (Kd.R_base ho0)) (Kd.R_base ho1)) (fun _ h_ => h_.1)); have n2_:=am_ (Kd.R_mono (Kd.R_told (Kd.R_told (Kd.R_old (kr_ HO_272003.out) hb) (Kd.R_base ho0)) (Kd.R_base ho1)) (fun _ h_ => h_.1)); have n3_:=am_ (Kd.R_lower (Kd.R_new' (Kd.R_new' (Kd.R_new' ho0 (Kd.R_lt (kr_ HO_16.out))) (Kd.R_lt (kr_ HO_272002.out))) (Kd.R_lt (kr_ HO_272003.out))) (below_size (bl3_ HB.out GE268.out GE269.out GE271.out))); have n4_:=am_ (Kd.R_lower (Kd.R_new' (Kd.R_new' (Kd.R_new' ho1 (Kd.R_lt (kr_ HO_16.out))) (Kd.R_lt (kr_ HO_272002.out))) (Kd.R_lt (kr_ HO_272003.out))) (below_size (bl3_ HB.out GE268.out GE269.out GE271.out))); have n5_:=am_ (bb_ BK268.out hb); have n6_:=am_ (bb_ BK269.out hb); have n7_:=am_ (bb_ BK271.out hb); have n8_:=am_ (below_step (bl3_ HB.out GE268.out GE269.out GE271.out) hb); clear HO_16; clear HO_272002; clear HO_272003; clear BK268; clear BK269; clear BK271; clear HB; have HO_16:=n0_; have HO_272002:=n1_; have HO_272003:=n2_; have HO280:=n3_; have HO283:=n4_; have BK268:=n5_; have BK269:=n6_; have BK271:=n7_; have HB:=n8_; clear n0_ n1_ n2_ n3_ n4_ n5_ n6_ n7_ n8_; (try clear hb); (try clear hb2); (try clear hk); (try clear hi); (try clear ho0); (try clear ho1)) | ((with_reducible refine gate_dst (N:=8) rfl ?_); refine boxE_ (N:=8) (cs:=#[.int .i64 0,.int .i64 0,.slice none 0 0,.slice none 0 0]) (t:=36) ?_; intro gb284 hg w58 hbox hb; have n0_:=am_ (Kd.R_below (kr_ HO_16.out) hb); have n1_:=am_ (Kd.R_below (kr_ HO_272002.out) hb); have n2_:=am_ (Kd.R_below (kr_ HO_272003.out) hb); have n3_:=am_ (Kd.R_below (kr_ HO280.out) hb); have n4_:=am_ (Kd.R_below (kr_ HO283.out) hb); have n5_:=am_ (bb_ BK268.out hb); have n6_:=am_ (bb_ BK269.out hb); have n7_:=am_ (bb_ BK271.out hb); have n8_:=am_ (below_step (bl3_ HB.out GE268.out GE269.out GE271.out) hb); have n9_:=am_ (hbox); have n10_:=am_ ((bs3_ hg HB.out GE268.out GE269.out GE271.out:w.heap.size ≤ gb284)); have n11_:=am_ ((bs3_ hg HB.out GE268.out GE269.out GE271.out:w.heap.size ≤ gb284)); have n12_:=am_ ((nl_ hg BK268.out:gb268 ≠ gb284)); have n13_:=am_ ((ng_ hg BK268.out:gb284 ≠ gb268)); have n14_:=am_ ((nl_ hg BK269.out:gb269 ≠ gb284)); have n15_:=am_ ((ng_ hg BK269.out:gb284 ≠ gb269)); have n16_:=am_ ((nl_ hg BK271.out:gb271 ≠ gb284)); have n17_:=am_ ((ng_ hg BK271.out:gb284 ≠ gb271)); clear HO_16; clear HO_272002; clear HO_272003; clear HO280; clear HO283; clear BK268; clear BK269; clear BK271; clear HB; have HO_16:=n0_; have HO_272002:=n1_; have HO_272003:=n2_; have HO280:=n3_; have HO283:=n4_; have BK268:=n5_; have BK269:=n6_; have BK271:=n7_; have HB:=n8_; have BK284:=n9_; have GW284:=n10_; have GE284:=n11_; have NB268_284:=n12_; have NB284_268:=n13_; have NB269_284:=n14_; have NB284_269:=n15_; have NB271_284:=n16_; have NB284_271:=n17_; clear n0_ n1_ n2_ n3_ n4_ n5_ n6_ n7_ n8_ n9_ n10_ n11_ n12_ n13_ n14_ n15_ n16_ n17_; clear hb hbox hg; have hnb59:=NB284_268.out; have hnc59:=NB268_284.out; have hnb60:=NB284_269.out; have hnc60:=NB269_284.out; have hnb61:=NB284_271.out; have hnc61:=NB271_284.out; have hcz62_0:w58.cell? ⟨gb284,0,none⟩ = some (.int .i64 0):=(bc_ BK284.out 0).trans rfl; have hcz62_1:w58.cell? ⟨gb284,1,none⟩ = some (.int .i64 0):=(bc_ BK284.out 1).trans rfl; have hcz62_2:w58.cell? ⟨gb284,2,none⟩ = some (.slice none 0 0):=(bc_ BK284.out 2).trans rfl; have hcz62_3:w58.cell? ⟨gb284,3,none⟩ = some (.slice none 0 0):=(bc_ BK284.out 3).trans rfl; have hfz62_0:=bz_ BK284.out 0; have hfz62_1:=bz_ BK284.out 1; have hfz62_2:=bz_ BK284.out 2; have hfz62_3:=bz_ BK284.out 3; obtain ⟨Ao63,co63,eo63⟩:=Kd.R_slice HO280.out; subst eo63; obtain ⟨Ao64,co64,eo64⟩:=Kd.R_slice HO283.out; subst eo64) | ((with_reducible refine gate_callee (f:=70) rfl ?_); refine goesL_ (some 29) rfl rfl Tryd.func70 (by kernel_rfl) rfl #[.agg #[.int .i64 t276,.int .i64 t277,.slice Ao63 t278.length co63,.slice Ao64 t281.length co64]] rfl ob_ ?_; (with_reducible refine (spec_fiText.calls k1 t276 t277 _ _ t278 _ _ t281 t285 _ ?side1 ?side2 ?side3 ?side4 A21.out).mono ?_); (case side1 => refine (Kd.R_reads' (e:=3) (base:=w.heap.size) (ok:=fun k_ => (((some k_ ≠ (.slice Ao64 t281.length co64:Value).ownBlock ∧ some k_ ≠ (.slice (some ad275) t272.length co16:Value).ownBlock) ∧ some k_ ≠ (u272002:Value).ownBlock) ∧ some k_ ≠ (u272003:Value).ownBlock)) (n:=t278.length) (c:=co63) ?_).2.2; exact (by (with_reducible repeat (first | apply Kd.R_alloc | apply Kd.R_drewN | apply Kd.R_drew)); exact (Kd.R_mono (Kd.R_far (p:=⟨gb284,3,none⟩) (Kd.R_far (p:=⟨gb284,2,none⟩) (Kd.R_far (p:=⟨gb284,1,none⟩) (Kd.R_far (p:=⟨gb284,0,none⟩) (Kd.R_types HO280.out BK284.out (by decide)) (fun _ hk => hk.2) (.int .i64 t276)) (fun _ hk => hk.2) (.int .i64 t277)) (fun _ hk => hk.2) (.slice Ao63 t278.length co63)) (fun _ hk => hk.2) (.slice Ao64 t281.length co64)) (fun _ h_ => h_.1)))); (case side2 => exact (Kd.R_reads' HO280.out).2.1); (case side3 => refine (Kd.R_reads' (e:=3) (base:=w.heap.size) (ok:=fun k_ => (((some k_ ≠ (.slice Ao63 t278.length co63:Value).ownBlock ∧ some k_ ≠ (.slice (some ad275) t272.length co16:Value).ownBlock) ∧ some k_ ≠ (u272002:Value).ownBlock) ∧ some k_ ≠ (u272003:Value).ownBlock)) (n:=t281.length) (c:=co64) ?_).2.2; exact (by (with_reducible repeat (first | apply Kd.R_alloc | apply Kd.R_drewN | apply Kd.R_drew)); exact (Kd.R_mono (Kd.R_far (p:=⟨gb284,3,none⟩) (Kd.R_far (p:=⟨gb284,2,none⟩) (Kd.R_far (p:=⟨gb284,1,none⟩) (Kd.R_far (p:=⟨gb284,0,none⟩) (Kd.R_types HO283.out BK284.out (by decide)) (fun _ hk => hk.2) (.int .i64 t276)) (fun _ hk => hk.2) (.int .i64 t277)) (fun _ hk => hk.2) (.slice Ao63 t278.length co63)) (fun _ hk => hk.2) (.slice Ao64 t281.length co64)) (fun _ h_ => h_.1)))); (case side4 => exact (Kd.R_reads' HO283.out).2.1); rintro e w65 ⟨rfl,hb⟩; refine ⟨_,rfl,?_⟩; have n0_:=am_ (Kd.R_below (by (with_reducible repeat (first | apply Kd.R_alloc | apply Kd.R_drewN | apply Kd.R_drew)); exact (Kd.R_mono (Kd.R_far (p:=⟨gb284,3,none⟩) (Kd.R_far (p:=⟨gb284,2,none⟩) (Kd.R_far (p:=⟨gb284,1,none⟩) (Kd.R_far (p:=⟨gb284,0,none⟩) (Kd.R_types HO_16.out BK284.out (by decide)) (fun _ hk => hk.2) (.int .i64 t276)) (fun _ hk => hk.2) (.int .i64 t277)) (fun _ hk => hk.2) (.slice Ao63 t278.length co63)) (fun _ hk => hk.2) (.slice Ao64 t281.length co64)) (fun _ h_ => h_.1))) hb); have n1_:=am_ (Kd.R_below (by (with_reducible repeat (first | apply Kd.R_alloc | apply Kd.R_drewN | apply Kd.R_drew)); exact (Kd.R_mono (Kd.R_far (p:=⟨gb284,3,none⟩) (Kd.R_far (p:=⟨gb284,2,none⟩) (Kd.R_far (p:=⟨gb284,1,none⟩) (Kd.R_far (p:=⟨gb284,0,none⟩) (Kd.R_types HO_272002.out BK284.out (by decide)) (fun _ hk => hk.2) (.int .i64 t276)) (fun _ hk => hk.2) (.int .i64 t277)) (fun _ hk => hk.2) (.slice Ao63 t278.length co63)) (fun _ hk => hk.2) (.slice Ao64 t281.length co64)) (fun _ h_ => h_.1))) hb); have n2_:=am_ (Kd.R_below (by (with_reducible repeat (first | apply Kd.R_alloc | apply Kd.R_drewN | apply Kd.R_drew)); exact (Kd.R_mono (Kd.R_far (p:=⟨gb284,3,none⟩) (Kd.R_far (p:=⟨gb284,2,none⟩) (Kd.R_far (p:=⟨gb284,1,none⟩) (Kd.R_far (p:=⟨gb284,0,none⟩) (Kd.R_types HO_272003.out BK284.out (by decide)) (fun _ hk => hk.2) (.int .i64 t276)) (fun _ hk => hk.2) (.int .i64 t277)) (fun _ hk => hk.2) (.slice Ao63 t278.length co63)) (fun _ hk => hk.2) (.slice Ao64 t281.length co64)) (fun _ h_ => h_.1))) hb); have n3_:=am_ (Kd.R_below (by (with_reducible repeat (first | apply Kd.R_alloc | apply Kd.R_drewN | apply Kd.R_drew)); exact (Kd.R_mono (Kd.R_far (p:=⟨gb284,3,none⟩) (Kd.R_far (p:=⟨gb284,2,none⟩) (Kd.R_far (p:=⟨gb284,1,none⟩) (Kd.R_far (p:=⟨gb284,0,none⟩) (Kd.R_types HO280.out BK284.out (by decide)) (fun _ hk => hk.2) (.int .i64 t276)) (fun _ hk => hk.2) (.int .i64 t277)) (fun _ hk => hk.2) (.slice Ao63 t278.length co63)) (fun _ hk => hk.2) (.slice Ao64 t281.length co64)) (fun _ h_ => h_.1))) hb); have n4_:=am_ (Kd.R_below (by (with_reducible repeat (first | apply Kd.R_alloc | apply Kd.R_drewN | apply Kd.R_drew)); exact (Kd.R_mono (Kd.R_far (p:=⟨gb284,3,none⟩) (Kd.R_far (p:=⟨gb284,2,none⟩) (Kd.R_far (p:=⟨gb284,1,none⟩) (Kd.R_far (p:=⟨gb284,0,none⟩) (Kd.R_types HO283.out BK284.out (by decide)) (fun _ hk => hk.2) (.int .i64 t276)) (fun _ hk => hk.2) (.int .i64 t277)) (fun _ hk => hk.2) (.slice Ao63 t278.length co63)) (fun _ hk => hk.2) (.slice Ao64 t281.length co64)) (fun _ h_ => h_.1))) hb); have n5_:=am_ (blk_below (g:=gb268) (o:=.cells #[.int .i64 a0_0,.int .i64 a0_1,.slice A0_2 l0_2.length c0_2,.slice A0_3 l0_3.length c0_3] 36 (0,0)) (bf4_ NB268_284.out NB268_284.out NB268_284.out NB268_284.out BK268.out) hb); have n6_:=am_ (blk_below (g:=gb269) (o:=.cells #[.int .i64 0,.int .i64 0,.slice none 0 0,.slice none 0 0] 36 (0,0)) (bf4_ NB269_284.out NB269_284.out NB269_284.out NB269_284.out BK269.out) hb); have n7_:=am_ (blk_below (g:=gb271) (o:=.cells #[.int .i64 x272000_1,.int .i64 x272001_1,u272002,u272003] 36 (0,0)) (bf4_ NB271_284.out NB271_284.out NB271_284.out NB271_284.out BK271.out) hb); have n8_:=am_ (blk_below (g:=gb284) (o:=.cells #[.int .i64 t276,.int .i64 t277,.slice Ao63 t278.length co63,.slice Ao64 t281.length co64] 36 (0,0)) (by (with_reducible repeat (first | refine blk_drewN ?_ _ | refine blk_drew ?_ | refine blk_alloc ?_ _)); refine blk_put (cs:=#[.int .i64 t276,.int .i64 t277,.slice Ao63 t278.length co63,.slice none 0 0]) ?_ 3 _ rfl; (with_reducible repeat (first | refine blk_drewN ?_ _ | refine blk_drew ?_ | refine blk_alloc ?_ _)); refine blk_put (cs:=#[.int .i64 t276,.int .i64 t277,.slice none 0 0,.slice none 0 0]) ?_ 2 _ rfl; (with_reducible repeat (first | refine blk_drewN ?_ _ | refine blk_drew ?_ | refine blk_alloc ?_ _)); refine blk_put (cs:=#[.int .i64 t276,.int .i64 0,.slice none 0 0,.slice none 0 0]) ?_ 1 _ rfl; (with_reducible repeat (first | refine blk_drewN ?_ _ | refine blk_drew ?_ | refine blk_alloc ?_ _)); refine blk_put (cs:=#[.int .i64 0,.int .i64 0,.slice none 0 0,.slice none 0 0]) ?_ 0 _ rfl; (with_reducible repeat (first | refine blk_drewN ?_ _ | refine blk_drew ?_ | refine blk_alloc ?_ _)); exact BK284.out) hb); have n9_:=am_ (below_step (bl4_ HB.out GE268.out GE269.out GE271.out GE284.out) hb); clear HO_16; clear HO_272002; clear HO_272003; clear HO280; clear HO283; clear BK268; clear BK269; clear BK271; clear BK284; clear HB; have HO_16:=n0_; have HO_272002:=n1_; have HO_272003:=n2_; have HO280:=n3_; have HO283:=n4_; have BK268:=n5_; have BK269:=n6_; have BK271:=n7_; have BK284:=n8_; have HB:=n9_; clear n0_ n1_ n2_ n3_ n4_ n5_ n6_ n7_ n8_ n9_; (try clear hb); (try clear hb2); (try clear hk); (try clear hi)))
         go_roundg k1
         case measure => have:=HK1.out; omega
         case rel => exact ⟨(x5_1),(wrap64 (x18_1 + 1)),(x272000_1),(x272001_1),(x272002_1),(x272003_1),(u272002),(u272003),rs_,rs_,H',⟨by have:=HK1.out; omega⟩,⟨by (with_reducible repeat (first | apply Kd.R_alloc | apply Kd.R_drewN | apply Kd.R_drew)); exact Kd.R_mono HO_16.out (fun _ hk => ⟨hk.1.1.1,hk.1.1.2⟩)⟩,⟨by (with_reducible repeat (first | apply Kd.R_alloc | apply Kd.R_drewN | apply Kd.R_drew)); exact Kd.R_mono HO_272002.out (fun _ hk => ⟨hk.1.1.1,hk.1.1.2⟩)⟩,⟨by (with_reducible repeat (first | apply Kd.R_alloc | apply Kd.R_drewN | apply Kd.R_drew)); exact Kd.R_mono HO_272003.out (fun _ hk => ⟨hk.1.1.1,hk.1.1.2⟩)⟩,⟨bk_ BK268.out⟩,⟨bk_ BK269.out⟩,⟨bk_ BK271.out⟩,⟨bl4_ HB.out GE268.out GE269.out GE271.out GE284.out⟩⟩
      ·rw [if_neg c19] at H
       exact absurd H (by simp)
     ·rw [if_neg c18] at H
      exact absurd H (by simp)
    ·rw [if_neg c17] at H
     have c17b0:decide (x18_1 < (t272.length:Int)) = false:=decide_eq_false c17
     clear c17
     simp only [Option.some.injEq,Prod.mk.injEq] at H
     obtain ⟨rfl,rfl,rfl,rfl,rfl⟩:=H
     have hnb66:=NB271_268.out
     have hnc66:=NB268_271.out
     have hnb67:=NB271_269.out
     have hnc67:=NB269_271.out
     have hcz68_0:wr.cell? ⟨gb271,0,none⟩ = some (.int .i64 x272000_1):=(bc_ BK271.out 0).trans rfl
     have hcz68_1:wr.cell? ⟨gb271,1,none⟩ = some (.int .i64 x272001_1):=(bc_ BK271.out 1).trans rfl
     have hcz68_2:wr.cell? ⟨gb271,2,none⟩ = some (u272002):=(bc_ BK271.out 2).trans rfl
     have hcz68_3:wr.cell? ⟨gb271,3,none⟩ = some (u272003):=(bc_ BK271.out 3).trans rfl
     have hfz68_0:=bz_ BK271.out 0
     have hfz68_1:=bz_ BK271.out 1
     have hfz68_2:=bz_ BK271.out 2
     have hfz68_3:=bz_ BK271.out 3
     have hnb69:=NB269_268.out
     have hnc69:=NB268_269.out
     have hcz70_0:wr.cell? ⟨gb269,0,none⟩ = some (.int .i64 0):=(bc_ BK269.out 0).trans rfl
     have hcz70_1:wr.cell? ⟨gb269,1,none⟩ = some (.int .i64 0):=(bc_ BK269.out 1).trans rfl
     have hcz70_2:wr.cell? ⟨gb269,2,none⟩ = some (.slice none 0 0):=(bc_ BK269.out 2).trans rfl
     have hcz70_3:wr.cell? ⟨gb269,3,none⟩ = some (.slice none 0 0):=(bc_ BK269.out 3).trans rfl
     have hfz70_0:=bz_ BK269.out 0
     have hfz70_1:=bz_ BK269.out 1
     have hfz70_2:=bz_ BK269.out 2
     have hfz70_3:=bz_ BK269.out 3
     obtain ⟨Ao71,co71,eo71⟩:=Kd.R_slice HO_272002.out
     subst eo71
     obtain ⟨Ao72,co72,eo72⟩:=Kd.R_slice HO_272003.out
     subst eo72
     go_wp2
     refine bodyPost_ret (results_ct rfl _ _ gb269 36 #[.int .i64 x272000_1,.int .i64 x272001_1,.slice Ao71 x272002_1.length co71,.slice Ao72 x272003_1.length co72] (0,0) _ rfl (by (with_reducible repeat (first | refine blk_drewN ?_ _ | refine blk_drew ?_ | refine blk_alloc ?_ _)); refine blk_put (cs:=#[.int .i64 x272000_1,.int .i64 x272001_1,.slice Ao71 x272002_1.length co71,.slice none 0 0]) ?_ 3 _ rfl; (with_reducible repeat (first | refine blk_drewN ?_ _ | refine blk_drew ?_ | refine blk_alloc ?_ _)); refine blk_put (cs:=#[.int .i64 x272000_1,.int .i64 x272001_1,.slice none 0 0,.slice none 0 0]) ?_ 2 _ rfl; (with_reducible repeat (first | refine blk_drewN ?_ _ | refine blk_drew ?_ | refine blk_alloc ?_ _)); refine blk_put (cs:=#[.int .i64 x272000_1,.int .i64 0,.slice none 0 0,.slice none 0 0]) ?_ 1 _ rfl; (with_reducible repeat (first | refine blk_drewN ?_ _ | refine blk_drew ?_ | refine blk_alloc ?_ _)); refine blk_put (cs:=#[.int .i64 0,.int .i64 0,.slice none 0 0,.slice none 0 0]) ?_ 0 _ rfl; (with_reducible repeat (first | refine blk_drewN ?_ _ | refine blk_drew ?_ | refine blk_alloc ?_ _)); exact BK269.out) Tryd.underlying36 rfl (by kernel_rfl)) rfl ?_
     exact ⟨_,_,er_,by (with_reducible repeat (first | apply Kd.R_alloc | apply Kd.R_drewN | apply Kd.R_drew)); exact Kd.R_mono (Kd.R_far (p:=⟨gb269,3,none⟩) (Kd.R_far (p:=⟨gb269,2,none⟩) (Kd.R_far (p:=⟨gb269,1,none⟩) (Kd.R_far (p:=⟨gb269,0,none⟩) (Kd.R_types HO_272002.out BK269.out (by decide)) (fun _ hk => hk.2) (.int .i64 x272000_1)) (fun _ hk => hk.2) (.int .i64 x272001_1)) (fun _ hk => hk.2) (.slice Ao71 x272002_1.length co71)) (fun _ hk => hk.2) (.slice Ao72 x272003_1.length co72)) (fun _ hk => hk.1.2),by (with_reducible repeat (first | apply Kd.R_alloc | apply Kd.R_drewN | apply Kd.R_drew)); exact Kd.R_mono (Kd.R_far (p:=⟨gb269,3,none⟩) (Kd.R_far (p:=⟨gb269,2,none⟩) (Kd.R_far (p:=⟨gb269,1,none⟩) (Kd.R_far (p:=⟨gb269,0,none⟩) (Kd.R_types HO_272003.out BK269.out (by decide)) (fun _ hk => hk.2) (.int .i64 x272000_1)) (fun _ hk => hk.2) (.int .i64 x272001_1)) (fun _ hk => hk.2) (.slice Ao71 x272002_1.length co71)) (fun _ hk => hk.2) (.slice Ao72 x272003_1.length co72)) (fun _ hk => hk.1.2),bl3_ HB.out GE268.out GE269.out GE271.out⟩
 ·replace c3:=Bool.eq_false_iff.mpr c3
  subst c3
  have H1:(some (0,0,([]:List Int),([]:List Int),false)) = some (r1,r2,r3,r4,r5):=by rw [if_neg (show ¬ (false = true) by decide)] at H; exact H
  clear H
  have H:=H1
  clear H1
  simp only [Option.some.injEq,Prod.mk.injEq] at H
  obtain ⟨rfl,rfl,rfl,rfl,rfl⟩:=H
  go_enter Tryd.func28,Tryd.ntmps28
  go_wp2_with (first | ((with_reducible refine gate_dst (N:=1) rfl ?_); refine boxE_ (N:=1) (cs:=#[.int .i64 a0_0,.int .i64 a0_1,.slice A0_2 l0_2.length c0_2,.slice A0_3 l0_3.length c0_3]) (t:=36) ?_; intro gb268 hg w73 hbox hb; have n0_:=am_ (below_step (bl0_ HB.out) hb); have n1_:=am_ (hbox); have n2_:=am_ ((bs0_ hg HB.out:w.heap.size ≤ gb268)); have n3_:=am_ ((bs0_ hg HB.out:w.heap.size ≤ gb268)); clear HB; have HB:=n0_; have BK268:=n1_; have GW268:=n2_; have GE268:=n3_; clear n0_ n1_ n2_ n3_; clear hb hbox hg) | ((with_reducible refine gate_dst (N:=2) rfl ?_); refine boxE_ (N:=2) (cs:=#[.int .i64 0,.int .i64 0,.slice none 0 0,.slice none 0 0]) (t:=36) ?_; intro gb269 hg w74 hbox hb; have n0_:=am_ (bb_ BK268.out hb); have n1_:=am_ (below_step (bl1_ HB.out GE268.out) hb); have n2_:=am_ (hbox); have n3_:=am_ ((bs1_ hg HB.out GE268.out:w.heap.size ≤ gb269)); have n4_:=am_ ((bs1_ hg HB.out GE268.out:w.heap.size ≤ gb269)); have n5_:=am_ ((nl_ hg BK268.out:gb268 ≠ gb269)); have n6_:=am_ ((ng_ hg BK268.out:gb269 ≠ gb268)); clear BK268; clear HB; have BK268:=n0_; have HB:=n1_; have BK269:=n2_; have GW269:=n3_; have GE269:=n4_; have NB268_269:=n5_; have NB269_268:=n6_; clear n0_ n1_ n2_ n3_ n4_ n5_ n6_; clear hb hbox hg; have hnb75:=NB268_269.out; have hnc75:=NB269_268.out; have hcz76_0:w74.cell? ⟨gb268,0,none⟩ = some (.int .i64 a0_0):=(bc_ BK268.out 0).trans rfl; have hcz76_1:w74.cell? ⟨gb268,1,none⟩ = some (.int .i64 a0_1):=(bc_ BK268.out 1).trans rfl; have hcz76_2:w74.cell? ⟨gb268,2,none⟩ = some (.slice A0_2 l0_2.length c0_2):=(bc_ BK268.out 2).trans rfl; have hcz76_3:w74.cell? ⟨gb268,3,none⟩ = some (.slice A0_3 l0_3.length c0_3):=(bc_ BK268.out 3).trans rfl; have hfz76_0:=bz_ BK268.out 0; have hfz76_1:=bz_ BK268.out 1; have hfz76_2:=bz_ BK268.out 2; have hfz76_3:=bz_ BK268.out 3) | ((with_reducible refine gate_callee (f:=44) rfl ?_); refine goesL_ (some 11) rfl rfl Tryd.func44 (by kernel_rfl) rfl #[.agg #[.int .i64 a0_0,.int .i64 a0_1,.slice A0_2 l0_2.length c0_2,.slice A0_3 l0_3.length c0_3]] rfl ob_ ?_; (with_reducible refine (spec_sqFew.calls k a0_0 a0_1 _ _ l0_2 _ _ l0_3 false _ ?side1 ?side2 ?side3 ?side4 A2.out).mono ?_); (case side1 => exact kc_ (Kd.C_below HR0_2.out HB.out)); (case side2 => exact HC0_2.out); (case side3 => exact kc_ (Kd.C_below HR0_3.out HB.out)); (case side4 => exact HC0_3.out); rintro e w77 ⟨rfl,hb⟩; refine ⟨_,rfl,?_⟩; have n0_:=am_ (bb_ BK268.out hb); have n1_:=am_ (bb_ BK269.out hb); have n2_:=am_ (below_step (bl2_ HB.out GE268.out GE269.out) hb); clear BK268; clear BK269; clear HB; have BK268:=n0_; have BK269:=n1_; have HB:=n2_; clear n0_ n1_ n2_; (try clear hb); (try clear hb2); (try clear hk); (try clear hi); have hcz78_0:w77.cell? ⟨gb269,0,none⟩ = some (.int .i64 0):=(bc_ BK269.out 0).trans rfl; have hcz78_1:w77.cell? ⟨gb269,1,none⟩ = some (.int .i64 0):=(bc_ BK269.out 1).trans rfl; have hcz78_2:w77.cell? ⟨gb269,2,none⟩ = some (.slice none 0 0):=(bc_ BK269.out 2).trans rfl; have hcz78_3:w77.cell? ⟨gb269,3,none⟩ = some (.slice none 0 0):=(bc_ BK269.out 3).trans rfl; have hfz78_0:=bz_ BK269.out 0; have hfz78_1:=bz_ BK269.out 1; have hfz78_2:=bz_ BK269.out 2; have hfz78_3:=bz_ BK269.out 3))
  refine bodyPost_ret (results_ct rfl _ _ gb269 36 #[.int .i64 0,.int .i64 0,.slice none 0 0,.slice none 0 0] (0,0) _ rfl (by (with_reducible repeat (first | refine blk_drewN ?_ _ | refine blk_drew ?_ | refine blk_alloc ?_ _)); refine blk_put (cs:=#[.int .i64 0,.int .i64 0,.slice none 0 0,.slice none 0 0]) ?_ 3 _ rfl; (with_reducible repeat (first | refine blk_drewN ?_ _ | refine blk_drew ?_ | refine blk_alloc ?_ _)); refine blk_put (cs:=#[.int .i64 0,.int .i64 0,.slice none 0 0,.slice none 0 0]) ?_ 2 _ rfl; (with_reducible repeat (first | refine blk_drewN ?_ _ | refine blk_drew ?_ | refine blk_alloc ?_ _)); refine blk_put (cs:=#[.int .i64 0,.int .i64 0,.slice none 0 0,.slice none 0 0]) ?_ 1 _ rfl; (with_reducible repeat (first | refine blk_drewN ?_ _ | refine blk_drew ?_ | refine blk_alloc ?_ _)); refine blk_put (cs:=#[.int .i64 0,.int .i64 0,.slice none 0 0,.slice none 0 0]) ?_ 0 _ rfl; (with_reducible repeat (first | refine blk_drewN ?_ _ | refine blk_drew ?_ | refine blk_alloc ?_ _)); exact BK269.out) Tryd.underlying36 rfl (by kernel_rfl)) rfl ?_
  exact ⟨_,_,er_,by first | exact Kd.R_nil _ _ _ _ _ | exact Kd.N_nil _ _ _ _ _ | exact Kd.V_nil _ _ _ _ _ | exact Kd.Q_nil _ _ _ _ _ | exact Kd.S_nil _ _ _ _ _,by first | exact Kd.R_nil _ _ _ _ _ | exact Kd.N_nil _ _ _ _ _ | exact Kd.V_nil _ _ _ _ _ | exact Kd.Q_nil _ _ _ _ _ | exact Kd.S_nil _ _ _ _ _,bl2_ HB.out GE268.out GE269.out⟩


theorem least_le (P:Nat → Prop):∀ n,(∃ i,i ≤ n ∧ P i) → ∃ K,K ≤ n ∧ P K ∧ ∀ j,j < K → ¬ P j
  | 0,⟨i,hi,h⟩ => by
    obtain rfl:i = 0:=by omega
    exact ⟨0,Nat.le_refl _,h,fun j hj => absurd hj (Nat.not_lt_zero j)⟩
  | n + 1,⟨i,hi,h⟩ => by
    by_cases hn:∃ j,j ≤ n ∧ P j
    · obtain ⟨K,h1,h2,h3⟩:=least_le P n hn
      exact ⟨K,by omega,h2,h3⟩
    · have e:i = n + 1:=by
        rcases Nat.lt_or_ge i (n + 1) with h4 | h4
        · exact absurd ⟨i,by omega,h⟩ hn
        · omega
      rw [e] at h
      exact ⟨n + 1,Nat.le_refl _,h,fun j hj hp => hn ⟨j,by omega,hp⟩⟩
theorem hitW_some {Ls:List Nat} (hL:∀ s ∈ Ls,s ≠ 0 ∧ s < 2 ^ 60):∀ (m ch:Nat),ch < 2 ^ 60 → 60 ≤ popB 60 ch + m → hitW Ls m ch ≠ []:=by
  intro m
  induction m with
  | zero =>
    intro ch hc hp
    rcases hm:missF Ls ch with _ | s
    · rw [hitW_none hm]; simp
    · exfalso
      obtain ⟨h0,h60⟩:=hL s (missF_mem hm)
      obtain ⟨q1,q2,-⟩:=low_bits s h0 h60
      have:=popB_or 60 ch _ q1 (free_bit (missF_free hm) q2)
      have:=popB_le 60 (ch ||| 2 ^ Lib.ctz 64 s)
      omega
  | succ m ih =>
    intro ch hc hp
    rcases hm:missF Ls ch with _ | s
    · rw [hitW_none hm]; simp
    · obtain ⟨h0,h60⟩:=hL s (missF_mem hm)
      obtain ⟨q1,q2,-⟩:=low_bits s h0 h60
      have h1:=popB_or 60 ch _ q1 (free_bit (missF_free hm) q2)
      have h2:=ih (ch ||| 2 ^ Lib.ctz 64 s) (Nat.or_lt_two_pow hc (pow_lt60 q1)) (by omega)
      rw [hitW_succ hm]
      intro h3
      rw [List.flatMap_eq_nil_iff] at h3
      have h4:=h3 ((Lib.ctz 64 s:Nat):Int) (by unfold bitsI; rw [bitsN_step s h0 h60]; simp)
      rw [Int.toNat_natCast] at h4
      exact h2 h4
theorem hitW_least {Ls:List Nat} (hL:∀ s ∈ Ls,s ≠ 0 ∧ s < 2 ^ 60):∃ K,K ≤ 60 ∧ hitW Ls K 0 ≠ [] ∧ ∀ j,j < K → hitW Ls j 0 = []:=by
  obtain ⟨K,h1,h2,h3⟩:=least_le (fun m => hitW Ls m 0 ≠ []) 60 ⟨60,Nat.le_refl _,hitW_some hL 60 0 (by decide) (by rw [popB_zero]; omega)⟩
  exact ⟨K,h1,h2,fun j hj => Decidable.byContradiction fun h => h3 j hj h⟩


def sqsPos (w h:Nat):Bool:=match impl_grid_squares.f 200 (w:Int) (h:Int) with | some L => L.all (fun q => decide (0 < q.f3)) | none => false
theorem sqp_all:((List.range 4).all fun a => (List.range 4).all fun b => sqsPos (a + 1) (b + 1)) = true:=by decide +kernel
theorem sqsPos_of (w h:Nat) (h1:1 ≤ w) (h2:w ≤ 4) (h3:1 ≤ h) (h4:h ≤ 4):sqsPos w h = true:=by
  have h5:=List.all_eq_true.1 (List.all_eq_true.1 sqp_all (w - 1) (List.mem_range.2 (by omega))) (h - 1) (List.mem_range.2 (by omega))
  rw [show w - 1 + 1 = w by omega,show h - 1 + 1 = h by omega] at h5
  exact h5


def spec_FewestToTake.f (k:Nat) (a0_0:Int) (a0_1:Int) (l0_2:List Int) (l0_3:List Int):Option (Int × Bool):=(spec_sqFew.f k a0_0 a0_1 l0_2 l0_3).bind fun t164 => (if t164 = true then ((spec_sqAll.f k a0_0 a0_1).bind fun t165 => ((spec_sqMask.f k a0_0 a0_1 l0_2 l0_3).bind fun t168 => ((spec_sqFewest.f k t165 t168).bind fun t169 => (some (t169,true))))) else (some (0,false)))
theorem spec_FewestToTake.mono:∀ a0 a1 a2 a3 k,LeO (spec_FewestToTake.f k a0 a1 a2 a3) (spec_FewestToTake.f (k + 1) a0 a1 a2 a3):=by
  intro a0 a1 a2 a3 k
  unfold spec_FewestToTake.f
  repeat' first | (with_reducible first | exact spec_sqAll.mono _ _ _ | exact spec_sqFew.mono _ _ _ _ _ | exact spec_sqFewest.mono _ _ _ | exact spec_sqMask.mono _ _ _ _ _ | exact LeO.refl _ | exact LeO.none _ | refine LeO.ite ?_ ?_ | refine LeO.bind ?_ (fun _ => ?_)) | exact spec_sqAll.mono _ _ _ | exact spec_sqFew.mono _ _ _ _ _ | exact spec_sqFewest.mono _ _ _ | exact spec_sqMask.mono _ _ _ _ _
def spec_FewestToTake.T3:Bool × List (List Nat × List Nat):=(true,[([],[]),([0],[0]),([],[]),([2],[2]),([1,3],[1,3]),([],[]),([5,4],[5]),([4,6,6],[4,6]),([7,7,0,1,2,3,4,5,6,7],[7]),([8,0,1,2,3,4,5,6,7,8],[])])
def spec_FewestToTake.B3:List Nat:=[0,1,0,4,15,0,63,127,255,511]

theorem sqFewest_l0 {PL:List S122} {E:List Nat} (h:PL.map (fun q => q.f3) = E.map (fun n:Nat => (n:Int))) (hE:∀ e ∈ E,e < 2 ^ 60) (hl:E.length ≤ 30) (M:Nat) (hM:M < 2 ^ 60) {K:Nat} (hK:K ≤ 60) (hne:hitW (E.filter fun e => subE e M) K 0 ≠ []) (hmin:∀ j,j < K → hitW (E.filter fun e => subE e M) j 0 = []) :
    ∀ (d j k:Nat),K - j = d → j ≤ K → 13000 + d < k → spec_sqFewest.l0 k PL (M:Int) (j:Int) = some (K:Int):=by
  intro d
  induction d with
  | zero =>
    intro j k h1 h2 hk
    obtain rfl:j = K:=by omega
    obtain ⟨k,rfl⟩:∃ q,k = q + 1:=⟨k - 1,by omega⟩
    have hs:=sqHit_f h hE hl M hM j k 0 (by omega) (by omega) (by decide)
    rw [diffN_none] at hs
    have he:(hitW (E.filter fun e => subE e M) j 0).isEmpty = false:=by
      cases hh:hitW (E.filter fun e => subE e M) j 0 with
      | nil => exact absurd hh hne
      | cons a t => rfl
    rw [spec_sqFewest.l0,hs,he,Option.bind_some,if_pos (show (!false) = true from rfl)]
  | succ d ih =>
    intro j k h1 h2 hk
    obtain ⟨k,rfl⟩:∃ q,k = q + 1:=⟨k - 1,by omega⟩
    have hs:=sqHit_f h hE hl M hM j k 0 (by omega) (by omega) (by decide)
    rw [diffN_none,hmin j (by omega)] at hs
    have hw:wrap64 ((j:Int) + 1) = ((j + 1:Nat):Int):=by clear ih hs; unfold wrap64; omega
    rw [spec_sqFewest.l0,hs,Option.bind_some,if_neg (by simp),hw]
    exact ih (j + 1) k (by omega) (by omega) (by omega)
def FewOK (w h:Int) (a u:List Int) (K:Nat) (qs:List S118):Prop :=
  impl_Figure_squares.f 4000001 w h a u = some qs ∧ (∀ q ∈ qs,0 ≤ q.f3 ∧ q.f3 < 2 ^ 40) ∧ qs.length ≤ 1000000 ∧ K ≤ 64 ∧ hitW (qs.map fun q => q.f3.toNat) K 0 ≠ [] ∧ ∀ j,j < K → hitW (qs.map fun q => q.f3.toNat) j 0 = []
def sqs40 (w h:Nat):Bool:=match impl_grid_squares.f 200 (w:Int) (h:Int) with | some L => L.all (fun q => decide (q.f3 < 2 ^ 40)) | none => false
theorem sq40_all:((List.range 4).all fun a => (List.range 4).all fun b => sqs40 (a + 1) (b + 1)) = true:=by decide +kernel
theorem sqs40_of (w h:Nat) (h1:1 ≤ w) (h2:w ≤ 4) (h3:1 ≤ h) (h4:h ≤ 4):sqs40 w h = true:=by
  have h5:=List.all_eq_true.1 (List.all_eq_true.1 sq40_all (w - 1) (List.mem_range.2 (by omega))) (h - 1) (List.mem_range.2 (by omega))
  rw [show w - 1 + 1 = w by omega,show h - 1 + 1 = h by omega] at h5
  exact h5
theorem figB_grid {w h:Int} {a u:List Int} (hf:figB w h a u = true):1 ≤ w ∧ w ≤ 4 ∧ 1 ≤ h ∧ h ≤ 4:=by
  unfold figB at hf
  simp only [Bool.and_eq_true] at hf
  obtain ⟨hg,-,-,-,-⟩:=hf
  exact grid_bounds (by simp only [Bool.and_eq_true]; exact hg)

theorem bitsFrom_lt40 (s:Nat) (l:List Int):∀ m,m < 2 ^ 40 → (∀ k ∈ l,s + k.toNat < 40) → bitsFrom s l m < 2 ^ 40:=by
  induction l with
  | nil => intro m hm _; exact hm
  | cons a t ih =>
    intro m hm h
    exact ih _ (Nat.or_lt_two_pow hm (Nat.pow_lt_pow_right (by decide) (h a (by simp)))) (fun k hk => h k (by simp [hk]))
theorem figMask_lt40 {w h:Int} {a u:List Int} (hf:figB w h a u = true):figMask w h a u < 2 ^ 40:=by
  unfold figB at hf
  simp only [Bool.and_eq_true] at hf
  obtain ⟨hg,-,-,hi1,hi2⟩:=hf
  obtain ⟨b1,b2,b3,b4⟩:=grid_bounds (by simp only [Bool.and_eq_true]; exact hg)
  obtain ⟨c1,c2,c3,c4⟩:=area_bounds b1 b2 b3 b4
  refine bitsFrom_lt40 _ _ _ (bitsFrom_lt40 _ _ _ (by decide) (fun k hk => ?_)) (fun k hk => ?_)
  · have:=inB_mem hi1 k hk; omega
  · have:=inB_mem hi2 k hk; omega
theorem few_no {w h:Int} {a u:List Int} (ha:a.length ≤ 1000000) (hu:u.length ≤ 1000000) (hn:¬ (figB w h a u = true ∧ wrap64 (w * h) ≤ 9)) :
    spec_sqFew.f 4000001 w h a u = some false ∧ impl_isFew.f 4000001 w h a u = some false:=by
  unfold spec_sqFew.f impl_isFew.f
  rw [fiGood_f w h a u ha hu _ (by decide),IsFigure_f w h a u ha hu _ (by decide)]
  cases hf:figB w h a u with
  | false => exact ⟨rfl,rfl⟩
  | true =>
    have h9:¬ wrap64 (w * h) ≤ 9:=fun h9 => hn ⟨hf,h9⟩
    have e:decide (wrap64 (w * h) ≤ 9) = false:=decide_eq_false h9
    exact ⟨congrArg some e,congrArg some e⟩
structure FewCore (w h:Int) (a u:List Int) (K:Nat) (E:List Nat) (qs:List S118) (PL:List S122):Prop where
  all:spec_sqAll.f 4000001 w h = some PL
  mask:spec_sqMask.f 4000001 w h a u = some ((figMask w h a u:Nat):Int)
  few:spec_sqFewest.f 4000001 PL ((figMask w h a u:Nat):Int) = some (K:Int)
  k60:K ≤ 60
  eqs:PL.map (fun q => q.f3) = E.map (fun n:Nat => (n:Int))
  e60:∀ e ∈ E,e < 2 ^ 60
  e30:E.length ≤ 30
  qsE:(qs.map fun q => q.f3.toNat) = E.filter fun e => subE e (figMask w h a u)
  fok:FewOK w h a u K qs
  sfew:spec_sqFew.f 4000001 w h a u = some true
  ifew:impl_isFew.f 4000001 w h a u = some true
theorem few_yes {w h:Int} {a u:List Int} (ha:a.length ≤ 1000000) (hu:u.length ≤ 1000000) (hf:figB w h a u = true) (h9:wrap64 (w * h) ≤ 9) :
    ∃ K E qs PL,FewCore w h a u K E qs PL:=by
  obtain ⟨gw1,gw4,gh1,gh4⟩:=figB_grid hf
  have hM60:=figMask_lt hf
  obtain ⟨L,PL,E,hL,hP,hLE,hPE,hE,hl⟩:=squares_f gw1 gw4 gh1 gh4 200 (by decide)
  have hEl:E.length ≤ 30:=by have:=congrArg List.length hLE; simp at this; omega
  have hwn:=Int.toNat_of_nonneg (show 0 ≤ w by omega)
  have hhn:=Int.toNat_of_nonneg (show 0 ≤ h by omega)
  have hpos:∀ e ∈ E,e ≠ 0:=by
    have hp:=sqsPos_of w.toNat h.toNat (by omega) (by omega) (by omega) (by omega)
    unfold sqsPos at hp
    rw [hwn,hhn,hL] at hp
    simp only [List.all_eq_true,decide_eq_true_eq] at hp
    intro e he h0
    have:((e:Nat):Int) ∈ L.map (fun q => q.f3):=by rw [hLE]; exact List.mem_map.2 ⟨e,he,rfl⟩
    obtain ⟨q,hq,hqe⟩:=List.mem_map.1 this
    have:=hp q hq
    omega
  have h40:∀ q ∈ L,0 ≤ q.f3 ∧ q.f3 < 2 ^ 40:=by
    have hp:=sqs40_of w.toNat h.toNat (by omega) (by omega) (by omega) (by omega)
    unfold sqs40 at hp
    rw [hwn,hhn,hL] at hp
    simp only [List.all_eq_true,decide_eq_true_eq] at hp
    intro q hq
    refine ⟨?_,hp q hq⟩
    have:q.f3 ∈ L.map (fun q => q.f3):=List.mem_map.2 ⟨q,hq,rfl⟩
    rw [hLE] at this
    obtain ⟨e,-,he⟩:=List.mem_map.1 this
    omega
  have hLk:impl_grid_squares.f 4000001 w h = some L:=up_rounds (fun k => impl_grid_squares.mono _ _ k) (by decide) hL
  have hPk:spec_sqAll.f 4000001 w h = some PL:=up_rounds (fun k => spec_sqAll.mono _ _ k) (by decide) hP
  obtain ⟨qs,o1,o2,o3⟩:=of_f hLE hE hl (figMask w h a u) hM60
  have hqs:(qs.map fun q => q.f3.toNat) = E.filter fun e => subE e (figMask w h a u):=by
    have h1:(qs.map fun q => q.f3.toNat) = (qs.map fun q => q.f3).map Int.toNat:=by rw [List.map_map]; rfl
    rw [h1,o2,List.map_map]
    exact List.map_id'' (fun n => Int.toNat_natCast n) _
  obtain ⟨K,k1,k2,k3⟩:=hitW_least (Ls:=E.filter fun e => subE e (figMask w h a u)) (fun s hs => ⟨hpos s (List.mem_filter.1 hs).1,hE s (List.mem_filter.1 hs).1⟩)
  refine ⟨K,E,qs,PL,⟨hPk,sqMask_f hf ha hu _ (by decide),?_,by omega,hPE,hE,hEl,hqs,⟨?_,?_,?_,by omega,by rw [hqs]; exact k2,by rw [hqs]; exact k3⟩,?_,?_⟩⟩
  · unfold spec_sqFewest.f
    rw [show (0:Int) = ((0:Nat):Int) from rfl]
    exact sqFewest_l0 hPE hE hEl (figMask w h a u) hM60 k1 k2 k3 K 0 4000001 (by omega) (Nat.zero_le _) (by omega)
  · unfold impl_Figure_squares.f impl_Figure_grid.f
    rw [Option.bind_some,hLk,Option.bind_some,set_f hf ha hu _ (by decide),Option.bind_some,o1,Option.bind_some]
  · intro q hq
    rw [o3] at hq
    exact h40 q (List.mem_filter.1 hq).1
  · rw [o3]
    exact Nat.le_trans (List.length_filter_le _ _) (by omega)
  · unfold spec_sqFew.f
    rw [fiGood_f w h a u ha hu _ (by decide),hf,Option.bind_some,if_pos rfl,decide_eq_true h9]
  · unfold impl_isFew.f
    rw [IsFigure_f w h a u ha hu _ (by decide),hf,Option.bind_some,if_pos rfl,decide_eq_true h9]


def spec_CountToTake.f (k:Nat) (a0_0:Int) (a0_1:Int) (l0_2:List Int) (l0_3:List Int):Option (Int × Bool):=(spec_sqFew.f k a0_0 a0_1 l0_2 l0_3).bind fun t226 => (if t226 = true then ((spec_sqLeft.f k a0_0 a0_1 l0_2 l0_3).bind fun t227 => (some ((t227.length:Int),true))) else (some (0,false)))
theorem spec_CountToTake.mono:∀ a0 a1 a2 a3 k,LeO (spec_CountToTake.f k a0 a1 a2 a3) (spec_CountToTake.f (k + 1) a0 a1 a2 a3):=by
  intro a0 a1 a2 a3 k
  unfold spec_CountToTake.f
  repeat' first | (with_reducible first | exact spec_sqFew.mono _ _ _ _ _ | exact spec_sqLeft.mono _ _ _ _ _ | exact LeO.refl _ | exact LeO.none _ | refine LeO.ite ?_ ?_ | refine LeO.bind ?_ (fun _ => ?_)) | exact spec_sqFew.mono _ _ _ _ _ | exact spec_sqLeft.mono _ _ _ _ _

theorem hitW_sub {Ls:List Nat} {M:Nat} (hL:∀ s ∈ Ls,subE s M = true):∀ (m ch:Nat),subE ch M = true → ∀ z ∈ hitW Ls m ch,subE z M = true:=by
  intro m
  induction m with
  | zero =>
    intro ch hc z hz
    rcases hm:missF Ls ch with _ | s
    · rw [hitW_none hm,List.mem_singleton] at hz; rw [hz]; exact hc
    · rw [hitW_zero hm] at hz; cases hz
  | succ m ih =>
    intro ch hc z hz
    rcases hm:missF Ls ch with _ | s
    · rw [hitW_none hm,List.mem_singleton] at hz; rw [hz]; exact hc
    · rw [hitW_succ hm,List.mem_flatMap] at hz
      obtain ⟨x,hx,hz⟩:=hz
      refine ih _ ?_ z hz
      rw [subE_test] at hc ⊢
      intro i hi
      rw [Nat.testBit_or,Bool.or_eq_true] at hi
      rcases hi with hi | hi
      · exact hc i hi
      · rw [Nat.testBit_two_pow] at hi
        have hi2:x.toNat = i:=by simpa using hi
        have h1:=subE_test.1 (hL s (missF_mem hm)) x.toNat (bitsI_test hx).2
        rw [hi2] at h1; exact h1
theorem diffN_inj {M a b:Nat} (ha:subE a M = true) (hb:subE b M = true) (h:diffN M a = diffN M b):a = b:=by
  rw [subE_test] at ha hb
  apply Nat.eq_of_testBit_eq
  intro i
  have h1:(diffN M a).testBit i = (diffN M b).testBit i:=by rw [h]
  rw [diffN_test,diffN_test] at h1
  cases hm:M.testBit i with
  | true =>
    rw [hm] at h1
    cases ha2:a.testBit i <;> cases hb2:b.testBit i <;> simp [ha2,hb2] at h1 ⊢
  | false =>
    have e1:a.testBit i = false:=by
      cases h2:a.testBit i with
      | false => rfl
      | true => rw [ha i h2] at hm; cases hm
    have e2:b.testBit i = false:=by
      cases h2:b.testBit i with
      | false => rfl
      | true => rw [hb i h2] at hm; cases hm
    rw [e1,e2]
theorem putN_addS {M:Nat}:∀ (ws:List Nat) (acc:List Int) (S:List Nat),(∀ z ∈ ws,subE z M = true) → acc.length = S.length → (∀ x,subE x M = true → (((diffN M x:Nat):Int) ∈ acc ↔ x ∈ S)) →
    ((ints (ws.map (diffN M))).foldl putN acc).length = (addS S ws).length ∧ ∀ x,subE x M = true → (((diffN M x:Nat):Int) ∈ (ints (ws.map (diffN M))).foldl putN acc ↔ x ∈ addS S ws)
  | [],acc,S,_,h1,h2 => ⟨h1,h2⟩
  | c :: ws,acc,S,hw,h1,h2 => by
    have hc:=hw c List.mem_cons_self
    have hcc:=h2 c hc
    show ((ints (ws.map (diffN M))).foldl putN (putN acc ((diffN M c:Nat):Int))).length = (addS (if c ∈ S then S else c :: S) ws).length ∧ ∀ x,subE x M = true → (((diffN M x:Nat):Int) ∈ (ints (ws.map (diffN M))).foldl putN (putN acc ((diffN M c:Nat):Int)) ↔ x ∈ addS (if c ∈ S then S else c :: S) ws)
    refine putN_addS ws _ _ (fun z hz => hw z (List.mem_cons_of_mem _ hz)) ?_ ?_
    · unfold putN
      by_cases h:c ∈ S
      · rw [if_pos h,if_pos (hcc.2 h)]; exact h1
      · rw [if_neg h,if_neg (fun hh => h (hcc.1 hh))]; simp [h1]
    · intro x hx
      unfold putN
      by_cases h:c ∈ S
      · rw [if_pos h,if_pos (hcc.2 h)]; exact h2 x hx
      · rw [if_neg h,if_neg (fun hh => h (hcc.1 hh)),List.mem_append,List.mem_singleton,List.mem_cons,h2 x hx]
        constructor
        · rintro (h | h)
          · exact .inr h
          · exact .inl (diffN_inj hx hc (Int.ofNat.inj h))
        · rintro (rfl | h)
          · exact .inr rfl
          · exact .inl h
theorem sqLeft_f {w h:Int} {a u:List Int} {K:Nat} {E:List Nat} {qs:List S118} {PL:List S122} (hf:figB w h a u = true) (c:FewCore w h a u K E qs PL) :
    spec_sqLeft.f 4000001 w h a u = some ((ints ((hitW (qs.map fun q => q.f3.toNat) K 0).map (diffN (figMask w h a u)))).foldl putN []):=by
  have hM:=figMask_lt40 hf
  unfold spec_sqLeft.f
  rw [c.all,Option.bind_some,c.mask,Option.bind_some,c.few,Option.bind_some]
  have hPn:(PL.map fun q => q.f3.toNat) = E:=by
    have h1:(PL.map fun q => q.f3.toNat) = (PL.map fun q => q.f3).map Int.toNat:=by rw [List.map_map]; rfl
    rw [h1,c.eqs,List.map_map]
    exact List.map_id'' (fun n => Int.toNat_natCast n) _
  have hlen:PL.length = E.length:=by have:=congrArg List.length c.eqs; simpa using this
  have hok:lftOK PL ((figMask w h a u:Nat):Int) (K:Int) = true:=by
    unfold lftOK
    have h1:PL.all (fun q => decide (0 ≤ q.f3) && decide (q.f3 < 1152921504606846976)) = true:=by
      rw [List.all_eq_true]
      intro q hq
      have h2:q.f3 ∈ PL.map (fun q => q.f3):=List.mem_map.2 ⟨q,hq,rfl⟩
      rw [c.eqs] at h2
      obtain ⟨e,he,h3⟩:=List.mem_map.1 h2
      have h4:=lit60 (c.e60 e he)
      rw [← h3,Bool.and_eq_true,decide_eq_true_iff,decide_eq_true_iff]
      exact ⟨Int.natCast_nonneg _,h4⟩
    have hk:=c.k60
    have he:=c.e30
    rw [h1,decide_eq_true (show PL.length ≤ 1000000 by omega),decide_eq_true (Int.natCast_nonneg (figMask w h a u)),decide_eq_true (show ((figMask w h a u:Nat):Int) < 1099511627776 by omega),decide_eq_true (Int.natCast_nonneg K),decide_eq_true (show (K:Int) ≤ 64 by omega)]
    rfl
  rw [if_pos hok]
  unfold lftL leftW
  rw [Int.toNat_natCast,Int.toNat_natCast,hPn,← c.qsE]

theorem rising_ext:∀ {l m:List Int},l.Pairwise (· < ·) → m.Pairwise (· < ·) → (∀ x,x ∈ l ↔ x ∈ m) → l = m
  | [],[],_,_,_ => rfl
  | [],b :: m,_,_,h => by have:=(h b).2 List.mem_cons_self; cases this
  | a :: l,[],_,_,h => by have:=(h a).1 List.mem_cons_self; cases this
  | a :: l,b :: m,h1,h2,h => by
    rw [List.pairwise_cons] at h1 h2
    have e:a = b:=by
      rcases List.mem_cons.1 ((h a).1 List.mem_cons_self) with e | e
      · exact e
      · rcases List.mem_cons.1 ((h b).2 List.mem_cons_self) with e2 | e2
        · exact e2.symm
        · have:=h2.1 a e; have:=h1.1 b e2; omega
    subst e
    rw [rising_ext h1.2 h2.2 (fun x => ?_)]
    constructor
    · intro hx
      rcases List.mem_cons.1 ((h x).1 (List.mem_cons_of_mem _ hx)) with e | e
      · have:=h1.1 x hx; omega
      · exact e
    · intro hx
      rcases List.mem_cons.1 ((h x).2 (List.mem_cons_of_mem _ hx)) with e | e
      · have:=h2.1 x hx; omega
      · exact e
theorem pw_rising:∀ {l:List Int},l.Pairwise (· < ·) → risingB l = true
  | [],_ => rfl
  | [a],_ => rfl
  | a :: b :: t,h => by
    rw [List.pairwise_cons] at h
    simp only [risingB,Bool.and_eq_true,decide_eq_true_iff]
    exact ⟨h.1 b List.mem_cons_self,pw_rising h.2⟩
def setL (n:Nat) (p:Nat → Bool):List Int:=((List.range n).filter p).map fun n:Nat => (n:Int)
theorem setL_pw (n:Nat) (p:Nat → Bool):(setL n p).Pairwise (· < ·):=by
  unfold setL
  rw [List.pairwise_map]
  exact (List.Pairwise.filter p List.pairwise_lt_range).imp (fun h => by omega)
theorem setL_mem (n:Nat) (p:Nat → Bool) (x:Int):x ∈ setL n p ↔ ∃ i:Nat,(i:Int) = x ∧ i < n ∧ p i = true:=by
  unfold setL
  rw [List.mem_map]
  constructor
  · rintro ⟨i,hi,rfl⟩
    rw [List.mem_filter,List.mem_range] at hi
    exact ⟨i,rfl,hi⟩
  · rintro ⟨i,rfl,hi⟩
    exact ⟨i,by rw [List.mem_filter,List.mem_range]; exact hi,rfl⟩
theorem setL_len (n:Nat) (p:Nat → Bool):(setL n p).length ≤ n:=by
  unfold setL
  rw [List.length_map]
  have:=List.length_filter_le p (List.range n)
  rw [List.length_range] at this
  exact this
theorem setL_eq {n m:Nat} {p q:Nat → Bool} (h:∀ i,(i < n ∧ p i = true) ↔ (i < m ∧ q i = true)):setL n p = setL m q:=by
  refine rising_ext (setL_pw n p) (setL_pw m q) (fun x => ?_)
  rw [setL_mem,setL_mem]
  constructor
  · rintro ⟨i,hi,h2⟩; exact ⟨i,hi,(h i).1 h2⟩
  · rintro ⟨i,hi,h2⟩; exact ⟨i,hi,(h i).2 h2⟩
theorem setL_in (n:Nat) (p:Nat → Bool) (i:Nat):(i:Int) ∈ setL n p ↔ i < n ∧ p i = true:=by
  rw [setL_mem]
  constructor
  · rintro ⟨j,hj,h⟩
    have:j = i:=by omega
    subst this
    exact h
  · intro h; exact ⟨i,rfl,h⟩
theorem setL_succ (n:Nat) (p:Nat → Bool):setL (n + 1) p = setL n p ++ if p n = true then [(n:Int)] else []:=by
  unfold setL
  rw [List.range_succ,List.filter_append,List.map_append]
  congr 1
  cases h:p n with
  | true => rw [List.filter_cons_of_pos h]; rfl
  | false => rw [List.filter_cons_of_neg (by rw [h]; simp)]; rfl


def rowA (w h:Int) (M:Nat):List Int:=setL (w * (h + 1)).toNat fun i => M.testBit i
def rowU (w h:Int) (M:Nat):List Int:=setL (h * (w + 1)).toNat fun i => M.testBit ((w * (h + 1)).toNat + i)
def figN (w h:Int):Nat:=(w * (h + 1)).toNat + (h * (w + 1)).toNat
theorem figN_le {w h:Int} (g:GridOK w h):figN w h ≤ 40 ∧ (w * (h + 1)).toNat ≤ 20 ∧ (h * (w + 1)).toNat ≤ 20:=by
  obtain ⟨c1,c2,c3,c4⟩:=area_bounds g.w1 g.w4 g.h1 g.h4
  unfold figN
  omega
theorem rowA_len {w h:Int} (g:GridOK w h) (M:Nat):(rowA w h M).length ≤ 20:=Nat.le_trans (setL_len _ _) (figN_le g).2.1
theorem rowU_len {w h:Int} (g:GridOK w h) (M:Nat):(rowU w h M).length ≤ 20:=Nat.le_trans (setL_len _ _) (figN_le g).2.2
theorem pow_figN {w h:Int} (g:GridOK w h) {M:Nat} (hM:M < 2 ^ figN w h):M < 2 ^ 60:=Nat.lt_of_lt_of_le hM (Nat.pow_le_pow_right (by omega) (by have:=(figN_le g).1; omega))
theorem figMask_figN {w h:Int} {a u:List Int} (hf:figB w h a u = true):figMask w h a u < 2 ^ figN w h:=by
  have g:=gridOK_of hf
  obtain ⟨c1,c2,c3,c4⟩:=area_bounds g.w1 g.w4 g.h1 g.h4
  unfold figB at hf
  simp only [Bool.and_eq_true] at hf
  obtain ⟨hg,-,-,hi1,hi2⟩:=hf
  apply Nat.lt_pow_two_of_testBit
  intro i hi
  unfold figN at hi
  unfold figMask
  rw [bitsFrom_test,bitsFrom_test,Nat.zero_testBit,Bool.false_or,Bool.or_eq_false_iff]
  constructor
  · rw [List.any_eq_false]
    intro x hx
    have hb:=inB_mem hi1 x hx
    simp
    omega
  · rw [List.any_eq_false]
    intro x hx
    have hb:=inB_mem hi2 x hx
    simp
    omega
theorem rowA_in {w h:Int} {M i:Nat} (hi:i < (w * (h + 1)).toNat):(i:Int) ∈ rowA w h M ↔ M.testBit i = true:=by
  unfold rowA; rw [setL_in]; exact ⟨fun h => h.2,fun h => ⟨hi,h⟩⟩
theorem rowU_in {w h:Int} {M i:Nat} (hi:i < (h * (w + 1)).toNat):(i:Int) ∈ rowU w h M ↔ M.testBit ((w * (h + 1)).toNat + i) = true:=by
  unfold rowU; rw [setL_in]; exact ⟨fun h => h.2,fun h => ⟨hi,h⟩⟩
theorem rowA_b {w h:Int} {M:Nat}:∀ x ∈ rowA w h M,0 ≤ x ∧ x < ((w * (h + 1)).toNat:Int):=fun x hx => by
  unfold rowA at hx
  rw [setL_mem] at hx
  obtain ⟨i,rfl,hi,-⟩:=hx
  omega
theorem rowU_b {w h:Int} {M:Nat}:∀ x ∈ rowU w h M,0 ≤ x ∧ x < ((h * (w + 1)).toNat:Int):=fun x hx => by
  unfold rowU at hx
  rw [setL_mem] at hx
  obtain ⟨i,rfl,hi,-⟩:=hx
  omega


theorem levels_f {w h:Int} (g:GridOK w h):impl_grid_levels.f w h = some (((w * (h + 1)).toNat:Nat):Int):=by
  obtain ⟨c1,c2,c3,c4⟩:=area_bounds g.w1 g.w4 g.h1 g.h4
  have w1:=g.w1
  have w4:=g.w4
  have h1:=g.h1
  have h4:=g.h4
  have e1:wrap64 (h + 1) = h + 1:=by unfold wrap64; omega
  have e2:wrap64 (w * (h + 1)) = (((w * (h + 1)).toNat:Nat):Int):=by unfold wrap64; omega
  unfold impl_grid_levels.f
  rw [e1,e2]
theorem listed_setL {s:Nat} (hs:s < 2 ^ 60):impl_set_listed.f (s:Int) = some (setL 64 fun i => s.testBit i):=by
  unfold impl_set_listed.f
  have h2:(2:Nat) ^ 60 = 1152921504606846976:=by decide
  rw [if_pos ⟨Int.natCast_nonneg _,by omega⟩,Int.toNat_natCast]
  rfl
theorem figure_f {w h:Int} (g:GridOK w h) {M:Nat} (hM:M < 2 ^ figN w h):impl_grid_figure.f w h (M:Int) = some (w,h,rowA w h M,rowU w h M):=by
  have hM60:=pow_figN g hM
  obtain ⟨b1,b2,b3⟩:=figN_le g
  unfold impl_grid_figure.f
  rw [levels_f g,Option.bind_some,if_pos (Int.natCast_nonneg _),shl_u64 _ (by omega)]
  unfold rowA rowU
  unfold figN at hM
  generalize (w * (h + 1)).toNat = A at *
  generalize (h * (w + 1)).toNat = U at *
  have hp:=Nat.two_pow_pos A
  have hA:2 ^ A < 2 ^ 60:=pow_lt60 (by omega)
  have hA2:2 ^ A - 1 < 2 ^ 60:=by omega
  have e1:IntKind.u64.wrap (((2 ^ A:Nat):Int) - 1) = ((2 ^ A - 1:Nat):Int):=by
    have:((2 ^ A:Nat):Int) - 1 = ((2 ^ A - 1:Nat):Int):=by omega
    rw [this]
    exact u64_small _ (Int.natCast_nonneg _) (by
      have h2:(2:Nat) ^ 60 = 1152921504606846976:=by decide
      have h3:(2:Int) ^ 60 = 1152921504606846976:=by decide
      rw [h3]; omega)
  have e2:shr .u64 (M:Int) (A:Int) = ((M >>> A:Nat):Int):=by
    unfold shr
    rw [Int.toNat_natCast,Nat.min_eq_left (show A ≤ IntKind.u64.bits by have:IntKind.u64.bits = 64:=rfl; omega),Nat.shiftRight_eq_div_pow]
    exact_mod_cast rfl
  have hs:M >>> A < 2 ^ 60:=Nat.lt_of_le_of_lt (by rw [Nat.shiftRight_eq_div_pow]; exact Nat.div_le_self _ _) hM60
  rw [e1,and_u64 _ _ hM60 hA2,listed_setL (Nat.lt_of_le_of_lt Nat.and_le_left hM60),Option.bind_some,Option.bind_some,if_pos (Int.natCast_nonneg _),e2,listed_setL hs,Option.bind_some]
  have r1:setL 64 (fun i => (M &&& (2 ^ A - 1)).testBit i) = setL A fun i => M.testBit i:=setL_eq fun i => by
    rw [Nat.testBit_and,Nat.testBit_two_pow_sub_one]
    by_cases hi:i < A
    · simp [hi]; omega
    · simp [hi]
  have r2:setL 64 (fun i => (M >>> A).testBit i) = setL U fun i => M.testBit (A + i):=setL_eq fun i => by
    rw [Nat.testBit_shiftRight]
    constructor
    · rintro ⟨h1,h2⟩
      refine ⟨?_,h2⟩
      rcases Nat.lt_or_ge i U with h3 | h3
      · exact h3
      · rw [Nat.testBit_lt_two_pow (Nat.lt_of_lt_of_le hM (Nat.pow_le_pow_right (by omega) (by omega)))] at h2
        cases h2
    · rintro ⟨h1,h2⟩; exact ⟨by omega,h2⟩
  rw [r1,r2]


theorem row_str (c:Int) (d:UInt8) (hc:UInt8.ofNat c.toNat = d) (p q:Nat → Bool) (n:Nat) (h:∀ x,x < n → p x = q x):(strOfNums (rowF c p n)).data.toList = rowL d q n:=by
  rw [strOfNums_data]
  unfold rowF rowL
  rw [List.map_map]
  refine List.map_congr_left (fun x hx => ?_)
  rw [Function.comp_apply,h x (List.mem_range.1 hx)]
  cases q x with
  | true => rw [if_pos rfl,if_pos rfl,hc]
  | false => rw [if_neg (by decide),if_neg (by decide)]; rfl
theorem figRows_text {w h m:Nat} (g:GridOK (w:Int) (h:Int)) (hm:m < 2 ^ 60):∀ y,y ≤ h + 1 → (figRows w h (m:Int) y).map (fun x:ByteArray => x.data.toList) = textRows w h m y:=by
  have w4:w ≤ 4:=by have:=g.w4; omega
  have h4:h ≤ 4:=by have:=g.h4; omega
  have hl:∀ x y:Nat,x < w → y ≤ h → levB w h (m:Int) y x = levP w m y x:=fun x y hx hy => by
    unfold levB levP
    rw [level_f g (Int.natCast_nonneg x) (by omega) (Int.natCast_nonneg y) (by omega),Option.getD_some,← Int.natCast_mul,← Int.natCast_add,Int.toNat_natCast]
    exact and_edgeB hm (small_edge w4 h4 (by omega) hy).1
  have hu:∀ x y:Nat,x < w + 1 → y < h → uprB w h (m:Int) y x = uprP w h m y x:=fun x y hx hy => by
    unfold uprB uprP
    rw [upright_f g (Int.natCast_nonneg x) (by omega) (Int.natCast_nonneg y) (by omega),Option.getD_some]
    rw [show (w:Int) * ((h:Int) + 1) = ((w * (h + 1):Nat):Int) by push_cast; rfl,show (y:Int) * ((w:Int) + 1) + (x:Int) = ((y * (w + 1) + x:Nat):Int) by push_cast; rfl,Int.toNat_natCast,Int.toNat_natCast]
    exact and_edgeB hm (small_edge w4 h4 (by omega) (by omega)).2
  intro y
  induction y with
  | zero => intro _; rfl
  | succ y ih =>
    intro hy
    have ih:=ih (by omega)
    have e1:(levR w h (m:Int) y).data.toList = rowL 45 (levP w m y) w:=row_str 45 45 rfl _ _ w (fun x hx => hl x y hx (by omega))
    unfold figRows textRows
    by_cases hyh:y < h
    · have e2:(uprR w h (m:Int) y).data.toList = rowL 124 (uprP w h m y) (w + 1):=row_str 124 124 rfl _ _ (w + 1) (fun x hx => hu x y hx hyh)
      rw [if_pos hyh,if_pos hyh,List.map_append,List.map_append,ih,List.map_cons,List.map_cons,List.map_nil,e1,e2]
    · rw [if_neg hyh,if_neg hyh,List.map_append,ih,List.map_cons,List.map_nil,e1]
theorem figureText_f {w h:Nat} {a u:List Int} (hf:figB (w:Int) (h:Int) a u = true) (ha:a.length ≤ 1000000) (hu:u.length ≤ 1000000) (k:Nat) (hk:2000010 < k):impl_figureText.f k (w:Int) (h:Int) a u = some (figText w h (figMask (w:Int) (h:Int) a u)):=by
  have g:=gridOK_of hf
  unfold impl_figureText.f
  rw [set_f hf ha hu k hk,Option.bind_some,if_pos ⟨⟨g.w1,g.w4⟩,g.h1,g.h4⟩,Int.toNat_natCast,Int.toNat_natCast]
  unfold joinB figText BA
  rw [figRows_text g (figMask_lt hf) (h + 1) (Nat.le_refl _)]


theorem figB_rows {w h:Int} (g:GridOK w h) (M:Nat):figB w h (rowA w h M) (rowU w h M) = true:=by
  obtain ⟨c1,c2,c3,c4⟩:=area_bounds g.w1 g.w4 g.h1 g.h4
  have w1:=g.w1
  have w4:=g.w4
  have h1:=g.h1
  have h4:=g.h4
  unfold figB
  simp only [Bool.and_eq_true,decide_eq_true_eq]
  refine ⟨⟨⟨⟨w1,w4⟩,h1⟩,h4⟩,pw_rising (setL_pw _ _),pw_rising (setL_pw _ _),?_,?_⟩
  · unfold inB
    rw [List.all_eq_true]
    intro x hx
    have:=rowA_b x hx
    simp only [Bool.and_eq_true,decide_eq_true_eq]
    omega
  · unfold inB
    rw [List.all_eq_true]
    intro x hx
    have:=rowU_b x hx
    simp only [Bool.and_eq_true,decide_eq_true_eq]
    omega
theorem figMask_rows {w h:Int} (g:GridOK w h) {M:Nat} (hM:M < 2 ^ figN w h):figMask w h (rowA w h M) (rowU w h M) = M:=by
  have hf:=figB_rows g M
  obtain ⟨c1,c2,c3,c4⟩:=area_bounds g.w1 g.w4 g.h1 g.h4
  have hm:=figMask_figN hf
  apply Nat.eq_of_testBit_eq
  intro i
  rcases Nat.lt_or_ge i (w * (h + 1)).toNat with hi | hi
  · rw [figMask_level hf i (by omega)]
    rw [Bool.eq_iff_iff,decide_eq_true_iff]
    exact rowA_in hi
  · rcases Nat.lt_or_ge i (figN w h) with hi2 | hi2
    · obtain ⟨j,rfl⟩:∃ j,i = (w * (h + 1)).toNat + j:=⟨i - (w * (h + 1)).toNat,by omega⟩
      rw [figMask_upright hf j]
      rw [Bool.eq_iff_iff,decide_eq_true_iff]
      exact rowU_in (by unfold figN at hi2; omega)
    · rw [Nat.testBit_lt_two_pow (Nat.lt_of_lt_of_le hm (Nat.pow_le_pow_right (by omega) hi2)),Nat.testBit_lt_two_pow (Nat.lt_of_lt_of_le hM (Nat.pow_le_pow_right (by omega) hi2))]

end Go.Proofs.YtehjfaddhmdicaaDoor.P
namespace Go.Proofs.YtehjfaddhmdicaaDoor.P
open Go.RowKit Go.Proofs.YtehjfaddhmdicaaDoorW.PrintWords Go.Proofs.YtehjfaddhmdicaaDoorW.PrintLast Go.Proofs.YtehjfaddhmdicaaDoorW.PrintMore
attribute [local go_sem] max2_int min2_int max_two min_two max_three min_three max_four min_four   -- for this text's walks alone
set_option linter.unusedVariables false
set_option linter.unusedSimpArgs false

section
variable {w h:Nat} {a u:List Int}
theorem ft_l1 (g:GridOK (w:Int) (h:Int)) (hf:figB (w:Int) (h:Int) a u = true) (ha:a.length ≤ 1000000) (hu:u.length ≤ 1000000) (T:List UInt8) (hT:T.length ≤ 1000) (y:Nat) (hy:y ≤ h):∀ (d k x:Nat),w - x = d → x ≤ w → d + 1000001 < k →
  ∃ k',k ≤ k' + (d + 1) ∧ spec_fiText.l1 k (BA (T ++ rowL 45 (levP w (figMask (w:Int) (h:Int) a u) y) x)) (y:Int) (x:Int) (w:Int) (h:Int) a u = if y = h then some (BA (T ++ rowL 45 (levP w (figMask (w:Int) (h:Int) a u) y) w)) else spec_fiText.l2 k' (BA (T ++ rowL 45 (levP w (figMask (w:Int) (h:Int) a u) y) w ++ [47])) (y:Int) 0 (w:Int) (h:Int) a u:=by
 have w4:w ≤ 4:=by have:=g.w4; omega
 intro d
 induction d with
 | zero =>
  intro k x h1 h2 h3
  obtain ⟨k,rfl⟩:∃ q,k = q + 1:=⟨k - 1,by omega⟩
  have:x = w:=by omega
  subst this
  refine ⟨k,by omega,?_⟩
  have hs:(BA (T ++ rowL 45 (levP x (figMask (x:Int) (h:Int) a u) y) x)).size + 1 ≤ 9223372036854775807:=by rw [BA_size,List.length_append,rowL_len]; omega
  rw [spec_fiText.l1,if_neg (Int.lt_irrefl _)]
  by_cases hyh:y = h
  ·rw [if_pos (by omega),if_pos hyh]
  ·rw [if_neg (by omega),if_neg hyh,if_pos hs,BA_add]
 | succ d ih =>
  intro k x h1 h2 h3
  obtain ⟨k,rfl⟩:∃ q,k = q + 1:=⟨k - 1,by omega⟩
  obtain ⟨k',p1,p2⟩:=ih k (x + 1) (by omega) (by omega) (by omega)
  have hk0:1000000 < k:=by omega
  have hkk:k + 1 ≤ k' + (d + 1 + 1):=by omega
  have hx9:x < 10:=by omega
  have hT9:(T.length + x) + 1 ≤ 9223372036854775807:=by omega
  have hxw:(x:Int) < (w:Int):=Int.ofNat_lt.2 (by omega)
  have hyh:(y:Int) ≤ (h:Int):=Int.ofNat_le.2 hy
  clear h1 h2 h3 p1 ih
  have hfi:=fiHas_level g hf ha k hk0 (x:Int) (y:Int) (Int.natCast_nonneg _) hxw (Int.natCast_nonneg _) hyh
  rw [← Int.natCast_mul,← Int.natCast_add,Int.toNat_natCast] at hfi
  have e1:wrap64 ((x:Int) + 1) = ((x + 1:Nat):Int):=by clear hfi p2; unfold wrap64; omega
  refine ⟨k',hkk,?_⟩
  have hs:(BA (T ++ rowL 45 (levP w (figMask (w:Int) (h:Int) a u) y) x)).size + 1 ≤ 9223372036854775807:=by rw [BA_size,List.length_append,rowL_len]; exact hT9
  rw [spec_fiText.l1,if_pos hxw,hfi,Option.bind_some,e1,← p2,rowL_succ]
  by_cases hb:(figMask (w:Int) (h:Int) a u).testBit (y * w + x) = true
  ·have hb2:levP w (figMask (w:Int) (h:Int) a u) y x = true:=hb
   rw [if_pos hb,if_pos hs,if_pos hb2,BA_add,List.append_assoc]
  ·have hb2:¬ levP w (figMask (w:Int) (h:Int) a u) y x = true:=hb
   rw [if_neg hb,if_pos hs,if_neg hb2,BA_add,List.append_assoc]
theorem ft_l2 (g:GridOK (w:Int) (h:Int)) (hf:figB (w:Int) (h:Int) a u = true) (ha:a.length ≤ 1000000) (hu:u.length ≤ 1000000) (T:List UInt8) (hT:T.length ≤ 1000) (y:Nat) (hy:y < h):∀ (d k x:Nat),w + 1 - x = d → x ≤ w + 1 → d + 1000001 < k →
  ∃ k',k ≤ k' + (d + 1) ∧ spec_fiText.l2 k (BA (T ++ rowL 124 (uprP w h (figMask (w:Int) (h:Int) a u) y) x)) (y:Int) (x:Int) (w:Int) (h:Int) a u = spec_fiText.l0 k' (BA (T ++ rowL 124 (uprP w h (figMask (w:Int) (h:Int) a u) y) (w + 1))) ((y + 1:Nat):Int) (w:Int) (h:Int) a u:=by
 have w4:w ≤ 4:=by have:=g.w4; omega
 have h4:h ≤ 4:=by have:=g.h4; omega
 intro d
 induction d with
 | zero =>
  intro k x h1 h2 h3
  obtain ⟨k,rfl⟩:∃ q,k = q + 1:=⟨k - 1,by omega⟩
  have:x = w + 1:=by omega
  subst this
  have e1:wrap64 ((y:Int) + 1) = ((y + 1:Nat):Int):=by unfold wrap64; omega
  refine ⟨k,by omega,?_⟩
  rw [spec_fiText.l2,if_neg (by omega),e1]
 | succ d ih =>
  intro k x h1 h2 h3
  obtain ⟨k,rfl⟩:∃ q,k = q + 1:=⟨k - 1,by omega⟩
  obtain ⟨k',p1,p2⟩:=ih k (x + 1) (by omega) (by omega) (by omega)
  have hk0:1000000 < k:=by omega
  have hkk:k + 1 ≤ k' + (d + 1 + 1):=by omega
  have hx9:x < 10:=by omega
  have hT9:(T.length + x) + 1 ≤ 9223372036854775807:=by omega
  have hxw:(x:Int) ≤ (w:Int):=Int.ofNat_le.2 (by omega)
  have hyh:(y:Int) < (h:Int):=Int.ofNat_lt.2 hy
  clear h1 h2 h3 p1 ih
  have hfi:=fiHas_upright g hf hu k hk0 (x:Int) (y:Int) (Int.natCast_nonneg _) hxw (Int.natCast_nonneg _) hyh
  rw [show (w:Int) * ((h:Int) + 1) = ((w * (h + 1):Nat):Int) by push_cast; rfl,show (y:Int) * ((w:Int) + 1) + (x:Int) = ((y * (w + 1) + x:Nat):Int) by push_cast; rfl,Int.toNat_natCast,Int.toNat_natCast] at hfi
  have e1:wrap64 ((x:Int) + 1) = ((x + 1:Nat):Int):=by clear hfi p2; unfold wrap64; omega
  refine ⟨k',hkk,?_⟩
  have hs:(BA (T ++ rowL 124 (uprP w h (figMask (w:Int) (h:Int) a u) y) x)).size + 1 ≤ 9223372036854775807:=by rw [BA_size,List.length_append,rowL_len]; exact hT9
  rw [spec_fiText.l2,if_pos hxw,hfi,Option.bind_some,e1,← p2,rowL_succ]
  by_cases hb:(figMask (w:Int) (h:Int) a u).testBit (w * (h + 1) + (y * (w + 1) + x)) = true
  ·have hb2:uprP w h (figMask (w:Int) (h:Int) a u) y x = true:=hb
   rw [if_pos hb,if_pos hs,if_pos hb2,BA_add,List.append_assoc]
  ·have hb2:¬ uprP w h (figMask (w:Int) (h:Int) a u) y x = true:=hb
   rw [if_neg hb,if_pos hs,if_neg hb2,BA_add,List.append_assoc]
theorem ft_step (g:GridOK (w:Int) (h:Int)) (hf:figB (w:Int) (h:Int) a u = true) (ha:a.length ≤ 1000000) (hu:u.length ≤ 1000000) (k y:Nat) (hy:y ≤ h) (hk:40 * (h - y) + 1000040 < k) (R:ByteArray)
  (hR:R = BA (Lib.join (textRows w h (figMask (w:Int) (h:Int) a u) (h + 1)) [47]))
  (next:y < h → ∀ k',40 * (h - (y + 1)) + 1000040 < k' → spec_fiText.l0 k' (BA (Lib.join (textRows w h (figMask (w:Int) (h:Int) a u) (y + 1)) [47])) ((y + 1:Nat):Int) (w:Int) (h:Int) a u = some R) :
  spec_fiText.l0 k (BA (Lib.join (textRows w h (figMask (w:Int) (h:Int) a u) y) [47])) (y:Int) (w:Int) (h:Int) a u = some R:=by
 have w4:w ≤ 4:=by have:=g.w4; omega
 have h4:h ≤ 4:=by have:=g.h4; omega
 have h1:1 ≤ h:=by have:=g.h1; omega
 obtain ⟨k,rfl⟩:∃ q,k = q + 2:=⟨k - 2,by omega⟩
 have hrl:=textRows_len w h (figMask (w:Int) (h:Int) a u) y hy
 have hjl:=join_len [47] 5 (textRows w h (figMask (w:Int) (h:Int) a u) y) (fun x hx => Nat.le_trans (textRows_size w h (figMask (w:Int) (h:Int) a u) y x hx) (by omega))
 rw [hrl] at hjl
 have hne:0 < y → textRows w h (figMask (w:Int) (h:Int) a u) y ≠ []:=fun hy0 e => by rw [e] at hrl; simp at hrl; omega
 -- the text ahead of the row
 obtain ⟨T,hT1,hT2,hT3⟩:∃ T:List UInt8,T.length ≤ 1000 ∧ (∀ x:List UInt8,Lib.join (textRows w h (figMask (w:Int) (h:Int) a u) y ++ [x]) [47] = T ++ x) ∧ spec_fiText.l0 (k + 2) (BA (Lib.join (textRows w h (figMask (w:Int) (h:Int) a u) y) [47])) (y:Int) (w:Int) (h:Int) a u = spec_fiText.l1 k (BA T) (y:Int) 0 (w:Int) (h:Int) a u:=by
  have hyh:(y:Int) ≤ (h:Int):=Int.ofNat_le.2 hy
  by_cases hy0:0 < y
  ·refine ⟨Lib.join (textRows w h (figMask (w:Int) (h:Int) a u) y) [47] ++ [47],?_,fun x => join_snoc _ x [47] (hne hy0),?_⟩
   ·rw [List.length_append,List.length_singleton]
    simp only [List.length_singleton] at hjl
    omega
   ·have hy2:(y:Int) > 0:=by omega
    have hs:(BA (Lib.join (textRows w h (figMask (w:Int) (h:Int) a u) y) [47])).size + 1 ≤ 9223372036854775807:=by
     rw [BA_size]
     simp only [List.length_singleton] at hjl
     omega
    rw [spec_fiText.l0,if_pos hyh,if_pos hy2,if_pos hs,spec_fiText.j1,BA_add]
  ·obtain rfl:y = 0:=by omega
   refine ⟨[],Nat.zero_le _,fun x => ?_,?_⟩
   ·show Lib.join [x] [47] = x
    exact Lib.join_one x [47]
   ·rw [spec_fiText.l0,if_pos hyh,if_neg (by decide),spec_fiText.j1]
    rfl
 rw [hT3]
 obtain ⟨k1,p1,p2⟩:=ft_l1 g hf ha hu T hT1 y hy w k 0 (Nat.sub_zero _) (Nat.zero_le _) (by omega)
 rw [show rowL 45 (levP w (figMask (w:Int) (h:Int) a u) y) 0 = [] from rfl,List.append_nil] at p2
 refine p2.trans ?_
 by_cases hyh:y = h
 ·rw [if_pos hyh,hR]
  subst hyh
  rw [show textRows w y (figMask (w:Int) (y:Int) a u) (y + 1) = textRows w y (figMask (w:Int) (y:Int) a u) y ++ [rowL 45 (levP w (figMask (w:Int) (y:Int) a u) y) w] by rw [textRows,if_neg (Nat.lt_irrefl _)],hT2]
 ·rw [if_neg hyh]
  have hlt:y < h:=by omega
  have hL:(rowL 45 (levP w (figMask (w:Int) (h:Int) a u) y) w).length = w:=rowL_len _ _ _
  simp only [List.length_singleton] at hjl
  have hT1':T.length ≤ 900:=by
   have e:=hT2 []
   rw [List.append_nil] at e
   have hq:=join_len [47] 5 (textRows w h (figMask (w:Int) (h:Int) a u) y ++ [[]]) (fun x hx => by
    rcases List.mem_append.1 hx with hx | hx
    ·exact Nat.le_trans (textRows_size w h (figMask (w:Int) (h:Int) a u) y x hx) (by omega)
    ·rw [List.mem_singleton.1 hx]; exact Nat.zero_le _)
   rw [e,List.length_append,hrl,List.length_singleton,List.length_singleton] at hq
   omega
  obtain ⟨k2,q1,q2⟩:=ft_l2 g hf ha hu (T ++ rowL 45 (levP w (figMask (w:Int) (h:Int) a u) y) w ++ [47]) (by rw [List.length_append,List.length_append,hL,List.length_singleton]; omega) y hlt (w + 1) k1 0 (Nat.sub_zero _) (Nat.zero_le _) (by omega)
  rw [show rowL 124 (uprP w h (figMask (w:Int) (h:Int) a u) y) 0 = [] from rfl,List.append_nil] at q2
  refine q2.trans ?_
  have n:=next hlt k2 (by omega)
  rw [show textRows w h (figMask (w:Int) (h:Int) a u) (y + 1) = (textRows w h (figMask (w:Int) (h:Int) a u) y ++ [rowL 45 (levP w (figMask (w:Int) (h:Int) a u) y) w]) ++ [rowL 124 (uprP w h (figMask (w:Int) (h:Int) a u) y) (w + 1)] by rw [textRows,if_pos hlt],join_snoc _ _ _ (by simp),hT2] at n
  exact n
theorem ft_l0 (g:GridOK (w:Int) (h:Int)) (hf:figB (w:Int) (h:Int) a u = true) (ha:a.length ≤ 1000000) (hu:u.length ≤ 1000000):∀ (d k y:Nat),h - y = d → y ≤ h → 40 * d + 1000040 < k →
  spec_fiText.l0 k (BA (Lib.join (textRows w h (figMask (w:Int) (h:Int) a u) y) [47])) (y:Int) (w:Int) (h:Int) a u = some (BA (Lib.join (textRows w h (figMask (w:Int) (h:Int) a u) (h + 1)) [47])):=by
 intro d
 induction d with
 | zero =>
  intro k y h1 h2 h3
  exact ft_step g hf ha hu k y h2 (by omega) _ rfl (fun hy => absurd hy (by omega))
 | succ d ih =>
  intro k y h1 h2 h3
  exact ft_step g hf ha hu k y h2 (by omega) _ rfl (fun hy k' hk' => ih k' (y + 1) (by omega) (by omega) (by omega))
end
theorem fiText_f {w h:Nat} {a u:List Int} (hf:figB (w:Int) (h:Int) a u = true) (ha:a.length ≤ 1000000) (hu:u.length ≤ 1000000) (k:Nat) (hk:1001000 < k):spec_fiText.f k (w:Int) (h:Int) a u = some (figText w h (figMask (w:Int) (h:Int) a u)):=by
 have g:=gridOK_of hf
 have h4:h ≤ 4:=by have:=g.h4; omega
 exact ft_l0 g hf ha hu h k 0 (Nat.sub_zero _) (Nat.zero_le _) (by omega)

end Go.Proofs.YtehjfaddhmdicaaDoor.P
namespace Go.Proofs.YtehjfaddhmdicaaDoor.P
open Go.RowKit Go.Proofs.YtehjfaddhmdicaaDoorW.PrintWords Go.Proofs.YtehjfaddhmdicaaDoorW.PrintLast Go.Proofs.YtehjfaddhmdicaaDoorW.PrintMore
attribute [local go_sem] max2_int min2_int max_two min_two max_three min_three max_four min_four   -- for this text's walks alone
set_option linter.unusedVariables false
set_option linter.unusedSimpArgs false

def figM (w h:Int) (m:Nat):S36:=⟨w,h,rowA w h m,rowU w h m⟩
theorem figText_ne {w h m:Nat} (hw:1 ≤ w):figText w h m ≠ ⟨#[]⟩:=by
  intro he
  have h1:(figText w h m).size = 0:=by rw [he]; rfl
  unfold figText at h1
  rw [BA_size] at h1
  have h2:=textRows_len w h m h (Nat.le_refl _)
  have h3:(Lib.join (textRows w h m (h + 1)) [47]).length = 0:=h1
  have h4:textRows w h m (h + 1) = textRows w h m h ++ [rowL 45 (levP w m h) w]:=by
    show (if h < h then _ else _) = _
    rw [if_neg (Nat.lt_irrefl h)]
  rw [h4] at h3
  cases hq:textRows w h m h with
  | nil =>
    rw [hq,List.nil_append] at h3
    have h5:Lib.join [rowL 45 (levP w m h) w] [47] = rowL 45 (levP w m h) w:=by simp [Lib.join]
    rw [h5,rowL_len] at h3
    omega
  | cons a t =>
    rw [join_snoc _ _ _ (by rw [hq]; simp)] at h3
    simp at h3
theorem bytes_toList (b:ByteArray):b.toList = b.data.toList:=Lib.toList_data b
theorem ba_ext {a b:ByteArray} (h:a.data.toList = b.data.toList):a = b:=by
  obtain ⟨⟨l⟩⟩:=a
  obtain ⟨⟨m⟩⟩:=b
  have h':l = m:=h
  rw [h']
theorem figT_f {w h m:Nat} (g:GridOK (w:Int) (h:Int)) (hm:m < 2 ^ figN w h) (k:Nat) (hk:2000010 < k) :
    spec_fiText.f k (w:Int) (h:Int) (rowA w h m) (rowU w h m) = some (figText w h m) ∧ impl_figureText.f k (w:Int) (h:Int) (rowA w h m) (rowU w h m) = some (figText w h m):=by
  have hb:=figB_rows g m
  have hl1:=rowA_len g m
  have hl2:=rowU_len g m
  have e:=figMask_rows g hm
  have h1:=fiText_f hb (by omega) (by omega) k (by omega)
  have h2:=figureText_f hb (by omega) (by omega) k hk
  rw [e] at h1 h2
  exact ⟨h1,h2⟩
open Lib in
theorem cb_self (a:List UInt8):¬ compareBytes a a < 0:=by
  have:=cb_neg a a
  omega
open Lib in
theorem cb_lt_trans {a b c:List UInt8} (h1:compareBytes a b < 0) (h2:compareBytes b c < 0):compareBytes a c < 0:=by
  rcases Int.lt_or_eq_of_le (cb_trans _ _ _ (Int.le_of_lt h1) (Int.le_of_lt h2)) with h | h
  · exact h
  · rw [cb_zero _ _ h,cb_neg] at h1
    omega
theorem fuel_le {d k c e:Nat} (h:d + c < k) (he:e ≤ c):e < k:=by omega
theorem fuel_step {d k c:Nat} (h:d + 1 + c < k + 1):d + c < k:=by omega
theorem sub_step {l i d:Nat} (h:l - i = d + 1):l - (i + 1) = d:=by omega
theorem answers_noF {f:Nat} {args:Array Value} {W:World} (h:Calls Tryd.prog f args W fun e w' => e = .returned (.tuple #[.agg #[.int .i64 0,.int .i64 0,.slice none 0 0,.slice none 0 0],.bool false]) ∧ Below W.heap.size W w') :
    Calls Tryd.prog f args W fun e w' => ∃ v2_ v3_:Value,e = .returned (.tuple #[.agg #[.int .i64 0,.int .i64 0,v2_,v3_],.bool false]) ∧ Kd.R (Kd.int .i64) 3 w' W.heap.size (fun k_ => some k_ ≠ (v3_:Value).ownBlock) v2_ [] ∧ Kd.R (Kd.int .i64) 3 w' W.heap.size (fun k_ => some k_ ≠ (v2_:Value).ownBlock) v3_ [] ∧ Below W.heap.size W w' :=
  h.mono fun _ _ ⟨he,hb⟩ => ⟨_,_,he,Kd.R_nil _ _ _ _ _,Kd.R_nil _ _ _ _ _,hb⟩

end Go.Proofs.YtehjfaddhmdicaaDoor.P
namespace Go.Proofs.YtehjfaddhmdicaaDoor.P
open Go.RowKit Go.Proofs.YtehjfaddhmdicaaDoorW.PrintWords Go.Proofs.YtehjfaddhmdicaaDoorW.PrintLast Go.Proofs.YtehjfaddhmdicaaDoorW.PrintMore
attribute [local go_sem] max2_int min2_int max_two min_two max_three min_three max_four min_four   -- for this text's walks alone
set_option linter.unusedVariables false
set_option linter.unusedSimpArgs false

theorem join_inj {sep:List UInt8}:∀ {A B:List (List UInt8)},A.map List.length = B.map List.length → Lib.join A sep = Lib.join B sep → A = B:=by
  have tail:∀ {A B:List (List UInt8)},A.map List.length = B.map List.length → Lib.joinTail sep A = Lib.joinTail sep B → A = B:=by
    intro A
    induction A with
    | nil =>
      intro B h _
      cases B with
      | nil => rfl
      | cons b t => simp at h
    | cons a r ih =>
      intro B h hj
      cases B with
      | nil => simp at h
      | cons b t =>
        rw [List.map_cons,List.map_cons] at h
        injection h with h1 h2
        unfold Lib.joinTail at hj
        rw [List.map_cons,List.map_cons,List.flatten_cons,List.flatten_cons] at hj
        obtain ⟨e1,e2⟩:=List.append_inj hj (by rw [List.length_append,List.length_append,h1])
        rw [List.append_cancel_left e1,ih h2 e2]
  intro A B h hj
  cases A with
  | nil =>
    cases B with
    | nil => rfl
    | cons b t => simp at h
  | cons a r =>
    cases B with
    | nil => simp at h
    | cons b t =>
      rw [List.map_cons,List.map_cons] at h
      injection h with h1 h2
      rw [Lib.join_cons,Lib.join_cons] at hj
      obtain ⟨e1,e2⟩:=List.append_inj hj h1
      rw [e1,tail h2 e2]


theorem textRows_lens (w h m n:Nat):∀ y,(textRows w h m y).map List.length = (textRows w h n y).map List.length
  | 0 => rfl
  | y + 1 => by
    have ih:=textRows_lens w h m n y
    unfold textRows
    split <;> simp [ih,rowL_len]
theorem rowL_at {c:UInt8} (hc:c ≠ 46) {p q:Nat → Bool} {n:Nat} (h:rowL c p n = rowL c q n):∀ x,x < n → p x = q x:=by
  intro x hx
  unfold rowL at h
  have h2:=(List.map_inj_left.1 h) x (List.mem_range.2 hx)
  cases hp:p x <;> cases hq:q x
  · rfl
  · rw [hp,hq] at h2; exact absurd h2.symm hc
  · rw [hp,hq] at h2; exact absurd h2 hc
  · rfl
theorem textRows_bits {w h m n:Nat}:∀ Y,Y ≤ h + 1 → textRows w h m Y = textRows w h n Y → ∀ y,y < Y → (∀ x,x < w → levP w m y x = levP w n y x) ∧ (y < h → ∀ x,x < w + 1 → uprP w h m y x = uprP w h n y x)
  | 0,_,_,y,hy => absurd hy (by omega)
  | Y + 1,hY,he,y,hy => by
    rw [textRows,textRows] at he
    by_cases hh:Y < h
    · rw [if_pos hh,if_pos hh] at he
      obtain ⟨e1,e3⟩:=List.append_inj' he rfl
      obtain ⟨e1,e2⟩:=List.append_inj' e1 rfl
      by_cases hyY:y < Y
      · exact textRows_bits Y (by omega) e1 y hyY
      · obtain rfl:y = Y:=by omega
        injection e2 with e2 _
        injection e3 with e3 _
        exact ⟨rowL_at (by decide) e2,fun _ => rowL_at (by decide) e3⟩
    · rw [if_neg hh,if_neg hh] at he
      obtain ⟨e1,e2⟩:=List.append_inj' he rfl
      by_cases hyY:y < Y
      · exact textRows_bits Y (by omega) e1 y hyY
      · obtain rfl:y = Y:=by omega
        injection e2 with e2 _
        exact ⟨rowL_at (by decide) e2,fun z => absurd z hh⟩
theorem figText_inj {w h m n:Nat} (hw:1 ≤ w) (hm:m < 2 ^ (w * (h + 1) + h * (w + 1))) (hn:n < 2 ^ (w * (h + 1) + h * (w + 1))) (he:figText w h m = figText w h n):m = n:=by
  have h1:Lib.join (textRows w h m (h + 1)) [47] = Lib.join (textRows w h n (h + 1)) [47]:=by
    have:=congrArg (fun b:ByteArray => b.data.toList) he
    simpa [figText,BA] using this
  have h2:=join_inj (textRows_lens w h m n (h + 1)) h1
  have h3:=textRows_bits (h + 1) (Nat.le_refl _) h2
  apply Nat.eq_of_testBit_eq
  intro e
  by_cases hl:e < w * (h + 1)
  · have hy:e / w < h + 1:=Nat.div_lt_of_lt_mul hl
    have hx:e % w < w:=Nat.mod_lt _ hw
    have:=(h3 (e / w) hy).1 (e % w) hx
    unfold levP at this
    rw [show e / w * w + e % w = e by rw [Nat.mul_comm]; exact Nat.div_add_mod e w] at this
    exact this
  · by_cases hu:e < w * (h + 1) + h * (w + 1)
    · obtain ⟨z,rfl⟩:∃ z,e = w * (h + 1) + z:=⟨e - w * (h + 1),by omega⟩
      have hz:z < (w + 1) * h:=by rw [Nat.mul_comm]; omega
      have hy:z / (w + 1) < h:=Nat.div_lt_of_lt_mul hz
      have hx:z % (w + 1) < w + 1:=Nat.mod_lt _ (Nat.succ_pos _)
      have:=(h3 (z / (w + 1)) (by omega)).2 hy (z % (w + 1)) hx
      unfold uprP at this
      rw [show z / (w + 1) * (w + 1) + z % (w + 1) = z by rw [Nat.mul_comm]; exact Nat.div_add_mod z (w + 1)] at this
      exact this
    · rw [Nat.testBit_lt_two_pow (Nat.lt_of_lt_of_le hm (Nat.pow_le_pow_right (by omega) (by omega))),Nat.testBit_lt_two_pow (Nat.lt_of_lt_of_le hn (Nat.pow_le_pow_right (by omega) (by omega)))]


theorem bit_and_i64 {M e:Nat} (hM:M < 2 ^ 60) (he:e < 60):(Go.bits .and .i64 (M:Int) ((2 ^ e:Nat):Int) = 0) ↔ M.testBit e = false:=by
  have h:=and_two e M
  rw [Nat.and_comm] at h
  rw [and_i64 _ _ hM (pow_lt60 he),h]
  have hp:=Nat.two_pow_pos e
  cases M.testBit e with
  | false => exact ⟨fun _ => rfl,fun _ => rfl⟩
  | true =>
    rw [if_pos rfl]
    constructor
    · intro h; omega
    · intro h; cases h
theorem step60 {A U i:Nat} (hA:A ≤ 20) (hU:U ≤ 20) (hi:i ≤ U):A + i < 60:=by omega
theorem step60' {A i:Nat} (hA:A ≤ 20) (hi:i ≤ A):i < 60:=by omega
theorem sqFigure_l1 {w h:Int} (g:GridOK w h) {M:Nat} (hM:M < 2 ^ 60) (z0 z1:Int) (z2:List Int):∀ (d k i:Nat),(h * (w + 1)).toNat - i = d → i ≤ (h * (w + 1)).toNat → d < k →
    spec_sqFigure.l1 k w h (M:Int) (i:Int) z0 z1 z2 (setL i fun i => M.testBit ((w * (h + 1)).toNat + i)) = some (z0,z1,z2,rowU w h M):=by
  obtain ⟨c1,c2,c3,c4⟩:=area_bounds g.w1 g.w4 g.h1 g.h4
  have HM:=am_ hM
  clear hM
  have w1:=g.w1
  have w4:=g.w4
  have h1:=g.h1
  have h4:=g.h4
  have E3:Aside0 (wrap64 (w * wrap64 (h + 1)) = w * (h + 1)):=⟨by
    have e1:wrap64 (h + 1) = h + 1:=by unfold wrap64; omega
    rw [e1]; unfold wrap64; omega⟩
  have E4:Aside0 (wrap64 (wrap64 (w + 1) * h) = (((h * (w + 1)).toNat:Nat):Int)):=⟨by
    have e2:wrap64 (w + 1) = w + 1:=by unfold wrap64; omega
    rw [e2,Int.mul_comm]; unfold wrap64; omega⟩
  intro d
  induction d with
  | zero =>
    intro k i q1 q2 q3
    obtain ⟨k,rfl⟩:∃ m,k = m + 1:=⟨k - 1,by omega⟩
    obtain rfl:i = (h * (w + 1)).toNat:=by omega
    simp only [spec_sqFigure.l1]
    rw [E4.out,if_neg (by omega)]
    rfl
  | succ d ih =>
    intro k i q1 q2 q3
    obtain ⟨k,rfl⟩:∃ m,k = m + 1:=⟨k - 1,by omega⟩
    have e5:wrap64 ((i:Int) + 1) = ((i + 1:Nat):Int):=by unfold wrap64; omega
    have hl:=setL_len i fun i => M.testBit ((w * (h + 1)).toNat + i)
    have hs:=setL_succ i fun i => M.testBit ((w * (h + 1)).toNat + i)
    have hb:=am_ (bit_and_i64 HM.out (e:=(w * (h + 1)).toNat + i) (step60 (figN_le g).2.1 (figN_le g).2.2 q2))
    simp only [spec_sqFigure.l1]
    rw [E4.out,if_pos (by omega),sqBit_f w h true i E3.out (by omega) (by omega) (by omega),Option.bind_some,if_pos rfl,e5]
    cases ht:M.testBit ((w * (h + 1)).toNat + i) with
    | false =>
      rw [if_pos (hb.out.2 ht)]
      rw [ht,if_neg (by simp),List.append_nil] at hs
      rw [← hs]
      exact ih k (i + 1) (by omega) (by omega) (by omega)
    | true =>
      rw [if_neg (fun h => by rw [hb.out.1 h] at ht; cases ht),if_pos (by omega)]
      rw [ht,if_pos rfl] at hs
      rw [← hs]
      exact ih k (i + 1) (by omega) (by omega) (by omega)
theorem sqFigure_l0 {w h:Int} (g:GridOK w h) {M:Nat} (hM:M < 2 ^ 60) (z0 z1:Int):∀ (d k i:Nat),(w * (h + 1)).toNat - i = d → i ≤ (w * (h + 1)).toNat → d + 30 < k →
    spec_sqFigure.l0 k w h (M:Int) (i:Int) z0 z1 (setL i fun i => M.testBit i) = some (z0,z1,rowA w h M,rowU w h M):=by
  obtain ⟨c1,c2,c3,c4⟩:=area_bounds g.w1 g.w4 g.h1 g.h4
  have HM:=am_ hM
  clear hM
  have w1:=g.w1
  have w4:=g.w4
  have h1:=g.h1
  have h4:=g.h4
  have E3:Aside0 (wrap64 (w * wrap64 (h + 1)) = w * (h + 1)):=⟨by
    have e1:wrap64 (h + 1) = h + 1:=by unfold wrap64; omega
    rw [e1]; unfold wrap64; omega⟩
  have E4:Aside0 (wrap64 (w * wrap64 (h + 1)) = (((w * (h + 1)).toNat:Nat):Int)):=⟨by rw [E3.out]; omega⟩
  intro d
  induction d with
  | zero =>
    intro k i q1 q2 q3
    obtain ⟨k,rfl⟩:∃ m,k = m + 1:=⟨k - 1,by omega⟩
    obtain rfl:i = (w * (h + 1)).toNat:=by omega
    simp only [spec_sqFigure.l0]
    rw [E4.out,if_neg (by omega)]
    exact sqFigure_l1 g HM.out z0 z1 _ _ k 0 rfl (by omega) (by omega)
  | succ d ih =>
    intro k i q1 q2 q3
    obtain ⟨k,rfl⟩:∃ m,k = m + 1:=⟨k - 1,by omega⟩
    have e5:wrap64 ((i:Int) + 1) = ((i + 1:Nat):Int):=by unfold wrap64; omega
    have hl:=setL_len i fun i => M.testBit i
    have hs:=setL_succ i fun i => M.testBit i
    have hb:=am_ (bit_and_i64 HM.out (e:=i) (step60' (figN_le g).2.1 q2))
    simp only [spec_sqFigure.l0]
    rw [E4.out,if_pos (by omega),sqBit_f w h false i E3.out (by omega) (by omega) (by omega),Option.bind_some,if_neg (show ¬ (false = true) by decide),Nat.zero_add,e5]
    cases ht:M.testBit i with
    | false =>
      rw [if_pos (hb.out.2 ht)]
      rw [ht,if_neg (by simp),List.append_nil] at hs
      rw [← hs]
      exact ih k (i + 1) (by omega) (by omega) (by omega)
    | true =>
      rw [if_neg (fun h => by rw [hb.out.1 h] at ht; cases ht),if_pos (by omega)]
      rw [ht,if_pos rfl] at hs
      rw [← hs]
      exact ih k (i + 1) (by omega) (by omega) (by omega)
theorem sqFigure_f {w h:Int} (g:GridOK w h) {M:Nat} (hM:M < 2 ^ 60) (k:Nat) (hk:60 < k):spec_sqFigure.f k w h (M:Int) = some (w,h,rowA w h M,rowU w h M):=by
  obtain ⟨b1,b2,b3⟩:=figN_le g
  unfold spec_sqFigure.f
  exact sqFigure_l0 g hM w h _ k 0 rfl (by omega) (by omega)


set_option maxHeartbeats 2000000 in
theorem fst_l0 {w h:Nat} (g:GridOK (w:Int) (h:Int)) (hw:1 ≤ w) (W:List Nat) (hW:∀ m ∈ W,m < 2 ^ figN w h) (hl:W.length ≤ 2 ^ 40) (a u:List Int) (z0 z1:Int):∀ (d k i:Nat) (p:Nat),W.length - i = d → i ≤ W.length → d + 2000020 < k → p ∈ W.take i → (∀ q ∈ W.take i,¬ Lib.compareBytes (figText w h q).data.toList (figText w h p).data.toList < 0) →
  ∃ p',p' ∈ W ∧ (∀ q ∈ W,¬ Lib.compareBytes (figText w h q).data.toList (figText w h p').data.toList < 0) ∧ spec_FirstToTake.l0 k (figText w h p) (W.map fun n:Nat => (n:Int)) (((W.map fun n:Nat => (n:Int)).length:Nat):Int) (i:Int) (w:Int) (h:Int) a u (w:Int) (h:Int) (rowA w h p) (rowU w h p) = some ((w:Int),(h:Int),rowA w h p',rowU w h p',true):=by
 intro d
 induction d with
 | zero =>
  intro k i p h1 h2 h3 hp hq
  obtain rfl:i = W.length:=by omega
  obtain ⟨k,rfl⟩:∃ q,k = q + 1:=⟨k - 1,by omega⟩
  rw [List.take_length] at hp hq
  refine ⟨p,hp,hq,?_⟩
  rw [spec_FirstToTake.l0,List.length_map,if_neg (by omega)]
 | succ d ih =>
  intro k i p h1 h2 h3 hp hq
  obtain ⟨k,rfl⟩:∃ q,k = q + 1:=⟨k - 1,by omega⟩
  have hi:i < W.length:=by omega
  have o1:W.length - (i + 1) = d:=sub_step h1
  have o2:d + 2000020 < k:=fuel_step h3
  have o3:(0:Int) ≤ (i:Int):=Int.natCast_nonneg i
  have hmi:=hW _ (List.getElem_mem hi)
  have hrd:rd (W.map fun n:Nat => (n:Int)) (i:Int) = ((W[i]:Nat):Int):=by
   unfold rd
   rw [Int.toNat_natCast,List.getD_eq_getElem?_getD,List.getElem?_map,List.getElem?_eq_getElem hi]; rfl
  have htk:W.take (i + 1) = W.take i ++ [W[i]]:=List.take_succ_eq_append_getElem hi
  have hne:¬ (figText w h p).toList = ([]:List UInt8):=by
   rw [bytes_toList]
   intro h9
   exact figText_ne hw (ba_ext (b:=⟨#[]⟩) h9)
  have hlt:(i:Int) < (((W.map fun n:Nat => (n:Int)).length:Nat):Int):=by rw [List.length_map]; omega
  have hw1:wrap64 ((i:Int) + 1) = ((i + 1:Nat):Int):=by
   clear ih hmi hrd htk hne hlt hW hq
   unfold wrap64; omega
  have hsq:=sqFigure_f g (pow_figN g hmi) k (fuel_le o2 (by decide))
  have htx:=(figT_f g hmi k (fuel_le o2 (by decide))).1
  by_cases hless:Lib.compareBytes (figText w h W[i]).data.toList (figText w h p).data.toList < 0
  ·obtain ⟨p',e1,e2,e3⟩:=ih k (i + 1) W[i] o1 hi o2 (by rw [htk]; exact List.mem_append_right _ (List.mem_singleton.2 rfl)) (fun q hqm => by
    rw [htk,List.mem_append,List.mem_singleton] at hqm
    rcases hqm with hqm | rfl
    ·intro h9
     have h10:=hq q hqm
     exact h10 (cb_lt_trans h9 hless)
    ·exact cb_self _)
   refine ⟨p',e1,e2,?_⟩
   rw [spec_FirstToTake.l0,if_pos hlt,if_pos o3,if_pos hlt,hrd,hsq,Option.bind_some]
   dsimp only
   rw [htx,Option.bind_some,if_neg hne,bytes_toList,bytes_toList,bytesLess_cb,decide_eq_true hless,if_pos rfl,hw1]
   exact e3
  ·obtain ⟨p',e1,e2,e3⟩:=ih k (i + 1) p o1 hi o2 (by rw [htk]; exact List.mem_append_left _ hp) (fun q hqm => by
    rw [htk,List.mem_append,List.mem_singleton] at hqm
    rcases hqm with hqm | rfl
    ·exact hq q hqm
    ·exact hless)
   refine ⟨p',e1,e2,?_⟩
   rw [spec_FirstToTake.l0,if_pos hlt,if_pos o3,if_pos hlt,hrd,hsq,Option.bind_some]
   dsimp only
   rw [htx,Option.bind_some,if_neg hne,bytes_toList,bytes_toList,bytesLess_cb,decide_eq_false hless,if_neg (by simp),hw1]
   exact e3
theorem fst_start {w h:Nat} (g:GridOK (w:Int) (h:Int)) (hw:1 ≤ w) (m:Nat) (W:List Nat) (hW:∀ x ∈ m :: W,x < 2 ^ figN w h) (hl:(m :: W).length ≤ 2 ^ 40) (a u:List Int) (k:Nat) (hk:2 ^ 41 < k) :
  ∃ p',p' ∈ m :: W ∧ (∀ q ∈ m :: W,¬ Lib.compareBytes (figText w h q).data.toList (figText w h p').data.toList < 0) ∧ spec_FirstToTake.l0 k (⟨#[]⟩:ByteArray) ((m :: W).map fun n:Nat => (n:Int)) ((((m :: W).map fun n:Nat => (n:Int)).length:Nat):Int) 0 (w:Int) (h:Int) a u 0 0 ([]:List Int) ([]:List Int) = some ((w:Int),(h:Int),rowA w h p',rowU w h p',true):=by
 obtain ⟨k,rfl⟩:∃ q,k = q + 1:=⟨k - 1,by omega⟩
 have hk2:2 ^ 41 - 1 < k:=by omega
 have hml:(m :: W).length - 1 + 2000020 < k:=by omega
 obtain ⟨p',e1,e2,e3⟩:=fst_l0 g hw (m :: W) hW hl a u 0 0 ((m :: W).length - 1) k 1 m rfl (by simp) hml (by simp) (fun q hq => by
  rw [show (m :: W).take 1 = [m] from rfl,List.mem_singleton] at hq
  rw [hq]; exact cb_self _)
 refine ⟨p',e1,e2,?_⟩
 have hlt:(0:Int) < ((((m :: W).map fun n:Nat => (n:Int)).length:Nat):Int):=by first | (simp; done) | (simp; omega)
 have hrd:rd ((m :: W).map fun n:Nat => (n:Int)) 0 = ((m:Nat):Int):=rfl
 have hmm:=hW m List.mem_cons_self
 have hsq:=sqFigure_f g (pow_figN g hmm) k (by omega)
 have htx:=(figT_f g hmm k (by omega)).1
 rw [spec_FirstToTake.l0,if_pos hlt,if_pos (Int.le_refl 0),if_pos hlt,hrd,hsq,Option.bind_some]
 dsimp only
 rw [htx,Option.bind_some,if_pos (show (⟨#[]⟩:ByteArray).toList = ([]:List UInt8) by rw [bytes_toList]),show wrap64 (0 + 1) = ((1:Nat):Int) by unfold wrap64; omega]
 exact e3
theorem putN_nat (ws:List Nat):∀ acc:List Nat,∃ L:List Nat,(ints ws).foldl putN (acc.map fun n:Nat => (n:Int)) = L.map (fun n:Nat => (n:Int)) ∧ ∀ x,x ∈ L ↔ x ∈ acc ∨ x ∈ ws:=by
 induction ws with
 | nil => intro acc; exact ⟨acc,rfl,fun x => by simp⟩
 | cons c t ih =>
  intro acc
  show ∃ L:List Nat,(ints t).foldl putN (putN (acc.map fun n:Nat => (n:Int)) ((c:Nat):Int)) = _ ∧ _
  unfold putN
  by_cases h:((c:Nat):Int) ∈ acc.map fun n:Nat => (n:Int)
  ·rw [if_pos h]
   have hc:c ∈ acc:=by
    obtain ⟨y,hy,e⟩:=List.mem_map.1 h
    have e2:y = c:=Int.ofNat.inj e
    rw [← e2]; exact hy
   obtain ⟨L,e1,e2⟩:=ih acc
   refine ⟨L,e1,fun x => ?_⟩
   rw [e2,List.mem_cons]
   constructor
   ·rintro (h1 | h1)
    ·exact .inl h1
    ·exact .inr (.inr h1)
   ·rintro (h1 | rfl | h1)
    ·exact .inl h1
    ·exact .inl hc
    ·exact .inr h1
  ·rw [if_neg h]
   obtain ⟨L,e1,e2⟩:=ih (acc ++ [c])
   rw [List.map_append,List.map_cons,List.map_nil] at e1
   refine ⟨L,e1,fun x => ?_⟩
   rw [e2,List.mem_cons,List.mem_append,List.mem_singleton,or_assoc]
theorem figN_nat (w h:Nat):figN (w:Int) (h:Int) = w * (h + 1) + h * (w + 1):=by
 unfold figN
 rw [show (w:Int) * ((h:Int) + 1) = ((w * (h + 1):Nat):Int) by rw [Int.natCast_mul]; rfl,Int.toNat_natCast,show (h:Int) * ((w:Int) + 1) = ((h * (w + 1):Nat):Int) by rw [Int.natCast_mul]; rfl,Int.toNat_natCast]
theorem FirstToTake_pure {w h:Int} {a u:List Int} (ha:a.length ≤ 1000000) (hu:u.length ≤ 1000000) :
  (spec_FirstToTake.f 4398046511104 w h a u = some (0,0,[],[],false) ∧ impl_isFew.f 4000001 w h a u = some false) ∨
  (∃ (K M:Nat) (qs:List S118) (F:Nat → S36) (T:Nat → ByteArray) (R:S36),spec_FirstToTake.f 4398046511104 w h a u = some (R.f0,R.f1,R.f2,R.f3,true) ∧ R.f2.length + R.f3.length ≤ 1000000 ∧ impl_isFew.f 4000001 w h a u = some true ∧ FewOK w h a u K qs ∧ impl_Figure_set.f 4000001 w h a u = some (M:Int) ∧ M < 2 ^ 60 ∧
   (∀ z ∈ hitW (qs.map fun q => q.f3.toNat) K 0,impl_grid_figure.f w h ((diffN M z:Nat):Int) = some ((F z).f0,(F z).f1,(F z).f2,(F z).f3)) ∧ (∀ z ∈ hitW (qs.map fun q => q.f3.toNat) K 0,impl_figureText.f 4000001 (F z).f0 (F z).f1 (F z).f2 (F z).f3 = some (T z)) ∧
   (∀ z ∈ hitW (qs.map fun q => q.f3.toNat) K 0,(∀ y ∈ hitW (qs.map fun q => q.f3.toNat) K 0,¬ Lib.compareBytes (T y).data.toList (T z).data.toList < 0) → F z = R)):=by
 by_cases hy:figB w h a u = true ∧ wrap64 (w * h) ≤ 9
 ·obtain ⟨K,E,qs,PL,c⟩:=few_yes ha hu hy.1 hy.2
  have hM:=figMask_figN hy.1
  have hset:=set_f hy.1 ha hu 4000001 (by decide)
  have hsf:spec_sqFew.f 4398046511104 w h a u = some true:=up_rounds (fun k => spec_sqFew.mono _ _ _ _ k) (by decide) c.sfew
  have hlf:spec_sqLeft.f 4398046511104 w h a u = some ((ints ((hitW (qs.map fun q => q.f3.toNat) K 0).map (diffN (figMask w h a u)))).foldl putN []):=up_rounds (fun k => spec_sqLeft.mono _ _ _ _ k) (by decide) (sqLeft_f hy.1 c)
  have hsub:∀ s ∈ qs.map (fun q => q.f3.toNat),subE s (figMask w h a u) = true:=by
   rw [c.qsE]
   exact fun s hs => (List.mem_filter.1 hs).2
  have h0:subE 0 (figMask w h a u) = true:=by rw [subE_test]; intro i hi; rw [Nat.zero_testBit] at hi; cases hi
  have hws:=hitW_sub hsub K 0 h0
  have hcnt:=(putN_addS _ [] [] hws rfl (fun x _ => by simp)).1
  have hne:hitW (qs.map fun q => q.f3.toNat) K 0 ≠ []:=c.fok.2.2.2.2.1
  have hM40:=figMask_lt40 hy.1
  obtain ⟨LN,hLN,hmem⟩:=putN_nat ((hitW (qs.map fun q => q.f3.toNat) K 0).map (diffN (figMask w h a u))) []
  rw [List.map_nil] at hLN
  have hlt:∀ z ∈ hitW (qs.map fun q => q.f3.toNat) K 0,z < 2 ^ 40:=fun z hz => by
   have h1:=hws z hz
   rw [subE_test] at h1
   refine Nat.lt_of_le_of_lt ?_ hM40
   refine Nat.le_of_testBit ?_
   exact h1
  have hl40:(addS [] (hitW (qs.map fun q => q.f3.toNat) K 0)).length ≤ 2 ^ 40:=nodup_len _ _ (addS_nodup _ _ List.nodup_nil) (fun x hx => by
   rcases (addS_mem _ _ _).1 hx with h1 | h1
   ·cases h1
   ·exact hlt x h1)
  rw [← hcnt] at hl40
  have g0:=gridOK_of hy.1
  have b1:=g0.w1
  have b3:=g0.h1
  obtain ⟨W,rfl⟩:=Int.eq_ofNat_of_zero_le (show 0 ≤ w by omega)
  obtain ⟨H,rfl⟩:=Int.eq_ofNat_of_zero_le (show 0 ≤ h by omega)
  have g:GridOK (W:Int) (H:Int):=g0
  have hfok:=c.fok
  have hif:=c.ifew
  have hM60:=pow_figN g hM
  clear c hsub h0 hcnt b1 b3 g0 hM40
  generalize figMask (W:Int) (H:Int) a u = M at *
  have hW1:1 ≤ W:=by have:=g.w1; omega
  have hW:∀ m ∈ LN,m < 2 ^ figN W H:=fun m hm => by
   rcases (hmem m).1 hm with h1 | h1
   ·cases h1
   ·obtain ⟨z,-,rfl⟩:=List.mem_map.1 h1
    exact diffN_lt z hM
  have hin:∀ z ∈ hitW (qs.map fun q => q.f3.toNat) K 0,diffN M z ∈ LN:=fun z hz => (hmem _).2 (.inr (List.mem_map.2 ⟨z,hz,rfl⟩))
  rw [hLN] at hl40 hlf
  rw [List.length_map] at hl40
  cases LN with
  | nil =>
   cases hq:hitW (qs.map fun q => q.f3.toNat) K 0 with
   | nil => exact absurd hq hne
   | cons z t => have h1:=hin z (by rw [hq]; exact List.mem_cons_self); cases h1
  | cons m t =>
   obtain ⟨p',e1,e2,e3⟩:=fst_start g hW1 m t hW hl40 a u 4398046511104 (by decide)
   refine .inr ⟨K,M,qs,fun z => figM W H (diffN M z),fun z => figText W H (diffN M z),figM W H p',?_,?_,hif,hfok,hset,hM60,fun z hz => figure_f g (hW _ (hin z hz)),fun z hz => (figT_f g (hW _ (hin z hz)) 4000001 (by decide)).2,fun z hz hle => ?_⟩
   ·unfold spec_FirstToTake.f
    rw [hsf,Option.bind_some,if_pos rfl,hlf,Option.bind_some,e3]
    rfl
   ·have h1:=rowA_len g p'
    have h2:=rowU_len g p'
    show (rowA (W:Int) (H:Int) p').length + (rowU (W:Int) (H:Int) p').length ≤ 1000000
    omega
   ·have h7:=(hmem p').1 e1
    rcases h7 with h7 | h7
    ·cases h7
    obtain ⟨y,hy,hyp⟩:=List.mem_map.1 h7
    have h1:=hle y hy
    dsimp only at h1
    rw [hyp] at h1
    have h2:=e2 _ (hin z hz)
    have h3:=cb_neg (figText W H p').data.toList (figText W H (diffN M z)).data.toList
    have h4:=cb_zero _ _ (show Lib.compareBytes (figText W H p').data.toList (figText W H (diffN M z)).data.toList = 0 by omega)
    have hbp:=hW _ (hin z hz)
    have hbp':=hW p' e1
    rw [figN_nat] at hbp hbp'
    rw [figText_inj hW1 hbp' hbp (ba_ext h4)]
 ·obtain ⟨h1,h2⟩:=few_no ha hu hy
  refine .inl ⟨?_,h2⟩
  unfold spec_FirstToTake.f
  rw [up_rounds (fun k => spec_sqFew.mono _ _ _ _ k) (show 4000001 ≤ 4398046511104 by decide) h1,Option.bind_some,if_neg (by simp)]

end Go.Proofs.YtehjfaddhmdicaaDoor.P
/- What the row's listed variable,math/bits' table,gives a walk; a world in which it is laid. -/
namespace Go.Proofs.YtehjfaddhmdicaaDoor.Laid
open Go.RowKit
theorem mapM_at {α β:Type} {f:α → Option β}:∀ {l:List α} {xs:List β},l.mapM f = some xs → ∀ (j:Nat) (x:α),l[j]? = some x → ∃ y,xs[j]? = some y ∧ f x = some y
  | [],xs,_,j,x,hj => by simp at hj
  | a :: l,xs,h,j,x,hj => by
    rw [List.mapM_cons] at h
    obtain ⟨y,hy,h⟩:=Option.bind_eq_some_iff.1 h
    obtain ⟨ys,hys,h⟩:=Option.bind_eq_some_iff.1 h
    obtain rfl:=Option.some.inj h
    cases j with
    | zero => simp at hj; subst hj; exact ⟨y,rfl,hy⟩
    | succ j => exact mapM_at hys j x (by simpa using hj)
theorem int_of_trod {H:Type} {enc:TypeId × Value → H} {P:Program} {w:World} {base:Nat} {sp:Nat → Bool} {held:Bool} {fuel:Nat} {t:TypeId} {k:IntKind} {c:Value} {y:DataW H × List MemPlace}
    (ht:P.underlying t = some (.int k)) (h:DataW.trod enc P w base sp held fuel t [c] = some y):∃ n,c = .int k n ∧ y = (.lit (.int k n),[]):=by
  cases fuel with
  | zero => simp [DataW.trod] at h
  | succ fuel =>
    cases c <;> simp [DataW.trod,ht] at h
    rename_i k' n
    obtain ⟨⟨rfl,_⟩,rfl⟩:=h
    exact ⟨n,rfl,rfl⟩
theorem bytes_of_trod {H:Type} {enc:TypeId × Value → H} {P:Program} {w:World} {base:Nat} {sp:Nat → Bool} {held:Bool} {fuel n:Nat} {t e:TypeId} {l:List Value} {tab:List Nat} {ps:List MemPlace} (ht:P.underlying t = some (.array n e)) (he:P.underlying e = some (.int .u8)) (h1:P.cellsOf t = n) (h2:P.cellsOf e = 1)
    (h:DataW.trod enc P w base sp held fuel t l = some (.agg (tab.map fun k:Nat => .lit (.int .u8 (k:Int))),ps)) (j:Nat) (hj:j < n):l[j]? = some (.int .u8 ((tab.getD j 0:Nat):Int)):=by
  cases fuel with
  | zero => simp [DataW.trod] at h
  | succ fuel =>
    simp only [DataW.trod,ht,h1,h2] at h
    split at h
    · rename_i hl
      obtain ⟨xs,hxs,hy⟩:=Option.map_eq_some_iff.1 h
      obtain ⟨y,hyj,hf⟩:=mapM_at hxs j j (by rw [List.getElem?_range hj])
      obtain ⟨c,hc⟩:∃ c,l[j]? = some c:=⟨l[j]'(by omega),List.getElem?_eq_getElem _⟩
      rw [Nat.mul_one,show (l.drop j).take 1 = [c] from by rw [List.drop_eq_getElem_cons (by omega)]; rw [List.getElem?_eq_getElem (by omega)] at hc; injection hc with hc; rw [hc]; rfl] at hf
      obtain ⟨m,rfl,rfl⟩:=int_of_trod he hf
      have h3:=(Prod.mk.inj hy).1
      injection h3 with h3
      have h4:=congrArg (fun q => q[j]?) h3
      simp only [List.getElem?_map,hyj,Option.map_some] at h4
      rw [hc,List.getD_eq_getElem?_getD]
      cases ht2:tab[j]? with
      | none => rw [ht2] at h4; cases h4
      | some q =>
        rw [ht2] at h4
        simp at h4
        rw [h4]; rfl
    · cases h
theorem gnum : Tryd.prog.globalNamed "math/bits.deBruijn64tab" = some 0 := by kernel_rfl
theorem gtype:(Tryd.prog.globals[0]?).map (·.type) = some 172:=by kernel_rfl
theorem cellsT:Tryd.prog.cellsOf 172 = 64:=by kernel_rfl
theorem cellsE:Tryd.prog.cellsOf 5 = 1:=by kernel_rfl
theorem tabIs:(Rows.laid_math_bits_deBruijn64tab:DataW Unit) = .agg (Lib.deBruijn64tab.map fun k => .lit (.int .u8 ((k:Nat):Int))):=by rfl
theorem plain (w : World) : laidMetH Tryd.prog [("math/bits.deBruijn64tab", Rows.laid_math_bits_deBruijn64tab)] w → laidMet Tryd.prog [("math/bits.deBruijn64tab", Rows.laid_math_bits_deBruijn64tab)] w := fun h => h
theorem tb {W : World} (h : laidMetH Tryd.prog [("math/bits.deBruijn64tab", Rows.laid_math_bits_deBruijn64tab)] W) : P.TB W := by
  obtain ⟨ps,⟨g,t,cs,fuel,p,q,hg,ht,hvar,hd,_,_⟩,_⟩:=plain W h
  obtain rfl:=Option.some.inj (gnum.symm.trans hg)
  obtain rfl:=Option.some.inj (gtype.symm.trans ht)
  refine ⟨fun j hj => ?_,trivial⟩
  rw [World.var?_cell hg hvar j]
  rw [tabIs] at hd
  have:=bytes_of_trod Tryd.underlying172 Tryd.underlying5 cellsT cellsE hd j hj
  rw [← Array.getElem?_toList]
  exact this
def cells64:Array Value:=(Lib.deBruijn64tab.map fun k => Value.int .u8 ((k:Nat):Int)).toArray
noncomputable def laidWorld (os:Os):World :=
  { World.holding Tryd.prog os ⟨#[],#[],[]⟩ with heap:=(World.holding Tryd.prog os ⟨#[],#[],[]⟩).heap.modify 0 fun
      | .cells _ t frozen => .cells cells64 t frozen
      | o => o }
set_option maxRecDepth 100000 in
theorem laidWorld_met (os : Os) (args : Array Value) : laidMetH Tryd.prog [("math/bits.deBruijn64tab", Rows.laid_math_bits_deBruijn64tab)] ((laidWorld os).forCall (fun _ _ => 0) ⟨#[], args, []⟩).memory :=
  laidMetH_of_parts (laidMet_of_run' 8 (by kernel_rfl) (by kernel_rfl)) (by kernel_rfl)
end Go.Proofs.YtehjfaddhmdicaaDoor.Laid
namespace Go.Proofs.YtehjfaddhmdicaaDoor.fnExactFirstToTake
open Go.ChangeShapes Go.WideShapes Go.ChangeAt Go.RowKit Go.Proofs.YtehjfaddhmdicaaDoorW.PrintWords Go.Joins
set_option linter.unusedVariables false
theorem own:ownKnob Tryd.prog.godebug = none:=Closed.own
theorem laidOut:laidOutB Tryd.prog = true:=Closed.laidOut
def IsRow (k:IntKind) (w:World) (a:Option Addr) (len cap:Nat) (zs:List Int):Prop :=
 (a = none ∧ len = 0 ∧ cap = 0 ∧ zs = []) ∨
 ∃ x,a = some x ∧ len ≤ cap ∧ cap ≤ maxLen ∧ zs.length = cap ∧ (∀ i,i < zs.length → w.cell? (x.add i) = some (.int k (zs.getD i 0))) ∧ ∀ n ∈ zs,(Lit.int k n).wf = true
theorem opened {H:Type} {enc:TypeId × Value → H} {W:World} {m:Nat} {c:Value} {y:DataW H × List MemPlace} (hy:DataW.trod enc Tryd.prog W 0 (fun _ => true) true m 22 [c] = some y) :
  ∃ a len cap zs,c = .slice a len cap ∧ IsRow .i64 W a len cap zs:=by
 rcases open_ints Tryd.underlying22 Tryd.underlying3 (by kernel_rfl) hy with ⟨hcs,_⟩ | ⟨x,l,c,zs,hcs,_,hl,hm,hz,_,hcell,hwz⟩
 ·simp at hcs
  exact ⟨none,0,0,[],hcs,.inl ⟨rfl,rfl,rfl,rfl⟩⟩
 ·simp at hcs
  exact ⟨some x,l,c,zs,hcs,.inr ⟨_,rfl,hl,hm,by simpa using hz,hcell,hwz⟩⟩
theorem walk (a b:Int) (A2:Option Addr) (n2 c2:Nat) (z2:List Int) (A3:Option Addr) (n3 c3:Nat) (z3:List Int)  (w:World) (w2:IsRow .i64 w A2 n2 c2 z2) (w3:IsRow .i64 w A3 n3 c3 z3) (y2:n2 * 8 ≤ 140737488351232) (y3:n3 * 8 ≤ 140737488351232) (hT:P.TB w) :
  Calls Tryd.prog 8 #[.agg #[.int .i64 a,.int .i64 b,.slice A2 n2 c2,.slice A3 n3 c3]] w fun e w' => e = .returned (.bool true) ∧ Below w.heap.size w w':=by
 obtain ⟨l2,rfl,hr2,hm2,hw2,hc2⟩:=ReadsInt.ofRowC w2
 obtain ⟨l3,rfl,hr3,hm3,hw3,hc3⟩:=ReadsInt.ofRowC w3
 have k2:=Kd.C_of_reads (d:=(0:Int)) (h1:=fun _ => rfl) hr2
 have k3:=Kd.C_of_reads (d:=(0:Int)) (h1:=fun _ => rfl) hr3
 by_cases hbig:l2.length + l3.length ≤ 1000000
 ·have b2:l2.length ≤ 1000000:=Nat.le_trans (Nat.le_add_right _ _) hbig
  have b3:l3.length ≤ 1000000:=Nat.le_trans (Nat.le_add_left _ _) hbig
  rcases P.FirstToTake_pure (w:=a) (h:=b) (a:=l2) (u:=l3) b2 b3 with ⟨hp1,hp2⟩ | ⟨K,M,qs,F,T,R,hp1,hlen,hp2,hfok,hset,hM,hF,hT2,hR⟩
  ·exact P.law_FirstToTake_yes a b A2 c2 l2 A3 c3 l3 4000001 0 0 [] [] false P.TB (fun _ _ h hb => h.below hb) w k2 hc2 k3 hc3 hT hbig (by simp) (Nat.lt_succ_self _)
    (fun B2 d2 B3 d3 W hu2 hd2 hu3 hd3 hG => P.spec_FirstToTake.calls 4398046511104 a b B2 d2 l2 B3 d3 l3 0 0 [] [] false W hu2 hd2 hu3 hd3 hp1)
    (fun B2 d2 B3 d3 W hu2 hd2 hu3 hd3 hG => P.answers_noF (P.fstTo_no 4000001 a b B2 d2 l2 B3 d3 l3 W hu2 hd2 hu3 hd3 hp2))
  ·obtain ⟨q1,q2,q3,q4,q5,q6⟩:=hfok
   exact P.law_FirstToTake_yes a b A2 c2 l2 A3 c3 l3 4000001 R.f0 R.f1 R.f2 R.f3 true P.TB (fun _ _ h hb => h.below hb) w k2 hc2 k3 hc3 hT hbig hlen (Nat.lt_succ_self _)
    (fun B2 d2 B3 d3 W hu2 hd2 hu3 hd3 hG => P.spec_FirstToTake.calls 4398046511104 a b B2 d2 l2 B3 d3 l3 R.f0 R.f1 R.f2 R.f3 true W hu2 hd2 hu3 hd3 hp1)
    (fun B2 d2 B3 d3 W hu2 hd2 hu3 hd3 hG => P.fstTo_yes 4000001 a b B2 d2 l2 B3 d3 l3 qs K M F T R W hu2 hd2 hu3 hd3 hp2 q1 q2 q3 q4 q5 q6 hset hM hF hT2 hR hG)
 ·exact P.law_FirstToTake_no a b A2 c2 l2 A3 c3 l3  w k2 hc2 k3 hc3 (by clear hbig; omega) (by clear hbig; omega) hbig
theorem joined_mk (P:Program) (f:FuncId) (fn:Func) (s:ChangeSpec) (c:OpenClaim) (k0:(c.wf (OpenSpec.ofChange s)) = true) (k1:(laidOutB P) = true) (k2:(mapsRowed P) = true) (k3:(fn.params.all (P.readableRec ·)) = true) (k4:(namedTie P c.named s.vars) = true) (k5:((c.stops == [])) = true) (k6:((P.stops == [])) = true) (k7:((c.knobs == [])) = true) (k8:((P.stopKnobs == [])) = true) (k9:((c.inPlace == P.inPlace f)) = true) (k10:((c.unfollowed == P.unfollowed f)) = true) (k11:((c.recurses == P.recurses f)) = true) (k12:((c.named == P.varsNamed f)) = true) (k13:((c.maps == (fn.params.toList ++ s.plain.varTypes P).any (P.mapsRec ·))) = true) (k14:((c.ifaces == (fn.params.toList ++ s.plain.varTypes P).any (P.ifacesRec ·))) = true) (k15:((c.mapsOut == P.mapsAmong fn.resultTypes.toList)) = true) (k16:((c.loops == (fn.params.toList ++ s.plain.varTypes P).any (P.loopsFrom ·))) = true) (k17:((c.wideKeys == (fn.params.toList ++ s.plain.varTypes P ++ fn.resultTypes.toList).any (P.wideKeysFrom ·))) = true) (k18:(s.vars.all (P.varReadable ·)) = true) (k19:(fn.resultTypes.all (fun t => P.readableRec t && decide (t < P.types.size))) = true) (k20:((c.ifacesOut == fn.resultTypes.toList.any (P.ifacesRec ·))) = true) (k21:((c.loopsOut == fn.resultTypes.toList.any (P.loopsFrom ·))) = true) (k22:((c.plainKeys == P.plainKeys)) = true) (k23:(c.shortTexts.isNone) = true) (k24:(P.stopsHeard) = true) (k25:(P.mayEnter) = true) (k26:((c.lifted == P.liftsFinal)) = true) (k27:((P.make == some c.make)) = true) (hd:c.domain.isEmpty = true) (k28:(c.kinds == []) = true) (k29:((c.pinned == c.pinnedBy)) = true) (k30:((c.veiled == (fn.params.toList ++ s.plain.varTypes P ++ fn.resultTypes.toList).any (P.veiledRec ·))) = true) (k31:(c.veiledFits P fn.params.toList (fn.params.toList ++ s.plain.varTypes P ++ fn.resultTypes.toList)) = true):joinedFacts P f fn s c = true:=by
 unfold joinedFacts
 simp only [hd,if_true,k0,k1,k2,k3,k4,k5,k6,k7,k8,k9,k10,k11,k12,k13,k14,k15,k16,k17,k18,k19,k20,k21,k22,k23,k24,k25,k26,k27,k28,k29,k30,k31,Bool.and_self]
abbrev LAID : List (String × DataW Unit) := [("math/bits.deBruijn64tab", Rows.laid_math_bits_deBruijn64tab)]
set_option maxRecDepth 100000 in
theorem lifted (os:Os) (started:os.Started) (H:Type) (enc:TypeId × Value → H) :
  ReturnsInHanded {} Tryd.checked os 8 .any (fun w args => (Rows.fnExactFirstToTakeSpec.pre enc Tryd.prog Tryd.f8 [] false w args ∧ laidMetH Tryd.prog LAID w) ∧ sizedMet enc Tryd.prog Tryd.f8 (OpenSpec.ofChange Rows.fnExactFirstToTakeSpec) false w args) (Rows.fnExactFirstToTakeSpec.post enc Tryd.prog Tryd.f8 false true false false):=by
 refine returnsInHanded_of_change_and (C:=Tryd.checked) (X:=fun w _ => laidMetH Tryd.prog LAID w) (fun _ _ _ hh h => h.of_heap hh) own started (by kernel_rfl) Tryd.func8 (ChangeSpec.witness_at (enc:=enc) (C:=Tryd.checked) (os:=os) (X:=fun w _ => laidMetH Tryd.prog LAID w) false (Laid.laidWorld os) #[.agg #[.int .i64 0,.int .i64 0,.slice none 0 0,.slice none 0 0]] 8 rfl (by kernel_rfl) (by kernel_rfl) (by kernel_rfl) (by kernel_rfl) (by kernel_rfl) (Laid.laidWorld_met os _)) ?_
 intro W base args ds gs before hval0 hW hcnd hsz0 hL _
 have hT:P.TB W:=Laid.tb hL
 have hsz:(DataW.weightsEach Tryd.prog (Tryd.f8.params.toList ++ Rows.fnExactFirstToTakeSpec.plain.varTypes Tryd.prog) (ds ++ gs)).all (· ≤ reachBytes) = true:=hsz0
 have hval:∀ (j:Nat) t v,Tryd.f8.params[j]? = some t → args[j]? = some v → Value.okWide Tryd.prog W .any base t v:=hval0
 have hW':=hW
 obtain ⟨p,q,hA0,hV,rfl,hfz,hnd⟩:=hW
 have hA:DataW.TrodAll enc Tryd.prog W 0 (fun _ => true) true Tryd.f8.params.toList args.toList ds p:=hA0
 rw [Tryd.params8] at hA hval hsz
 obtain ⟨v0,vs0,d0,ds0,p0,q0,hargs,rfl,rfl,h0,r0⟩:=trodAll_cons hA
 obtain ⟨rfl,rfl,rfl⟩:=trodAll_nil r0
 obtain rfl:args = #[v0]:=by cases args; simp_all
 obtain ⟨rfl,rfl⟩:=trodVars_none hV
 have k0:=h0
 have lt0:∀ x ∈ p0,x.block < W.heap.size:=by obtain ⟨m,hm⟩:=k0; exact DataW.trod_lt m _ _ _ hm

 obtain ⟨c0,c1,c2,c3,y0,y1,y2,y3,m,rfl,rfl,rfl,hy0,hy1,hy2,hy3⟩:=open_agg4 Tryd.underlying33 (by kernel_rfl) (by kernel_rfl) (hval 0 33 v0 rfl rfl) h0
 have hsz2:(DataW.weightsEach Tryd.prog [3,3,22,22] [y0.1,y1.1,y2.1,y3.1]).all (· ≤ reachBytes) = true:=by
  rw [List.all_eq_true]
  intro n hn
  exact List.all_eq_true.1 hsz n (DataW.weights_mem_each (j:=0) (t:=33) (d:=.agg [y0.1,y1.1,y2.1,y3.1]) rfl rfl n (by simp only [DataW.weights,Tryd.underlying33]; exact hn))
 obtain ⟨a,e0,-,wa⟩:=DataW.trod_int Tryd.underlying3 hy0
 obtain ⟨b,e1,-,wb⟩:=DataW.trod_int Tryd.underlying3 hy1
 obtain ⟨a2,len2,cap2,z2,rfl,w2⟩:=opened hy2
 obtain ⟨a3,len3,cap3,z3,rfl,w3⟩:=opened hy3
 have z2_:len2 * 8 ≤ 140737488351232:=sized_ints hsz2 (j:=2) (t:=22) rfl rfl Tryd.underlying22 Tryd.underlying3 (by kernel_rfl) (by kernel_rfl) (⟨m,by simpa [Value.cells] using hy2⟩:DataW.Trod enc Tryd.prog W 0 (fun _ => true) true 22 (.slice a2 len2 cap2) y2.1 y2.2)
 have z3_:len3 * 8 ≤ 140737488351232:=sized_ints hsz2 (j:=3) (t:=22) rfl rfl Tryd.underlying22 Tryd.underlying3 (by kernel_rfl) (by kernel_rfl) (⟨m,by simpa [Value.cells] using hy3⟩:DataW.Trod enc Tryd.prog W 0 (fun _ => true) true 22 (.slice a3 len3 cap3) y3.1 y3.2)
 obtain rfl:c0 = .int .i64 a:=by simpa using e0
 obtain rfl:c1 = .int .i64 b:=by simpa using e1
 clear hA0 hval0 hsz0 hsz hsz2
 refine (walk a b a2 len2 cap2 z2 a3 len3 cap3 z3  W w2 w3 z2_ z3_ hT).mono fun e W' ⟨he,bel⟩ => ?_
 subst he
 exact ⟨_,rfl,_,_,_,[],_,[],hW',trodAll_mk1 (shut_bool Tryd.underlying4 _),(trodAll_cons_mk (Below.trod laidOut (by kernel_rfl) (of_decide_eq_true (by kernel_rfl)) k0 bel lt0) trodAll_mk0),rfl,bel.frame _,fun h => by cases h⟩
theorem k0_:(Rows.fnExactFirstToTakeRow.wf (OpenSpec.ofChange Rows.fnExactFirstToTakeSpec)) = true:=by kernel_rfl
theorem k1_:(laidOutB Tryd.prog) = true:=Closed.laidOut
theorem k2_:(mapsRowed Tryd.prog) = true:=Closed.mapsRowedP
theorem k3_:(Tryd.f8.params.all (Tryd.prog.readableRec ·)) = true:=by kernel_rfl
theorem k4_:(namedTie Tryd.prog Rows.fnExactFirstToTakeRow.named Rows.fnExactFirstToTakeSpec.vars) = true:=by kernel_rfl
theorem k5_:((Rows.fnExactFirstToTakeRow.stops == [])) = true:=by kernel_rfl
theorem k6_:((Tryd.prog.stops == [])) = true:=Closed.noStops
theorem k7_:((Rows.fnExactFirstToTakeRow.knobs == [])) = true:=by kernel_rfl
theorem k8_:((Tryd.prog.stopKnobs == [])) = true:=Closed.noKnobs
theorem k9_:((Rows.fnExactFirstToTakeRow.inPlace == Tryd.prog.inPlace 8)) = true:=by kernel_rfl
theorem k10_:((Rows.fnExactFirstToTakeRow.unfollowed == Tryd.prog.unfollowed 8)) = true:=by kernel_rfl
theorem k11_:((Rows.fnExactFirstToTakeRow.recurses == Tryd.prog.recurses 8)) = true:=by kernel_rfl
theorem k12_:((Rows.fnExactFirstToTakeRow.named == Tryd.prog.varsNamed 8)) = true:=by kernel_rfl
theorem k13_:((Rows.fnExactFirstToTakeRow.maps == (Tryd.f8.params.toList ++ Rows.fnExactFirstToTakeSpec.plain.varTypes Tryd.prog).any (Tryd.prog.mapsRec ·))) = true:=by kernel_rfl
theorem k14_:((Rows.fnExactFirstToTakeRow.ifaces == (Tryd.f8.params.toList ++ Rows.fnExactFirstToTakeSpec.plain.varTypes Tryd.prog).any (Tryd.prog.ifacesRec ·))) = true:=by kernel_rfl
theorem k15_:((Rows.fnExactFirstToTakeRow.mapsOut == Tryd.prog.mapsAmong Tryd.f8.resultTypes.toList)) = true:=by kernel_rfl
theorem k16_:((Rows.fnExactFirstToTakeRow.loops == (Tryd.f8.params.toList ++ Rows.fnExactFirstToTakeSpec.plain.varTypes Tryd.prog).any (Tryd.prog.loopsFrom ·))) = true:=by kernel_rfl
theorem k17_:((Rows.fnExactFirstToTakeRow.wideKeys == (Tryd.f8.params.toList ++ Rows.fnExactFirstToTakeSpec.plain.varTypes Tryd.prog ++ Tryd.f8.resultTypes.toList).any (Tryd.prog.wideKeysFrom ·))) = true:=by kernel_rfl
theorem k18_:(Rows.fnExactFirstToTakeSpec.vars.all (Tryd.prog.varReadable ·)) = true:=by kernel_rfl
theorem k19_:(Tryd.f8.resultTypes.all (fun t => Tryd.prog.readableRec t && decide (t < Tryd.prog.types.size))) = true:=by kernel_rfl
theorem k20_:((Rows.fnExactFirstToTakeRow.ifacesOut == Tryd.f8.resultTypes.toList.any (Tryd.prog.ifacesRec ·))) = true:=by kernel_rfl
theorem k21_:((Rows.fnExactFirstToTakeRow.loopsOut == Tryd.f8.resultTypes.toList.any (Tryd.prog.loopsFrom ·))) = true:=by kernel_rfl
theorem k22_:((Rows.fnExactFirstToTakeRow.plainKeys == Tryd.prog.plainKeys)) = true:=by kernel_rfl
theorem k23_:(Rows.fnExactFirstToTakeRow.shortTexts.isNone) = true:=by kernel_rfl
theorem k24_:(Tryd.prog.stopsHeard) = true:=Closed.stopsHeard
theorem k25_:(Tryd.prog.mayEnter) = true:=Closed.mayEnter
theorem k26_:((Rows.fnExactFirstToTakeRow.lifted == Tryd.prog.liftsFinal)) = true:=by rw [Closed.liftsFinal]; kernel_rfl
theorem k27_:((Tryd.prog.make == some Rows.fnExactFirstToTakeRow.make)) = true:=by rw [Closed.make]; kernel_rfl
theorem k28_:((Rows.fnExactFirstToTakeRow.kinds == [])) = true:=by kernel_rfl
theorem k29_:((Rows.fnExactFirstToTakeRow.pinned == Rows.fnExactFirstToTakeRow.pinnedBy)) = true:=by kernel_rfl
theorem k30_:((Rows.fnExactFirstToTakeRow.veiled == (Tryd.f8.params.toList ++ Rows.fnExactFirstToTakeSpec.plain.varTypes Tryd.prog ++ Tryd.f8.resultTypes.toList).any (Tryd.prog.veiledRec ·))) = true:=by kernel_rfl
theorem k31_:(Rows.fnExactFirstToTakeRow.veiledFits Tryd.prog Tryd.f8.params.toList (Tryd.f8.params.toList ++ Rows.fnExactFirstToTakeSpec.plain.varTypes Tryd.prog ++ Tryd.f8.resultTypes.toList)) = true:=by kernel_rfl
theorem k99_:(Rows.fnExactFirstToTakeRow.domain.isEmpty) = true:=by kernel_rfl
theorem closed:joinedFacts Tryd.prog 8 Tryd.f8 Rows.fnExactFirstToTakeSpec Rows.fnExactFirstToTakeRow = true :=
 joined_mk _ _ _ _ _ k0_ k1_ k2_ k3_ k4_ k5_ k6_ k7_ k8_ k9_ k10_ k11_ k12_ k13_ k14_ k15_ k16_ k17_ k18_ k19_ k20_ k21_ k22_ k23_ k24_ k25_ k26_ k27_ k99_ k28_ k29_ k30_ k31_
theorem over:Rows.fnExactFirstToTakeRow.holds Tryd.pinned (OpenSpec.ofChange Rows.fnExactFirstToTakeSpec) :=
 OpenClaim.holds_of_wide 8 Tryd.f8 rfl rfl rfl rfl rfl rfl rfl ⟨rfl,rfl,rfl,rfl,rfl⟩ rfl rfl rfl rfl rfl (by kernel_rfl) Tryd.func8 closed
  (of_decide_eq_true (by kernel_rfl)) (by unfold Func.isWrapper; first | (rw [if_pos (by decide +kernel)]; kernel_rfl) | (rw [if_neg (by decide +kernel)]; exact ⟨rfl,rfl⟩))
  (fun os started H enc _ => lifted os started H enc)
theorem card:Rows.FnExactFirstToTakeCardSaid :=
 Claim7.holds_tied_plain_at .later [] [.data] true (true, "51a81812d70b6a8fa3f4660c1a3f95587944b71932d92a023d035a6397cb1daa") false
  over (fun _ h => by cases h) (by kernel_rfl) (fun _ h => by cases h) fnExactFirstToTake_row_tie rfl ⟨rfl,rfl⟩ (by kernel_rfl) rfl
  (fun f fn hf hfn => by
   obtain rfl : f = 8 := Option.some.inj ((show Tryd.prog.funcNamed "loop.example/g01233/laws.FnExactFirstToTake" = some 8 by kernel_rfl).symm.trans hf) |>.symm
   obtain rfl:fn = Tryd.f8:=(Option.some.inj (Tryd.func8.symm.trans hfn)).symm
   exact ⟨by kernel_rfl,fun j t ht => by
    rw [Tryd.params8] at ht
    have h3:t = 33 ∨ t = 3 ∨ t = 4:=by
     rcases j with _ | _ | _ | _ | _ | j
     all_goals first | (left; simpa using ht.symm) | (right; left; simpa using ht.symm) | (right; right; simpa using ht.symm) | simp at ht
    rcases h3 with rfl | rfl | rfl
    ·exact (show Tryd.prog.wantsStandIn 33 = false by kernel_rfl)
    ·exact (show Tryd.prog.wantsStandIn 3 = false by kernel_rfl)
    ·exact (show Tryd.prog.wantsStandIn 4 = false by kernel_rfl)⟩)
  (by kernel_rfl)
end Go.Proofs.YtehjfaddhmdicaaDoor.fnExactFirstToTake
namespace Go.Proofs.YtehjfaddhmdicaaDoor
theorem fnExactFirstToTake_holds : Rows.FnExactFirstToTakeCardSaid := fnExactFirstToTake.card
end Go.Proofs.YtehjfaddhmdicaaDoor
