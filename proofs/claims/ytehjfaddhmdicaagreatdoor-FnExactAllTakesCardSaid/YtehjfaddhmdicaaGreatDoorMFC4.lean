/- For every input the law FnExactAllTakes answers true: the program's AllTakes tells what the reference's AllTakes tells; no condition. (part 4 of the proof; the words of the kit's print tool and the texts of this seat, merged by a program) -/
import Derived.Laws.BytesArg
import Derived.Lib.Bytealg
import Derived.Lib.Join
import Derived.Shelf.SlSortCmp.NoneTotal
import Derived.Shelf.Strings.OnBuilder
import Derived.Test.YtehjfaddhmdicaaGreatDoorPshelf
import Derived.Test.YtehjfaddhmdicaaGreatDoorPshelg
import Derived.Test.YtehjfaddhmdicaaGreatDoorMFC3
namespace Go.Proofs.YtehjfaddhmdicaaGreatDoor.P
open Go.RowKit Go.Proofs.YtehjfaddhmdicaaGreatDoorW.PrintWords Go.Proofs.YtehjfaddhmdicaaGreatDoorW.PrintLast Go.Proofs.YtehjfaddhmdicaaGreatDoorW.PrintMore
attribute [local go_sem] max2_int min2_int max_two min_two max_three min_three max_four min_four   -- for this text's walks alone
set_option linter.unusedVariables false
set_option linter.unusedSimpArgs false

set_option maxRecDepth 100000 in
set_option maxHeartbeats 8000000 in
theorem law_AllTakes_no (a0_0:Int) (a0_1:Int) (A0_2:Option Addr) (c0_2:Nat) (l0_2:List Int) (A0_3:Option Addr) (c0_3:Nat) (l0_3:List Int) (x1:Int) (x2:Int) (w:World) (hr0_2:Kd.C (Kd.int .i64) w A0_2 l0_2.length l0_2) (hc0_2:l0_2.length ≤ c0_2) (hr0_3:Kd.C (Kd.int .i64) w A0_3 l0_3.length l0_3) (hc0_3:l0_3.length ≤ c0_3) (hl:l0_2.length ≤ 140737488355328) (hm:l0_3.length ≤ 140737488355328) (hbig:¬ l0_2.length + l0_3.length ≤ 1000000) :
    Calls Tryz.prog 5 #[.agg #[.int .i64 a0_0,.int .i64 a0_1,.slice A0_2 l0_2.length c0_2,.slice A0_3 l0_3.length c0_3],.int .i64 x1,.int .i64 x2] w fun e w' => e = .returned (.bool true) ∧ Below w.heap.size w w':=by
  have hsz:=am_ (szFigure_no a0_0 a0_1 l0_2 l0_3 hl hm hbig)
  have HR2:=am_ hr0_2
  have HR3:=am_ hr0_3
  have HC2:=am_ hc0_2
  have HC3:=am_ hc0_3
  clear hr0_2 hr0_3 hc0_2 hc0_3 hl hm hbig
  go_enter Tryz.func5,Tryz.ntmps5
  go_wp2_with (go_at_call 7; refine (laws_szFigure.calls _ _ _ _ l0_2 _ _ l0_3 _ (-1) _ ?xA HC2.out ?xB HC3.out hsz.out).mono ?_; (case xA => first | exact Kd.C_alloc HR2.out _ | exact Kd.C_alloc (Kd.C_alloc HR2.out _) _ | exact Kd.C_alloc (Kd.C_alloc (Kd.C_alloc HR2.out _) _) _); (case xB => first | exact Kd.C_alloc HR3.out _ | exact Kd.C_alloc (Kd.C_alloc HR3.out _) _ | exact Kd.C_alloc (Kd.C_alloc (Kd.C_alloc HR3.out _) _) _); rintro e w1 ⟨rfl,hb⟩)
  go_ret
  exact ⟨rfl,below_step (by repeat (first | exact Below.refl _ _ | apply below_alloc)) hb⟩

set_option maxRecDepth 100000 in
set_option maxHeartbeats 16000000 in
theorem law_AllTakes_yes (a0_0:Int) (a0_1:Int) (A0_2:Option Addr) (c0_2:Nat) (l0_2:List Int) (A0_3:Option Addr) (c0_3:Nat) (l0_3:List Int) (x1:Int) (x2:Int) (K:Nat) (R1:List S26) (R2:Bool) (G:World → Prop) (hG:∀ w w',G w → Below w.heap.size w w' → G w') (w:World) (hr0_2:Kd.C (Kd.int .i64) w A0_2 l0_2.length l0_2) (hc0_2:l0_2.length ≤ c0_2) (hr0_3:Kd.C (Kd.int .i64) w A0_3 l0_3.length l0_3) (hc0_3:l0_3.length ≤ c0_3) (hGw:G w) (hbig:l0_2.length + l0_3.length ≤ 1000000) (hRb:R1.length ≤ 1000) (hRc:∀ x ∈ R1,x.f2.length ≤ 100 ∧ x.f3.length ≤ 100) (hK:4200001 < K)
    (hspec:AnswersS kF G 17 a0_0 a0_1 l0_2 l0_3 (fun v => #[v,.int .i64 x1,.int .i64 x2]) R1 R2) (himpl:AnswersS kF G 18 a0_0 a0_1 l0_2 l0_3 (fun v => #[v,.int .i64 x1,.int .i64 x2]) R1 R2) :
    Calls Tryz.prog 5 #[.agg #[.int .i64 a0_0,.int .i64 a0_1,.slice A0_2 l0_2.length c0_2,.slice A0_3 l0_3.length c0_3],.int .i64 x1,.int .i64 x2] w fun e w' => e = .returned (.bool true) ∧ Below w.heap.size w w':=by
  have hsz:=am_ (szFigure_ok a0_0 a0_1 l0_2 l0_3 hbig)
  have hT0:=am_ (toFigure_f a0_0 a0_1 l0_2 l0_3 false (by omega) (by omega) K (by omega))
  have hT1:=am_ (toFigure_f a0_0 a0_1 l0_2 l0_3 true (by omega) (by omega) K (by omega))
  have hM:=am_ (markFigure_f a0_0 a0_1 l0_2 l0_3 hbig K (by omega))
  have hE:=am_ (eqFigureS_refl R1 (by omega) (fun x hx => by have:=hRc x hx; omega) K hK)
  have hHC:=am_ (heldFigureS_f R1 hRb hRc K (by omega))
  have hKK:=am_ (show 1000 < K by omega)
  have HRb:=am_ hRb
  have HRc:=am_ hRc
  have HS:Aside0 (∀ (A2:Option Addr) (c2:Nat) (A3:Option Addr) (c3:Nat) (W:World),Kd.C (Kd.int .i64) W A2 l0_2.length l0_2 → l0_2.length ≤ c2 → Kd.C (Kd.int .i64) W A3 l0_3.length l0_3 → l0_3.length ≤ c3 → G W → Calls Tryz.prog 17 #[.agg #[.int .i64 a0_0,.int .i64 a0_1,.slice A2 l0_2.length c2,.slice A3 l0_3.length c3],.int .i64 x1,.int .i64 x2] W fun e w' => ∃ v,e = .returned (.tuple #[v,.bool R2]) ∧ Kd.S kF 26 w' W.heap.size (fun _ => True) v R1 ∧ Below W.heap.size W w'):=⟨hspec⟩
  have HI:Aside0 (∀ (A2:Option Addr) (c2:Nat) (A3:Option Addr) (c3:Nat) (W:World),Kd.C (Kd.int .i64) W A2 l0_2.length l0_2 → l0_2.length ≤ c2 → Kd.C (Kd.int .i64) W A3 l0_3.length l0_3 → l0_3.length ≤ c3 → G W → Calls Tryz.prog 18 #[.agg #[.int .i64 a0_0,.int .i64 a0_1,.slice A2 l0_2.length c2,.slice A3 l0_3.length c3],.int .i64 x1,.int .i64 x2] W fun e w' => ∃ v,e = .returned (.tuple #[v,.bool R2]) ∧ Kd.S kF 26 w' W.heap.size (fun _ => True) v R1 ∧ Below W.heap.size W w'):=⟨himpl⟩
  have HGT:Aside0 (∀ W,Below w.heap.size w W → G W):=⟨fun W h => hG w W hGw h⟩
  have HL2:Aside0 (l0_2.length ≤ 1000000):=⟨by omega⟩
  have HL3:Aside0 (l0_3.length ≤ 1000000):=⟨by omega⟩
  have hl0:(0:Int) ≤ 1000000 - (l0_2.length:Int) - (l0_3.length:Int):=by omega
  have hl1:1000000 - (l0_2.length:Int) - (l0_3.length:Int) ≤ 1000000:=by omega
  have hk0:(0:Int) ≤ 101 + (l0_2.length:Int) + (l0_3.length:Int):=by omega
  have hm0:(0:Int) ≤ 101 + sizeF R1:=by have:=sizeF_b 100 R1 hRc; omega
  obtain ⟨mm,hmm⟩:∃ mm,101 + sizeF R1 = mm:=⟨_,rfl⟩
  rw [hmm] at hHC hm0
  have HMM:=am_ hmm
  generalize hmk:101 + (l0_2.length:Int) + (l0_3.length:Int) = mk at hM hk0
  generalize hsl:1000000 - (l0_2.length:Int) - (l0_3.length:Int) = sl at hsz hl0 hl1
  clear hmm hmk hsl
  have HR2:=am_ hr0_2
  have HR3:=am_ hr0_3
  have HC2:=am_ hc0_2
  have HC3:=am_ hc0_3
  clear hr0_2 hr0_3 hc0_2 hc0_3 hbig hRb hRc hK hspec himpl hG hGw
  have tok0:True:=trivial
  go_enter Tryz.func5,Tryz.ntmps5

  go_wp2_with (first
    | (go_at_call 7; have _t:=tok0; (with_reducible refine (laws_szFigure.calls _ _ _ _ l0_2 _ _ l0_3 _ sl _ ?sA HC2.out ?sB HC3.out hsz.out).mono ?_); (case sA => first | exact Kd.C_alloc HR2.out _ | exact Kd.C_alloc (Kd.C_alloc HR2.out _) _ | exact Kd.C_alloc (Kd.C_alloc (Kd.C_alloc HR2.out _) _) _); (case sB => first | exact Kd.C_alloc HR3.out _ | exact Kd.C_alloc (Kd.C_alloc HR3.out _) _ | exact Kd.C_alloc (Kd.C_alloc (Kd.C_alloc HR3.out _) _) _); rintro e w1 ⟨rfl,hb⟩; have Q0:=am_ (blk_keep (o:=.cells #[.int .i64 a0_0,.int .i64 a0_1,.slice A0_2 l0_2.length c0_2,.slice A0_3 l0_3.length c0_3] 24 (0,0)) (g:=w.heap.size) (by first | exact heap_alloc_new w _ | exact blk_alloc (heap_alloc_new w _) _ | exact blk_alloc (blk_alloc (heap_alloc_new w _) _) _) hb);
       have HB:Aside0 (Below w.heap.size w w1):=⟨below_step (by repeat (first | exact Below.refl _ _ | apply below_alloc)) hb⟩;
       have HW:Aside0 (w.heap.size < w1.heap.size):=⟨by have:=hb.size; simp at this; omega⟩;
       clear hb; have q0:w1.cell? ⟨w.heap.size,0,none⟩ = some (.int .i64 a0_0):=(bc_ Q0.out 0).trans rfl; have q1:w1.cell? ⟨w.heap.size,1,none⟩ = some (.int .i64 a0_1):=(bc_ Q0.out 1).trans rfl; have q2:w1.cell? ⟨w.heap.size,2,none⟩ = some (.slice A0_2 l0_2.length c0_2):=(bc_ Q0.out 2).trans rfl; have q3:w1.cell? ⟨w.heap.size,3,none⟩ = some (.slice A0_3 l0_3.length c0_3):=(bc_ Q0.out 3).trans rfl; clear _t tok0; have tok1:True:=trivial)
    | (go_at_call 9; have _t:=tok1; (with_reducible refine (laws_toFigure.calls K a0_0 a0_1 A0_2 c0_2 l0_2 A0_3 c0_3 l0_3 false a0_0 a0_1 l0_2 l0_3 _ (Kd.C_below HR2.out HB.out) HC2.out (Kd.C_below HR3.out HB.out) HC3.out hT0.out).mono ?_); rintro e w2 ⟨u2,u3,rfl,hu2,hu3,hb⟩; have n0_:=am_ (below_step HB.out hb);
       have n1_:=am_ (blk_keep Q0.out hb);
       clear q0 q1 q2 q3 HB Q0;
       have HB:=n0_;
       have Q0:=n1_;
       clear n0_ n1_;
       have q0:w2.cell? ⟨w.heap.size,0,none⟩ = some (.int .i64 a0_0):=(bc_ Q0.out 0).trans rfl;
       have q1:w2.cell? ⟨w.heap.size,1,none⟩ = some (.int .i64 a0_1):=(bc_ Q0.out 1).trans rfl;
       have q2:w2.cell? ⟨w.heap.size,2,none⟩ = some (.slice A0_2 l0_2.length c0_2):=(bc_ Q0.out 2).trans rfl;
       have q3:w2.cell? ⟨w.heap.size,3,none⟩ = some (.slice A0_3 l0_3.length c0_3):=(bc_ Q0.out 3).trans rfl;
       obtain ⟨B2,d2,rfl⟩:=Kd.R_slice hu2;
       obtain ⟨B3,d3,rfl⟩:=Kd.R_slice hu3;
       have U2:=am_ (Kd.R_reads' hu2).2;
       have U3:=am_ (Kd.R_reads' hu3).2;
       clear hb hu2 hu3; clear _t tok1; have tok2:True:=trivial)
    | (go_at_call 17; have _t:=tok2; (with_reducible refine (HS.out B2 d2 B3 d3 _ U2.out.2 U2.out.1 U3.out.2 U3.out.1 (HGT.out _ HB.out)).mono ?_); rintro e w3 ⟨v4,rfl,ho,hb⟩; have HB2:=am_ (HB.out.size);
       have HW2:Aside0 (w.heap.size < w3.heap.size):=⟨by have:=hb.size; have:=HB.out.size; have:=(Array.getElem?_eq_some_iff.1 Q0.out).1; omega⟩;
       have n0_:=am_ (below_step HB.out hb);
       have n1_:=am_ (blk_keep Q0.out hb);
       clear q0 q1 q2 q3 HB Q0;
       have HB:=n0_;
       have Q0:=n1_;
       clear n0_ n1_;
       have q0:w3.cell? ⟨w.heap.size,0,none⟩ = some (.int .i64 a0_0):=(bc_ Q0.out 0).trans rfl;
       have q1:w3.cell? ⟨w.heap.size,1,none⟩ = some (.int .i64 a0_1):=(bc_ Q0.out 1).trans rfl;
       have q2:w3.cell? ⟨w.heap.size,2,none⟩ = some (.slice A0_2 l0_2.length c0_2):=(bc_ Q0.out 2).trans rfl;
       have q3:w3.cell? ⟨w.heap.size,3,none⟩ = some (.slice A0_3 l0_3.length c0_3):=(bc_ Q0.out 3).trans rfl;
       have V4:=am_ (Kd.S_lower (Kd.S_mono (Kd.S_bound ho) (fun k hk => hk.2.2.1):Kd.S kF 26 w3 w2.heap.size (fun k => k < w3.heap.size) v4 R1) HB2.out);
       obtain ⟨A4,e4,rfl⟩:=Kd.S_slice ho;
       clear hb ho U2 U3 HB2; clear _t tok2; have tok3:True:=trivial)
    | (go_at_call 9; have _t:=tok3; (with_reducible refine (laws_toFigure_full a0_0 a0_1 A0_2 c0_2 l0_2 A0_3 c0_3 l0_3 _ (Kd.C_below HR2.out HB.out) HC2.out (Kd.C_below HR3.out HB.out) HC3.out HL2.out HL3.out).mono ?_); rintro e w4 ⟨g2,cc2,g3,cc3,rfl,ho2,ho3,hne,hb⟩; have HG:Aside0 ((w3.heap.size ≤ g2 ∧ g2 < w4.heap.size) ∧ (w3.heap.size ≤ g3 ∧ g3 < w4.heap.size) ∧ g2 ≠ g3):=⟨⟨Kd.R_base ho2 g2 (by simp [Value.ownBlock]),Kd.R_lt ho2 g2 (by simp [Value.ownBlock])⟩,⟨Kd.R_base ho3 g3 (by simp [Value.ownBlock]),Kd.R_lt ho3 g3 (by simp [Value.ownBlock])⟩,hne⟩;
       have HS3:=am_ HB.out.size;
       have n0_:=am_ (below_step HB.out hb);
       have n1_:=am_ (blk_keep Q0.out hb);
       have n2_:=am_ (Kd.S_below V4.out hb);
       clear q0 q1 q2 q3 HB Q0 V4;
       have HB:=n0_;
       have Q0:=n1_;
       have V4:=n2_;
       clear n0_ n1_ n2_;
       have q0:w4.cell? ⟨w.heap.size,0,none⟩ = some (.int .i64 a0_0):=(bc_ Q0.out 0).trans rfl;
       have q1:w4.cell? ⟨w.heap.size,1,none⟩ = some (.int .i64 a0_1):=(bc_ Q0.out 1).trans rfl;
       have q2:w4.cell? ⟨w.heap.size,2,none⟩ = some (.slice A0_2 l0_2.length c0_2):=(bc_ Q0.out 2).trans rfl;
       have q3:w4.cell? ⟨w.heap.size,3,none⟩ = some (.slice A0_3 l0_3.length c0_3):=(bc_ Q0.out 3).trans rfl;
       have G2:Aside0 (Kd.R (Kd.int .i64) 3 w4 w.heap.size (fun k => k = g2) (.slice (some ⟨g2,0,none⟩) (fullOf l0_2).length cc2) (fullOf l0_2)):=⟨Kd.R_lower (Kd.R_mono (Kd.R_tight rfl ho2) (fun k hk => by simpa [Value.ownBlock] using hk)) HS3.out⟩;
       have G3:Aside0 (Kd.R (Kd.int .i64) 3 w4 w.heap.size (fun k => k = g3) (.slice (some ⟨g3,0,none⟩) (fullOf l0_3).length cc3) (fullOf l0_3)):=⟨Kd.R_lower (Kd.R_mono (Kd.R_tight rfl ho3) (fun k hk => by simpa [Value.ownBlock] using hk)) HS3.out⟩;
       have T2:Aside0 (l0_2.length ≤ cc2 ∧ Kd.C (Kd.int .i64) w4 (some ⟨g2,0,none⟩) l0_2.length l0_2):=⟨by have h:=(Kd.R_reads' (Kd.R_take G2.out (m:=l0_2.length) (by rw [fullOf_length]; omega))).2; rw [fullOf_take] at h; exact h⟩;
       have T3:Aside0 (l0_3.length ≤ cc3 ∧ Kd.C (Kd.int .i64) w4 (some ⟨g3,0,none⟩) l0_3.length l0_3):=⟨by have h:=(Kd.R_reads' (Kd.R_take G3.out (m:=l0_3.length) (by rw [fullOf_length]; omega))).2; rw [fullOf_take] at h; exact h⟩;
       have hlt:w.heap.size < w4.heap.size:=by have:=HW2.out; have:=hb.size; omega;
       clear hb ho2 ho3 hne HS3; clear _t tok3; have tok4:True:=trivial)
    | (go_at_call 18; have _t:=tok4; (with_reducible refine (HI.out _ _ _ _ _ (Kd.C_alloc T2.out.2 _) T2.out.1 (Kd.C_alloc T3.out.2 _) T3.out.1 (HGT.out _ (below_alloc HB.out _))).mono ?_); rintro e w5 ⟨v7,rfl,ho,hb⟩; have HS4:Aside0 (w.heap.size ≤ w4.heap.size + 1):=⟨by have:=HB.out.size; omega⟩;
       have n0_:=am_ (below_step (below_alloc HB.out _) hb);
       have n1_:=am_ (blk_keep (blk_alloc Q0.out _) hb);
       have n2_:=am_ (Kd.S_below (Kd.S_alloc V4.out _) hb);
       have n3_:=am_ (Kd.R_below (Kd.R_alloc G2.out _) hb);
       have n4_:=am_ (Kd.R_below (Kd.R_alloc G3.out _) hb);
       clear q0 q1 q2 q3 HB Q0 V4 G2 G3;
       have HB:=n0_;
       have Q0:=n1_;
       have V4:=n2_;
       have G2:=n3_;
       have G3:=n4_;
       clear n0_ n1_ n2_ n3_ n4_;
       have X0n:Aside0 (w5.heap[w4.heap.size]? = some (.cells #[.int .i64 a0_0,.int .i64 a0_1,.slice (some ⟨g2,0,none⟩) l0_2.length cc2,.slice (some ⟨g3,0,none⟩) l0_3.length cc3] 26 (0,0))):=⟨blk_keep (heap_alloc_new w4 _) hb⟩;
       have X0:=X0n;
       clear X0n;
       have q0:w5.cell? ⟨w.heap.size,0,none⟩ = some (.int .i64 a0_0):=(bc_ Q0.out 0).trans rfl;
       have q1:w5.cell? ⟨w.heap.size,1,none⟩ = some (.int .i64 a0_1):=(bc_ Q0.out 1).trans rfl;
       have q2:w5.cell? ⟨w.heap.size,2,none⟩ = some (.slice A0_2 l0_2.length c0_2):=(bc_ Q0.out 2).trans rfl;
       have q3:w5.cell? ⟨w.heap.size,3,none⟩ = some (.slice A0_3 l0_3.length c0_3):=(bc_ Q0.out 3).trans rfl;
       have x0:w5.cell? ⟨w4.heap.size,0,none⟩ = some (.int .i64 a0_0):=(bc_ X0.out 0).trans rfl;
       have x1:w5.cell? ⟨w4.heap.size,1,none⟩ = some (.int .i64 a0_1):=(bc_ X0.out 1).trans rfl;
       have x2:w5.cell? ⟨w4.heap.size,2,none⟩ = some (.slice (some ⟨g2,0,none⟩) l0_2.length cc2):=(bc_ X0.out 2).trans rfl;
       have x3:w5.cell? ⟨w4.heap.size,3,none⟩ = some (.slice (some ⟨g3,0,none⟩) l0_3.length cc3):=(bc_ X0.out 3).trans rfl;
       have V7:Aside0 (Kd.S kF 26 w5 w.heap.size (fun k => w4.heap.size < k) v7 R1):=⟨Kd.S_lower (Kd.S_mono (Kd.S_bound ho) (fun k hk => by have:=hk.2.1; simp at this; omega)) (by simpa using HS4.out)⟩;
       obtain ⟨A7,e7,rfl⟩:=Kd.S_slice ho;
       clear hb ho hlt HS4 T2 T3; clear _t tok4; have tok5:True:=trivial)
    | (go_at_call 19; have _t:=tok5; (with_reducible refine (laws_eqFigureS.calls K _ _ R1 _ _ R1 true _ (kF_C (Kd.S_reads' V7.out).2.2) (Kd.S_reads' V7.out).2.1 (kF_C (Kd.S_reads' V4.out).2.2) (Kd.S_reads' V4.out).2.1 hE.out).mono ?_); rintro e w6 ⟨rfl,hb⟩; have n0_:=am_ (below_step HB.out hb);
       have n1_:=am_ (blk_keep Q0.out hb);
       have n2_:=am_ (Kd.S_below V4.out hb);
       have n3_:=am_ (Kd.R_below G2.out hb);
       have n4_:=am_ (Kd.R_below G3.out hb);
       have n5_:=am_ (blk_keep X0.out hb);
       have n6_:=am_ (Kd.S_below V7.out hb);
       clear q0 q1 q2 q3 x0 x1 x2 x3 HB Q0 V4 G2 G3 X0 V7;
       have HB:=n0_;
       have Q0:=n1_;
       have V4:=n2_;
       have G2:=n3_;
       have G3:=n4_;
       have X0:=n5_;
       have V7:=n6_;
       clear n0_ n1_ n2_ n3_ n4_ n5_ n6_;
       have q0:w6.cell? ⟨w.heap.size,0,none⟩ = some (.int .i64 a0_0):=(bc_ Q0.out 0).trans rfl;
       have q1:w6.cell? ⟨w.heap.size,1,none⟩ = some (.int .i64 a0_1):=(bc_ Q0.out 1).trans rfl;
       have q2:w6.cell? ⟨w.heap.size,2,none⟩ = some (.slice A0_2 l0_2.length c0_2):=(bc_ Q0.out 2).trans rfl;
       have q3:w6.cell? ⟨w.heap.size,3,none⟩ = some (.slice A0_3 l0_3.length c0_3):=(bc_ Q0.out 3).trans rfl;
       have x0:w6.cell? ⟨w4.heap.size,0,none⟩ = some (.int .i64 a0_0):=(bc_ X0.out 0).trans rfl;
       have x1:w6.cell? ⟨w4.heap.size,1,none⟩ = some (.int .i64 a0_1):=(bc_ X0.out 1).trans rfl;
       have x2:w6.cell? ⟨w4.heap.size,2,none⟩ = some (.slice (some ⟨g2,0,none⟩) l0_2.length cc2):=(bc_ X0.out 2).trans rfl;
       have x3:w6.cell? ⟨w4.heap.size,3,none⟩ = some (.slice (some ⟨g3,0,none⟩) l0_3.length cc3):=(bc_ X0.out 3).trans rfl;
       clear hb; clear _t tok5; have tok6:True:=trivial))
  go_region_held3 (fun w' => w'.cell? ⟨w.heap.size,0,none⟩ = some (.int .i64 a0_0) ∧ w'.cell? ⟨w.heap.size,1,none⟩ = some (.int .i64 a0_1) ∧ w'.cell? ⟨w.heap.size,2,none⟩ = some (.slice A0_2 l0_2.length c0_2) ∧ w'.cell? ⟨w.heap.size,3,none⟩ = some (.slice A0_3 l0_3.length c0_3) ∧ w'.cell? ⟨w4.heap.size,0,none⟩ = some (.int .i64 a0_0) ∧ w'.cell? ⟨w4.heap.size,1,none⟩ = some (.int .i64 a0_1) ∧ w'.cell? ⟨w4.heap.size,2,none⟩ = some (.slice (some ⟨g2,0,none⟩) l0_2.length cc2) ∧ w'.cell? ⟨w4.heap.size,3,none⟩ = some (.slice (some ⟨g3,0,none⟩) l0_3.length cc3))
    (first | (exact ⟨q0,q1,q2,q3,x0,x1,x2,x3⟩) | (go_split_ands; exact ⟨pw_cell_below hbB (by assumption),pw_cell_below hbB (by assumption),pw_cell_below hbB (by assumption),pw_cell_below hbB (by assumption),pw_cell_below hbB (by assumption),pw_cell_below hbB (by assumption),pw_cell_below hbB (by assumption),pw_cell_below hbB (by assumption)⟩) | (go_split_ands; exact ⟨pw_cell_below hbA (by assumption),pw_cell_below hbA (by assumption),pw_cell_below hbA (by assumption),pw_cell_below hbA (by assumption),pw_cell_below hbA (by assumption),pw_cell_below hbA (by assumption),pw_cell_below hbA (by assumption),pw_cell_below hbA (by assumption)⟩))
    ((first
      | (go_at_call 9; refine (laws_toFigure_full a0_0 a0_1 A0_2 c0_2 l0_2 A0_3 c0_3 l0_3 _ (Kd.C_below HR2.out (below_drew HB.out)) HC2.out (Kd.C_below HR3.out (below_drew HB.out)) HC3.out HL2.out HL3.out).mono ?_; rintro e wA ⟨y2,yc2,y3,yc3,rfl,hyA,hyB,hyne,hbA⟩)
      | (go_at_call 12; refine (laws_intactFigure_full a0_0 a0_1 g2 cc2 g3 cc3 y2 yc2 y3 yc3 l0_2 l0_3 _ (Kd.R_reads' (Kd.R_below (Kd.R_drew G2.out) hbA)).2.2 (Kd.R_reads' G2.out).2.1 (Kd.R_reads' (Kd.R_below (Kd.R_drew G3.out) hbA)).2.2 (Kd.R_reads' G3.out).2.1 (Kd.R_reads' hyA).2.2 (Kd.R_reads' hyA).2.1 (Kd.R_reads' hyB).2.2 (Kd.R_reads' hyB).2.1 HL2.out HL3.out).mono ?_; rintro e wB ⟨rfl,hbB⟩)))
  have n0_:=am_ (below_step (below_step (below_drew HB.out) hbA) hbB)
  have n1_:=am_ (blk_keep (blk_keep (blk_drew Q0.out) hbA) hbB)
  have n2_:=am_ (Kd.S_below (Kd.S_below (Kd.S_drew V4.out) hbA) hbB)
  have n3_:=am_ (Kd.R_below (Kd.R_below (Kd.R_drew G2.out) hbA) hbB)
  have n4_:=am_ (Kd.R_below (Kd.R_below (Kd.R_drew G3.out) hbA) hbB)
  have n5_:=am_ (blk_keep (blk_keep (blk_drew X0.out) hbA) hbB)
  have n6_:=am_ (Kd.S_below (Kd.S_below (Kd.S_drew V7.out) hbA) hbB)
  go_split_ands
  clear q0 q1 q2 q3 x0 x1 x2 x3 HB Q0 V4 G2 G3 X0 V7 hyA hyB hyne hbA hbB
  have HB:=n0_
  have Q0:=n1_
  have V4:=n2_
  have G2:=n3_
  have G3:=n4_
  have X0:=n5_
  have V7:=n6_
  clear n0_ n1_ n2_ n3_ n4_ n5_ n6_
  have q0:wB.cell? ⟨w.heap.size,0,none⟩ = some (.int .i64 a0_0):=(bc_ Q0.out 0).trans rfl
  have q1:wB.cell? ⟨w.heap.size,1,none⟩ = some (.int .i64 a0_1):=(bc_ Q0.out 1).trans rfl
  have q2:wB.cell? ⟨w.heap.size,2,none⟩ = some (.slice A0_2 l0_2.length c0_2):=(bc_ Q0.out 2).trans rfl
  have q3:wB.cell? ⟨w.heap.size,3,none⟩ = some (.slice A0_3 l0_3.length c0_3):=(bc_ Q0.out 3).trans rfl
  have x0:wB.cell? ⟨w4.heap.size,0,none⟩ = some (.int .i64 a0_0):=(bc_ X0.out 0).trans rfl
  have x1:wB.cell? ⟨w4.heap.size,1,none⟩ = some (.int .i64 a0_1):=(bc_ X0.out 1).trans rfl
  have x2:wB.cell? ⟨w4.heap.size,2,none⟩ = some (.slice (some ⟨g2,0,none⟩) l0_2.length cc2):=(bc_ X0.out 2).trans rfl
  have x3:wB.cell? ⟨w4.heap.size,3,none⟩ = some (.slice (some ⟨g3,0,none⟩) l0_3.length cc3):=(bc_ X0.out 3).trans rfl
  have P23:Aside0 (∀ k:Nat,k = g2 → ¬ k = g3):=⟨fun k h1 h2 => HG.out.2.2 (h1.symm.trans h2)⟩
  have P32:Aside0 (∀ k:Nat,k = g3 → ¬ k = g2):=⟨fun k h1 h2 => HG.out.2.2 (h2.symm.trans h1)⟩
  have T2:Aside0 (Kd.R (Kd.int .i64) 3 wB w.heap.size (fun k => k = g2) (.slice (some ⟨g2,0,none⟩) l0_2.length cc2) l0_2):=⟨by have h:=Kd.R_take G2.out (m:=l0_2.length) (by rw [fullOf_length]; omega); rw [fullOf_take] at h; exact h⟩
  have T3:Aside0 (Kd.R (Kd.int .i64) 3 wB w.heap.size (fun k => k = g3) (.slice (some ⟨g3,0,none⟩) l0_3.length cc3) l0_3):=⟨by have h:=Kd.R_take G3.out (m:=l0_3.length) (by rw [fullOf_length]; omega); rw [fullOf_take] at h; exact h⟩
  go_wp2_with (first
    | (go_at_call 13; have _t:=tok6; (with_reducible refine (laws_markFigure.calls K a0_0 a0_1 (fun k => k = g2) _ l0_2 (fun k => k = g3) _ l0_3 101 mk (marks l0_2.length 101) (marks l0_3.length (101 + (l0_2.length:Int))) w _ HB.out T2.out P23.out T3.out P32.out hM.out).mono ?_); rintro e w8 ⟨rfl,hm2,hm3,hbw,hk⟩; have n0_:=am_ (hbw);
       have n1_:=am_ (blk_kept2 Q0.out hk (fun h => by have a:=(Array.getElem?_eq_some_iff.1 Q0.out).1; have:=HG.out; have:=HW2.out; omega));
       have n2_:=am_ (Kd.S_kept V4.out hk (fun k hk_ h => by have:=HG.out; omega));
       have n3_:=am_ (blk_kept2 X0.out hk (fun h => by have:=HG.out; omega));
       have n4_:=am_ (Kd.S_kept V7.out hk (fun k hk_ h => by have:=HG.out; omega));
       clear q0 q1 q2 q3 x0 x1 x2 x3 HB Q0 V4 X0 V7;
       have HB:=n0_;
       have Q0:=n1_;
       have V4:=n2_;
       have X0:=n3_;
       have V7:=n4_;
       clear n0_ n1_ n2_ n3_ n4_;
       have q0:w8.cell? ⟨w.heap.size,0,none⟩ = some (.int .i64 a0_0):=(bc_ Q0.out 0).trans rfl;
       have q1:w8.cell? ⟨w.heap.size,1,none⟩ = some (.int .i64 a0_1):=(bc_ Q0.out 1).trans rfl;
       have q2:w8.cell? ⟨w.heap.size,2,none⟩ = some (.slice A0_2 l0_2.length c0_2):=(bc_ Q0.out 2).trans rfl;
       have q3:w8.cell? ⟨w.heap.size,3,none⟩ = some (.slice A0_3 l0_3.length c0_3):=(bc_ Q0.out 3).trans rfl;
       have x0:w8.cell? ⟨w4.heap.size,0,none⟩ = some (.int .i64 a0_0):=(bc_ X0.out 0).trans rfl;
       have x1:w8.cell? ⟨w4.heap.size,1,none⟩ = some (.int .i64 a0_1):=(bc_ X0.out 1).trans rfl;
       have x2:w8.cell? ⟨w4.heap.size,2,none⟩ = some (.slice (some ⟨g2,0,none⟩) l0_2.length cc2):=(bc_ X0.out 2).trans rfl;
       have x3:w8.cell? ⟨w4.heap.size,3,none⟩ = some (.slice (some ⟨g3,0,none⟩) l0_3.length cc3):=(bc_ X0.out 3).trans rfl;
       clear hm2 hm3 hbw hk T2 T3 G2 G3; clear _t tok6; have tok7:True:=trivial)
    | (go_at_call 19; have _t:=tok7; (with_reducible refine (laws_eqFigureS.calls K _ _ R1 _ _ R1 true _ (kF_C (Kd.S_reads' V7.out).2.2) (Kd.S_reads' V7.out).2.1 (kF_C (Kd.S_reads' V4.out).2.2) (Kd.S_reads' V4.out).2.1 hE.out).mono ?_); rintro e w9 ⟨rfl,hb⟩; have n0_:=am_ (below_step HB.out hb);
       have n1_:=am_ (blk_keep Q0.out hb);
       have n2_:=am_ (Kd.S_below V4.out hb);
       have n3_:=am_ (blk_keep X0.out hb);
       have n4_:=am_ (Kd.S_below V7.out hb);
       clear q0 q1 q2 q3 x0 x1 x2 x3 HB Q0 V4 X0 V7;
       have HB:=n0_;
       have Q0:=n1_;
       have V4:=n2_;
       have X0:=n3_;
       have V7:=n4_;
       clear n0_ n1_ n2_ n3_ n4_;
       have q0:w9.cell? ⟨w.heap.size,0,none⟩ = some (.int .i64 a0_0):=(bc_ Q0.out 0).trans rfl;
       have q1:w9.cell? ⟨w.heap.size,1,none⟩ = some (.int .i64 a0_1):=(bc_ Q0.out 1).trans rfl;
       have q2:w9.cell? ⟨w.heap.size,2,none⟩ = some (.slice A0_2 l0_2.length c0_2):=(bc_ Q0.out 2).trans rfl;
       have q3:w9.cell? ⟨w.heap.size,3,none⟩ = some (.slice A0_3 l0_3.length c0_3):=(bc_ Q0.out 3).trans rfl;
       have x0:w9.cell? ⟨w4.heap.size,0,none⟩ = some (.int .i64 a0_0):=(bc_ X0.out 0).trans rfl;
       have x1:w9.cell? ⟨w4.heap.size,1,none⟩ = some (.int .i64 a0_1):=(bc_ X0.out 1).trans rfl;
       have x2:w9.cell? ⟨w4.heap.size,2,none⟩ = some (.slice (some ⟨g2,0,none⟩) l0_2.length cc2):=(bc_ X0.out 2).trans rfl;
       have x3:w9.cell? ⟨w4.heap.size,3,none⟩ = some (.slice (some ⟨g3,0,none⟩) l0_3.length cc3):=(bc_ X0.out 3).trans rfl;
       clear hb; clear _t tok7; have tok8:True:=trivial)
    | (go_at_call 20; have _t:=tok8; (with_reducible refine (markFigureS_mm K hKK.out R1 mm HMM.out (fun k => w4.heap.size < k) _ w _ HB.out V7.out HRb.out HRc.out).mono ?_); rintro e w10 ⟨rfl,hm,hbw,hk⟩; have n0_:=am_ (hbw);
       have n1_:=am_ (blk_kept2 Q0.out hk (fun h => by have h_:w4.heap.size < w.heap.size:=h; have:=HG.out; have:=HW2.out; omega));
       have n2_:=am_ (Kd.S_kept V4.out hk (fun k hk_ h => by have h_:w4.heap.size < k:=h; have:=HG.out; omega));
       have n3_:=am_ (blk_kept2 X0.out hk (fun h => by have h_:w4.heap.size < w4.heap.size:=h; omega));
       clear q0 q1 q2 q3 x0 x1 x2 x3 HB Q0 V4 X0;
       have HB:=n0_;
       have Q0:=n1_;
       have V4:=n2_;
       have X0:=n3_;
       clear n0_ n1_ n2_ n3_;
       have V7n:=am_ hm;
       clear V7;
       have V7:=V7n;
       clear V7n;
       have q0:w10.cell? ⟨w.heap.size,0,none⟩ = some (.int .i64 a0_0):=(bc_ Q0.out 0).trans rfl;
       have q1:w10.cell? ⟨w.heap.size,1,none⟩ = some (.int .i64 a0_1):=(bc_ Q0.out 1).trans rfl;
       have q2:w10.cell? ⟨w.heap.size,2,none⟩ = some (.slice A0_2 l0_2.length c0_2):=(bc_ Q0.out 2).trans rfl;
       have q3:w10.cell? ⟨w.heap.size,3,none⟩ = some (.slice A0_3 l0_3.length c0_3):=(bc_ Q0.out 3).trans rfl;
       have x0:w10.cell? ⟨w4.heap.size,0,none⟩ = some (.int .i64 a0_0):=(bc_ X0.out 0).trans rfl;
       have x1:w10.cell? ⟨w4.heap.size,1,none⟩ = some (.int .i64 a0_1):=(bc_ X0.out 1).trans rfl;
       have x2:w10.cell? ⟨w4.heap.size,2,none⟩ = some (.slice (some ⟨g2,0,none⟩) l0_2.length cc2):=(bc_ X0.out 2).trans rfl;
       have x3:w10.cell? ⟨w4.heap.size,3,none⟩ = some (.slice (some ⟨g3,0,none⟩) l0_3.length cc3):=(bc_ X0.out 3).trans rfl;
       clear hm hbw hk; clear _t tok8; have tok9:True:=trivial)
    | (go_at_call 21; have _t:=tok9; (with_reducible refine (heldFigureS_marks K R1 mm A7 e7 _ _ _ V7.out hHC.out).mono ?_); rintro e w11 ⟨rfl,⟨nd,rfl⟩⟩; skip; clear _t tok9; have tok10:True:=trivial)
    | (go_at_call 9; have _t:=tok10; (with_reducible refine (laws_toFigure.calls K a0_0 a0_1 A0_2 c0_2 l0_2 A0_3 c0_3 l0_3 true a0_0 a0_1 l0_2 l0_3 _ (Kd.C_below HR2.out (pw_below_drewN HB.out _)) HC2.out (Kd.C_below HR3.out (pw_below_drewN HB.out _)) HC3.out hT1.out).mono ?_); rintro e w12 ⟨u2,u3,rfl,hu2,hu3,hb⟩; have n0_:=am_ (below_step (pw_below_drewN HB.out _) hb);
       have n1_:=am_ (blk_keep (blk_drewN Q0.out _) hb);
       have n2_:=am_ (Kd.S_below (Kd.S_drewN V4.out _) hb);
       have n3_:=am_ (blk_keep (blk_drewN X0.out _) hb);
       have n4_:=am_ (Kd.S_below (Kd.S_drewN V7.out _) hb);
       clear q0 q1 q2 q3 x0 x1 x2 x3 HB Q0 V4 X0 V7;
       have HB:=n0_;
       have Q0:=n1_;
       have V4:=n2_;
       have X0:=n3_;
       have V7:=n4_;
       clear n0_ n1_ n2_ n3_ n4_;
       have q0:w12.cell? ⟨w.heap.size,0,none⟩ = some (.int .i64 a0_0):=(bc_ Q0.out 0).trans rfl;
       have q1:w12.cell? ⟨w.heap.size,1,none⟩ = some (.int .i64 a0_1):=(bc_ Q0.out 1).trans rfl;
       have q2:w12.cell? ⟨w.heap.size,2,none⟩ = some (.slice A0_2 l0_2.length c0_2):=(bc_ Q0.out 2).trans rfl;
       have q3:w12.cell? ⟨w.heap.size,3,none⟩ = some (.slice A0_3 l0_3.length c0_3):=(bc_ Q0.out 3).trans rfl;
       have x0:w12.cell? ⟨w4.heap.size,0,none⟩ = some (.int .i64 a0_0):=(bc_ X0.out 0).trans rfl;
       have x1:w12.cell? ⟨w4.heap.size,1,none⟩ = some (.int .i64 a0_1):=(bc_ X0.out 1).trans rfl;
       have x2:w12.cell? ⟨w4.heap.size,2,none⟩ = some (.slice (some ⟨g2,0,none⟩) l0_2.length cc2):=(bc_ X0.out 2).trans rfl;
       have x3:w12.cell? ⟨w4.heap.size,3,none⟩ = some (.slice (some ⟨g3,0,none⟩) l0_3.length cc3):=(bc_ X0.out 3).trans rfl;
       obtain ⟨B2,d2,rfl⟩:=Kd.R_slice hu2;
       obtain ⟨B3,d3,rfl⟩:=Kd.R_slice hu3;
       have U2:=am_ (Kd.R_reads' hu2).2;
       have U3:=am_ (Kd.R_reads' hu3).2;
       clear hb hu2 hu3; clear _t tok10; have tok11:True:=trivial)
    | (go_at_call 18; have _t:=tok11; (with_reducible refine (HI.out B2 d2 B3 d3 _ U2.out.2 U2.out.1 U3.out.2 U3.out.1 (HGT.out _ HB.out)).mono ?_); rintro e w13 ⟨v12,rfl,ho,hb⟩; have n0_:=am_ (below_step HB.out hb);
       have n1_:=am_ (blk_keep Q0.out hb);
       have n2_:=am_ (Kd.S_below V4.out hb);
       have n3_:=am_ (blk_keep X0.out hb);
       have n4_:=am_ (Kd.S_below V7.out hb);
       clear q0 q1 q2 q3 x0 x1 x2 x3 HB Q0 V4 X0 V7;
       have HB:=n0_;
       have Q0:=n1_;
       have V4:=n2_;
       have X0:=n3_;
       have V7:=n4_;
       clear n0_ n1_ n2_ n3_ n4_;
       have q0:w13.cell? ⟨w.heap.size,0,none⟩ = some (.int .i64 a0_0):=(bc_ Q0.out 0).trans rfl;
       have q1:w13.cell? ⟨w.heap.size,1,none⟩ = some (.int .i64 a0_1):=(bc_ Q0.out 1).trans rfl;
       have q2:w13.cell? ⟨w.heap.size,2,none⟩ = some (.slice A0_2 l0_2.length c0_2):=(bc_ Q0.out 2).trans rfl;
       have q3:w13.cell? ⟨w.heap.size,3,none⟩ = some (.slice A0_3 l0_3.length c0_3):=(bc_ Q0.out 3).trans rfl;
       have x0:w13.cell? ⟨w4.heap.size,0,none⟩ = some (.int .i64 a0_0):=(bc_ X0.out 0).trans rfl;
       have x1:w13.cell? ⟨w4.heap.size,1,none⟩ = some (.int .i64 a0_1):=(bc_ X0.out 1).trans rfl;
       have x2:w13.cell? ⟨w4.heap.size,2,none⟩ = some (.slice (some ⟨g2,0,none⟩) l0_2.length cc2):=(bc_ X0.out 2).trans rfl;
       have x3:w13.cell? ⟨w4.heap.size,3,none⟩ = some (.slice (some ⟨g3,0,none⟩) l0_3.length cc3):=(bc_ X0.out 3).trans rfl;
       obtain ⟨A12,e12,rfl⟩:=Kd.S_slice ho;
       have V12:=am_ (Kd.S_reads' ho).2;
       clear hb ho U2 U3; clear _t tok11; have tok12:True:=trivial)
    | (go_at_call 19; have _t:=tok12; (with_reducible refine (laws_eqFigureS.calls K _ _ R1 _ _ R1 true _ (kF_C V12.out.2) V12.out.1 (kF_C (Kd.S_reads' V4.out).2.2) (Kd.S_reads' V4.out).2.1 hE.out).mono ?_); rintro e w14 ⟨rfl,hb⟩; have HBe:=am_ (below_step HB.out hb);
       have n0_:=am_ (below_step HB.out hb);
       have n1_:=am_ (blk_keep Q0.out hb);
       have n2_:=am_ (Kd.S_below V4.out hb);
       have n3_:=am_ (blk_keep X0.out hb);
       have n4_:=am_ (Kd.S_below V7.out hb);
       clear q0 q1 q2 q3 x0 x1 x2 x3 HB Q0 V4 X0 V7;
       have HB:=n0_;
       have Q0:=n1_;
       have V4:=n2_;
       have X0:=n3_;
       have V7:=n4_;
       clear n0_ n1_ n2_ n3_ n4_;
       clear V12 hb; clear _t tok12; have tok13:True:=trivial)
    | (go_at_call 21; have _t:=tok13; (with_reducible refine (heldFigureS_marks K R1 mm A7 e7 _ _ _ V7.out hHC.out).mono ?_); rintro e w15 ⟨rfl,⟨nd2,rfl⟩⟩; skip; clear _t tok13; have tok14:True:=trivial))
  go_ret
  exact ⟨by first | rfl | simp,pw_below_drewN HBe.out _⟩


def impl_grid_figure.f (a0_0:Int) (a0_1:Int) (a1:Int):Option (Int × Int × List Int × List Int):=(impl_grid_levels.f a0_0 a0_1).bind fun t295 => (if 0 ≤ t295 then ((impl_set_listed.f (Go.bits .and .u64 a1 (IntKind.u64.wrap ((shl .u64 1 t295) - 1)))).bind fun t296 => ((impl_grid_levels.f a0_0 a0_1).bind fun t299 => (if 0 ≤ t299 then ((impl_set_listed.f (shr .u64 a1 t299)).bind fun t300 => (some (a0_0,a0_1,t296,t300))) else (none)))) else (none))
def impl_grid_figure.T2:Bool × List (List Nat × List Nat):=(true,[([],[]),([0],[0]),([],[]),([2],[2]),([],[]),([],[]),([4,5],[4,5]),([6],[6]),([],[]),([],[]),([9,7],[9]),([8,10],[8,10]),([11,10],[11]),([1,3,7,12],[1,3,7,12]),([13,12,0,1,2,3,4,5,6,7,8,9,10,11,12,13],[13])])
def impl_grid_figure.B2:List Nat:=[0,1,0,4,0,0,48,112,0,0,752,2032,4080,8191,16383]
theorem impl_grid_figure.tab2:rtab .any (opsOf Tryz.f55 2) = impl_grid_figure.T2:=by kernel_rfl
theorem impl_grid_figure.bits2:waitsOk impl_grid_figure.T2.2 impl_grid_figure.B2 = true:=by kernel_rfl
set_option maxHeartbeats 8000000 in
set_option maxRecDepth 100000 in
theorem impl_grid_figure.calls (a0_0:Int) (a0_1:Int) (a1:Int) (r1:Int) (r2:Int) (r3:List Int) (r4:List Int) (w:World) (hT_:TB w) (h:impl_grid_figure.f a0_0 a0_1 a1 = some (r1,r2,r3,r4)) :
  Calls Tryz.prog 55 #[.agg #[.int .i64 a0_0,.int .i64 a0_1],.int .u64 a1] w fun e w' => ∃ v2_ v3_:Value,e = .returned (.agg #[.int .i64 r1,.int .i64 r2,v2_,v3_]) ∧ Kd.R (Kd.int .i64) 3 w' w.heap.size (fun k_ => some k_ ≠ (v3_:Value).ownBlock) v2_ r3 ∧ Kd.R (Kd.int .i64) 3 w' w.heap.size (fun k_ => some k_ ≠ (v2_:Value).ownBlock) v3_ r4 ∧ Below w.heap.size w w':=by
 have hu56:=Tryz.underlying56
 have hu26:=Tryz.underlying26
 have HB:=am_ (Below.refl w.heap.size w)
 have HTB:=am_ hT_
 clear hT_
 have H:((impl_grid_levels.f a0_0 a0_1).bind fun t295 => (if 0 ≤ t295 then ((impl_set_listed.f (Go.bits .and .u64 a1 (IntKind.u64.wrap ((shl .u64 1 t295) - 1)))).bind fun t296 => ((impl_grid_levels.f a0_0 a0_1).bind fun t299 => (if 0 ≤ t299 then ((impl_set_listed.f (shr .u64 a1 t299)).bind fun t300 => (some (a0_0,a0_1,t296,t300))) else (none)))) else (none))) = some (r1,r2,r3,r4):=h
 clear h
 replace H:=bi_ H
 obtain ⟨t295,A30,H⟩:=H
 replace H:(if 0 ≤ t295 then ((impl_set_listed.f (Go.bits .and .u64 a1 (IntKind.u64.wrap ((shl .u64 1 t295) - 1)))).bind fun t296 => ((impl_grid_levels.f a0_0 a0_1).bind fun t299 => (if 0 ≤ t299 then ((impl_set_listed.f (shr .u64 a1 t299)).bind fun t300 => (some (a0_0,a0_1,t296,t300))) else (none)))) else (none)) = some (r1,r2,r3,r4):=H
 have A3:=am_ A30
 clear A30
 by_cases c4:0 ≤ t295
 ·rw [if_pos c4] at H
  have c4b0:=eq_true c4
  have c4b1:decide (0 ≤ t295) = true:=decide_eq_true c4
  clear c4
  obtain ⟨ji5,hji5⟩:∃ j_:Int,(shl .u64 1 t295) = j_:=⟨_,rfl⟩
  replace H:((impl_set_listed.f (Go.bits .and .u64 a1 (IntKind.u64.wrap ((ji5) - 1)))).bind fun t296 => ((impl_grid_levels.f a0_0 a0_1).bind fun t299 => (if 0 ≤ t299 then ((impl_set_listed.f (shr .u64 a1 t299)).bind fun t300 => (some (a0_0,a0_1,t296,t300))) else (none)))) = some (r1,r2,r3,r4):=by first | (rw [hji5] at H; exact H) | (simp only [hji5] at H ⊢; exact H)
  (try rw [hji5] at A3)
  have hji5_:(IntKind.u64.wrap (1 * 2 ^ min t295.toNat 64)) = ji5:=hji5
  have hji5z:t295 ≤ 64 → (IntKind.u64.wrap (1 * 2 ^ t295.toNat)) = ji5:=shl_small hji5
  have hji5u:(IntKind.u64.wrap (2 ^ min t295.toNat 64)) = ji5:=by have h_:=hji5_; rw [Int.one_mul] at h_; exact h_
  have hji5v:t295 ≤ 64 → (IntKind.u64.wrap (2 ^ t295.toNat)) = ji5:=fun hle_ => by have h_:=hji5z hle_; rw [Int.one_mul] at h_; exact h_
  replace H:=bi_ H
  obtain ⟨t296,A60,H⟩:=H
  replace H:((impl_grid_levels.f a0_0 a0_1).bind fun t299 => (if 0 ≤ t299 then ((impl_set_listed.f (shr .u64 a1 t299)).bind fun t300 => (some (a0_0,a0_1,t296,t300))) else (none))) = some (r1,r2,r3,r4):=H
  have A6:=am_ A60
  clear A60
  replace H:=bi_ H
  obtain ⟨t299,A70,H⟩:=H
  replace H:(if 0 ≤ t299 then ((impl_set_listed.f (shr .u64 a1 t299)).bind fun t300 => (some (a0_0,a0_1,t296,t300))) else (none)) = some (r1,r2,r3,r4):=H
  have A7:=am_ A70
  clear A70
  by_cases c8:0 ≤ t299
  ·rw [if_pos c8] at H
   have c8b0:=eq_true c8
   have c8b1:decide (0 ≤ t299) = true:=decide_eq_true c8
   clear c8
   obtain ⟨ji9,hji9⟩:∃ j_:Int,(shr .u64 a1 t299) = j_:=⟨_,rfl⟩
   replace H:((impl_set_listed.f (ji9)).bind fun t300 => (some (a0_0,a0_1,t296,t300))) = some (r1,r2,r3,r4):=by first | (rw [hji9] at H; exact H) | (simp only [hji9] at H ⊢; exact H)
   (try rw [hji9] at A3)
   (try rw [hji9] at A6)
   (try rw [hji9] at A7)
   have hji9_:(a1 / 2 ^ min t299.toNat 64) = ji9:=hji9
   have hji9z:t299 ≤ 64 → (a1 / 2 ^ t299.toNat) = ji9:=shr_small hji9
   replace H:=bi_ H
   obtain ⟨t300,A100,H⟩:=H
   replace H:(some (a0_0,a0_1,t296,t300)) = some (r1,r2,r3,r4):=H
   have A10:=am_ A100
   clear A100
   simp only [Option.some.injEq,Prod.mk.injEq] at H
   obtain ⟨rfl,rfl,rfl,rfl⟩:=H
   go_enter Tryz.func55,Tryz.ntmps55
   try go_wp2_with (first | ((with_reducible refine gate_dst (N:=2) rfl ?_); refine boxE_ (N:=2) (cs:=#[.int .i64 a0_0,.int .i64 a0_1]) (t:=56) ?_; intro gb293 hg w11 hbox hb; have n0_:=am_ (below_step (bl0_ HB.out) hb); have n1_:=am_ (hbox); have n2_:=am_ ((bs0_ hg HB.out:w.heap.size ≤ gb293)); have n3_:=am_ ((bs0_ hg HB.out:w.heap.size ≤ gb293)); clear HB; have HB:=n0_; have BK293:=n1_; have GW293:=n2_; have GE293:=n3_; clear n0_ n1_ n2_ n3_; clear hb hbox hg) | ((with_reducible refine gate_dst (N:=4) rfl ?_); refine boxE_ (N:=4) (cs:=#[.int .i64 0,.int .i64 0,.slice none 0 0,.slice none 0 0]) (t:=26) ?_; intro gb294 hg w12 hbox hb; have n0_:=am_ (bb_ BK293.out hb); have n1_:=am_ (below_step (bl1_ HB.out GE293.out) hb); have n2_:=am_ (hbox); have n3_:=am_ ((bs1_ hg HB.out GE293.out:w.heap.size ≤ gb294)); have n4_:=am_ ((bs1_ hg HB.out GE293.out:w.heap.size ≤ gb294)); have n5_:=am_ ((nl_ hg BK293.out:gb293 ≠ gb294)); have n6_:=am_ ((ng_ hg BK293.out:gb294 ≠ gb293)); clear BK293; clear HB; have BK293:=n0_; have HB:=n1_; have BK294:=n2_; have GW294:=n3_; have GE294:=n4_; have NB293_294:=n5_; have NB294_293:=n6_; clear n0_ n1_ n2_ n3_ n4_ n5_ n6_; clear hb hbox hg; have hnb13:=NB293_294.out; have hnc13:=NB294_293.out; have hcz14_0:w12.cell? ⟨gb293,0,none⟩ = some (.int .i64 a0_0):=(bc_ BK293.out 0).trans rfl; have hcz14_1:w12.cell? ⟨gb293,1,none⟩ = some (.int .i64 a0_1):=(bc_ BK293.out 1).trans rfl; have hfz14_0:=bz_ BK293.out 0; have hfz14_1:=bz_ BK293.out 1) | ((with_reducible refine gate_callee (f:=72) rfl ?_); refine goesL_ (some 7) rfl rfl Tryz.func72 (by kernel_rfl) rfl #[.agg #[.int .i64 a0_0,.int .i64 a0_1]] rfl ob_ ?_; (with_reducible refine (impl_grid_levels.calls a0_0 a0_1 t295 _ A3.out).mono ?_); rintro e w15 ⟨rfl,hb⟩; refine ⟨_,rfl,?_⟩; have n0_:=am_ (bb_ BK293.out hb); have n1_:=am_ (bb_ BK294.out hb); have n2_:=am_ (below_step (bl2_ HB.out GE293.out GE294.out) hb); clear BK293; clear BK294; clear HB; have BK293:=n0_; have BK294:=n1_; have HB:=n2_; clear n0_ n1_ n2_; (try clear hb); (try clear hb2); (try clear hk); (try clear hi)))
   have n0_:=am_ (blk_drew BK293.out)
   have n1_:=am_ (blk_drew BK294.out)
   have n2_:=am_ (below_drew1 HB.out)
   clear BK293
   clear BK294
   clear HB
   have BK293:=n0_
   have BK294:=n1_
   have HB:=n2_
   clear n0_ n1_ n2_
   refine start_ (n:=15) (S:=fun w' => w'.cell? ⟨gb293,0,none⟩ = some (.int .i64 a0_0) ∧ w'.cell? ⟨gb293,1,none⟩ = some (.int .i64 a0_1)) (ds:=[]) #[false,false,false,false,false,false,false,false,false,false,false,false,false,false,false] (by kernel_rfl) rfl rfl ⟨(bc_ BK293.out 0).trans rfl,(bc_ BK293.out 1).trans rfl⟩ (fun hHeld => ?_); refine with_tabW impl_grid_figure.tab2 impl_grid_figure.bits2 (fun HT_ HW_ => ?_)
   generalize w15.drew = w16 at BK293 BK294 HB hHeld ⊢
   refine pure_ (i:=0) (N:=some 10) (v:=?_) (a':=?_) #[true,false,false,false,false,false,false,false,false,false,false,false,false,false,false] rfl rfl (any_of HT_.out (by kernel_rfl)) (fun _ _ _ h => h) (Or.inl ⟨by rfl,?_⟩) ?_ ?_
   rotate_left
   ·intro w'
    go_simp
    with_reducible rfl
   rotate_left
   ·simp only [Act.put,List.setIfInBounds_toArray,List.set_cons_zero,List.set_cons_succ,i64_w,i32_w]
    rfl
   refine pure_ (i:=2) (N:=some 12) (v:=?_) (a':=?_) #[true,false,true,false,false,false,false,false,false,false,false,false,false,false,false] rfl rfl (any_of HT_.out (by kernel_rfl)) (fun _ _ _ h => h) (Or.inl ⟨by rfl,?_⟩) ?_ ?_
   rotate_left
   ·intro w'
    go_simp
    with_reducible rfl
   rotate_left
   ·simp only [Act.put,List.setIfInBounds_toArray,List.set_cons_zero,List.set_cons_succ,i64_w,i32_w]
    rfl
   refine pure_ (i:=4) (N:=some 14) (v:=?_) (a':=?_) #[true,false,true,false,true,false,false,false,false,false,false,false,false,false,false] rfl rfl (any_of HT_.out (by kernel_rfl)) (fun _ _ _ h => h) (Or.inl ⟨by rfl,?_⟩) ?_ ?_
   rotate_left
   ·intro w'
    go_simp
    with_reducible rfl
   rotate_left
   ·simp only [Act.put,List.setIfInBounds_toArray,List.set_cons_zero,List.set_cons_succ,i64_w,i32_w]
    rfl
   refine pure_ (i:=5) (N:=some 15) (v:=?_) (a':=?_) #[true,false,true,false,true,true,false,false,false,false,false,false,false,false,false] rfl rfl (any_of HT_.out (by kernel_rfl)) (fun _ _ _ h => h) (Or.inl ⟨by rfl,?_⟩) ?_ ?_
   rotate_left
   ·intro w'
    go_simp
    with_reducible rfl
   rotate_left
   ·simp only [Act.put,List.setIfInBounds_toArray,List.set_cons_zero,List.set_cons_succ,i64_w,i32_w]
    rfl
   refine pure_ (i:=6) (N:=some 16) (v:=?_) (a':=?_) #[true,false,true,false,true,true,true,false,false,false,false,false,false,false,false] rfl rfl (any_of HT_.out (by kernel_rfl)) (fun _ _ _ h => h) (Or.inl ⟨by rfl,?_⟩) ?_ ?_
   rotate_left
   ·intro w'
    go_simp
    with_reducible rfl
   rotate_left
   ·simp only [Act.put,List.setIfInBounds_toArray,List.set_cons_zero,List.set_cons_succ,i64_w,i32_w]
    rfl
   refine pure_ (i:=8) (N:=some 18) (v:=?_) (a':=?_) #[true,false,true,false,true,true,true,false,true,false,false,false,false,false,false] rfl rfl (any_of HT_.out (by kernel_rfl)) (fun _ _ _ h => h) (Or.inl ⟨by rfl,?_⟩) ?_ ?_
   rotate_left
   ·intro w'
    go_simp
    with_reducible rfl
   rotate_left
   ·simp only [Act.put,List.setIfInBounds_toArray,List.set_cons_zero,List.set_cons_succ,i64_w,i32_w]
    rfl
   refine take_ (i:=1) (N:=some 11) (v:=?_) (a':=?_) #[true,true,true,false,true,true,true,false,true,false,false,false,false,false,false] rfl rfl (take_ofW HT_.out HW_.out (by kernel_rfl)) (fun _ _ _ h => h) (Or.inl ⟨by rfl,?_⟩) hHeld ?_ ?_
   rotate_left
   ·rintro w' ⟨s0,s1⟩
    go_simp
    with_reducible rfl
   rotate_left
   ·simp only [Act.put,List.setIfInBounds_toArray,List.set_cons_zero,List.set_cons_succ,i64_w,i32_w]
    rfl
   refine take_ (i:=3) (N:=some 13) (v:=?_) (a':=?_) #[true,true,true,true,true,true,true,false,true,false,false,false,false,false,false] rfl rfl (take_ofW HT_.out HW_.out (by kernel_rfl)) (fun _ _ _ h => h) (Or.inl ⟨by rfl,?_⟩) hHeld ?_ ?_
   rotate_left
   ·rintro w' ⟨s0,s1⟩
    go_simp
    with_reducible rfl
   rotate_left
   ·simp only [Act.put,List.setIfInBounds_toArray,List.set_cons_zero,List.set_cons_succ,i64_w,i32_w]
    rfl
   refine take_ (i:=9) (N:=some 19) (v:=?_) (a':=?_) #[true,true,true,true,true,true,true,false,true,true,false,false,false,false,false] rfl rfl (take_ofW HT_.out HW_.out (by kernel_rfl)) (fun _ _ _ h => h) (Or.inl ⟨by rfl,?_⟩) hHeld ?_ ?_
   rotate_left
   ·rintro w' ⟨s0,s1⟩
    go_simp
    with_reducible rfl
   rotate_left
   ·simp only [Act.put,List.setIfInBounds_toArray,List.set_cons_zero,List.set_cons_succ,i64_w,i32_w]
    rfl
   refine one_ (i:=7) (N:=some 17) #[true,true,true,true,true,true,true,true,true,true,false,false,false,false,false] rfl rfl (one_of HT_.out (by kernel_rfl)) (by decide) (fun K hK => ?_)
   refine goes_ Tryz.func73 (by kernel_rfl) rfl #[.int .u64 (Go.bits .and .u64 a1 (IntKind.u64.wrap ((ji5) - 1)))] (by rfl) rfl rfl (by (try simp only [List.map_toArray,List.map_cons,List.map_nil]); first | done | (simp only [hji5]; rfl) | rfl | (simp only [List.length_drop,List.length_take]; rfl)) ?_
   with_reducible refine (impl_set_listed.calls (Go.bits .and .u64 a1 (IntKind.u64.wrap ((ji5) - 1))) t296 _ (TB.below HTB.out (bl2_ HB.out GE293.out GE294.out)) A6.out).mono ?_
   rintro e w17 ⟨v297,rfl,ho0,hb⟩
   refine ⟨_,rfl,?_⟩
   have n0_:=am_ (Kd.R_lower ho0 (below_size (bl2_ HB.out GE293.out GE294.out)))
   have n1_:=am_ (bb_ BK293.out hb)
   have n2_:=am_ (bb_ BK294.out hb)
   have n3_:=am_ (below_step (bl2_ HB.out GE293.out GE294.out) hb)
   clear BK293
   clear BK294
   clear HB
   have HO298:=n0_
   have BK293:=n1_
   have BK294:=n2_
   have HB:=n3_
   clear n0_ n1_ n2_ n3_
   (try clear hb)
   (try clear hb2)
   (try clear hk)
   (try clear hi)
   (try clear ho0)
   refine hK.out _ _ ⟨(bc_ BK293.out 0).trans rfl,(bc_ BK293.out 1).trans rfl⟩ (fun hHeld => ?_)
   clear hK K
   refine norm_ (a':=?_) ?_ ?_
   rotate_left
   ·show Act.put _ (some 17) _ = _
    simp only [Act.put,List.setIfInBounds_toArray,List.set_cons_zero,List.set_cons_succ,i64_w,i32_w]
    rfl
   refine one_ (i:=10) (N:=some 20) #[true,true,true,true,true,true,true,true,true,true,true,false,false,false,false] rfl rfl (one_of HT_.out (by kernel_rfl)) (by decide) (fun K hK => ?_)
   refine goes_ Tryz.func72 (by kernel_rfl) rfl #[.agg #[.int .i64 a0_0,.int .i64 a0_1]] (by rfl) rfl rfl ob_ ?_
   with_reducible refine (impl_grid_levels.calls a0_0 a0_1 t299 _ A7.out).mono ?_
   rintro e w18 ⟨rfl,hb⟩
   refine ⟨_,rfl,?_⟩
   have n0_:=am_ (Kd.R_below (kr_ HO298.out) hb)
   have n1_:=am_ (bb_ BK293.out hb)
   have n2_:=am_ (bb_ BK294.out hb)
   have n3_:=am_ (below_step (bl2_ HB.out GE293.out GE294.out) hb)
   clear HO298
   clear BK293
   clear BK294
   clear HB
   have HO298:=n0_
   have BK293:=n1_
   have BK294:=n2_
   have HB:=n3_
   clear n0_ n1_ n2_ n3_
   (try clear hb)
   (try clear hb2)
   (try clear hk)
   (try clear hi)
   refine hK.out _ _ ⟨(bc_ BK293.out 0).trans rfl,(bc_ BK293.out 1).trans rfl⟩ (fun hHeld => ?_)
   clear hK K
   refine norm_ (a':=?_) ?_ ?_
   rotate_left
   ·show Act.put _ (some 20) _ = _
    simp only [Act.put,List.setIfInBounds_toArray,List.set_cons_zero,List.set_cons_succ,i64_w,i32_w]
    rfl
   refine pure_ (i:=11) (N:=some 21) (v:=?_) (a':=?_) #[true,true,true,true,true,true,true,true,true,true,true,true,false,false,false] rfl rfl (any_of HT_.out (by kernel_rfl)) (fun _ _ _ h => h) (Or.inl ⟨by rfl,?_⟩) ?_ ?_
   rotate_left
   ·intro w'
    go_simp
    with_reducible rfl
   rotate_left
   ·simp only [Act.put,List.setIfInBounds_toArray,List.set_cons_zero,List.set_cons_succ,i64_w,i32_w]
    rfl
   refine one_ (i:=12) (N:=some 22) #[true,true,true,true,true,true,true,true,true,true,true,true,true,false,false] rfl rfl (one_of HT_.out (by kernel_rfl)) (by decide) (fun K hK => ?_)
   refine goes_ Tryz.func73 (by kernel_rfl) rfl #[.int .u64 ji9] (by rfl) rfl rfl (by (try simp only [List.map_toArray,List.map_cons,List.map_nil]); first | done | (simp only [hji9]; rfl) | rfl | (simp only [List.length_drop,List.length_take]; rfl)) ?_
   with_reducible refine (impl_set_listed.calls ji9 t300 _ (TB.below HTB.out (bl2_ HB.out GE293.out GE294.out)) A10.out).mono ?_
   rintro e w19 ⟨v301,rfl,ho0,hb⟩
   refine ⟨_,rfl,?_⟩
   have n0_:=am_ (Kd.R_elder' (kr_ HO298.out) (Kd.R_base ho0) hb)
   have n1_:=am_ (Kd.R_lower (Kd.R_new' ho0 (Kd.R_lt (kr_ HO298.out))) (below_size (bl2_ HB.out GE293.out GE294.out)))
   have n2_:=am_ (bb_ BK293.out hb)
   have n3_:=am_ (bb_ BK294.out hb)
   have n4_:=am_ (below_step (bl2_ HB.out GE293.out GE294.out) hb)
   clear HO298
   clear BK293
   clear BK294
   clear HB
   have HO298:=n0_
   have HO302:=n1_
   have BK293:=n2_
   have BK294:=n3_
   have HB:=n4_
   clear n0_ n1_ n2_ n3_ n4_
   (try clear hb)
   (try clear hb2)
   (try clear hk)
   (try clear hi)
   (try clear ho0)
   obtain ⟨Ao20,co20,eo20⟩:=Kd.R_slice HO302.out
   (first | subst eo20 | (injection eo20 with f1_ f2_ f3_; have f4_:=f1_.symm; have f5_:=f3_.symm; clear f1_ f2_ f3_; subst f4_; subst f5_))
   obtain ⟨Ao21,co21,eo21⟩:=Kd.R_slice HO298.out
   (first | subst eo21 | (injection eo21 with f1_ f2_ f3_; have f4_:=f1_.symm; have f5_:=f3_.symm; clear f1_ f2_ f3_; subst f4_; subst f5_))
   refine hK.out _ _ ⟨(bc_ BK293.out 0).trans rfl,(bc_ BK293.out 1).trans rfl⟩ (fun hHeld => ?_)
   clear hK K
   refine norm_ (a':=?_) ?_ ?_
   rotate_left
   ·show Act.put _ (some 22) _ = _
    simp only [Act.put,List.setIfInBounds_toArray,List.set_cons_zero,List.set_cons_succ,i64_w,i32_w]
    rfl
   refine pure_ (i:=13) (N:=some 23) (v:=?_) (a':=?_) #[true,true,true,true,true,true,true,true,true,true,true,true,true,true,false] rfl rfl (any_of HT_.out (by kernel_rfl)) (fun _ _ _ h => h) (Or.inl ⟨by rfl,?_⟩) ?_ ?_
   rotate_left
   ·intro w'
    go_simp
    with_reducible rfl
   rotate_left
   ·simp only [Act.put,List.setIfInBounds_toArray,List.set_cons_zero,List.set_cons_succ,i64_w,i32_w]
    rfl
   refine one_ (i:=14) (N:=none) #[true,true,true,true,true,true,true,true,true,true,true,true,true,true,true] rfl rfl (one_of HT_.out (by kernel_rfl)) (by decide) (fun K hK => ?_)
   have hs22:w19.cell? ⟨gb294,0,none⟩ = some (.int .i64 0):=(bc_ BK294.out 0).trans rfl
   have hfs22:=bz_ BK294.out 0
   have hns22_0:=NB293_294.out
   have hms22_0:=NB294_293.out
   have hs23:w19.cell? ⟨gb294,1,none⟩ = some (.int .i64 0):=(bc_ BK294.out 1).trans rfl
   have hfs23:=bz_ BK294.out 1
   have hns23_0:=NB293_294.out
   have hms23_0:=NB294_293.out
   have hs24:w19.cell? ⟨gb294,2,none⟩ = some (.slice none 0 0):=(bc_ BK294.out 2).trans rfl
   have hfs24:=bz_ BK294.out 2
   have hns24_0:=NB293_294.out
   have hms24_0:=NB294_293.out
   have hs25:w19.cell? ⟨gb294,3,none⟩ = some (.slice none 0 0):=(bc_ BK294.out 3).trans rfl
   have hfs25:=bz_ BK294.out 3
   have hns25_0:=NB293_294.out
   have hms25_0:=NB294_293.out
   refine skip_ (w1:=?_) (by rfl) rfl ?_ ?_
   rotate_left
   ·go_simp
    rfl
   refine hK.out _ _ ⟨((cell_far (p:=⟨gb294,_,none⟩) NB293_294.out _).trans (((cell_far (p:=⟨gb294,_,none⟩) NB293_294.out _).trans (((cell_far (p:=⟨gb294,_,none⟩) NB293_294.out _).trans (((cell_far (p:=⟨gb294,_,none⟩) NB293_294.out _).trans (hHeld.1)))))))),((cell_far (p:=⟨gb294,_,none⟩) NB293_294.out _).trans (((cell_far (p:=⟨gb294,_,none⟩) NB293_294.out _).trans (((cell_far (p:=⟨gb294,_,none⟩) NB293_294.out _).trans (((cell_far (p:=⟨gb294,_,none⟩) NB293_294.out _).trans (hHeld.2))))))))⟩ (fun hHeld => ?_)
   clear hK K
   refine done_ (done_of HT_.out (by kernel_rfl)) ?_
   try go_wp2
   refine bodyPost_ret (results_cell_row rfl _ _ gb294 26 #[.int .i64 a0_0,.int .i64 a0_1,.slice Ao21 t296.length co21,.slice Ao20 t300.length co20] (0,0) _ rfl (by (with_reducible repeat (first | refine blk_drewN ?_ _ | refine blk_drew ?_ | refine blk_alloc ?_ _)); refine blk_put (cs:=#[.int .i64 a0_0,.int .i64 a0_1,.slice Ao21 t296.length co21,.slice none 0 0]) ?_ 3 _ rfl; (with_reducible repeat (first | refine blk_drewN ?_ _ | refine blk_drew ?_ | refine blk_alloc ?_ _)); refine blk_put (cs:=#[.int .i64 a0_0,.int .i64 a0_1,.slice none 0 0,.slice none 0 0]) ?_ 2 _ rfl; (with_reducible repeat (first | refine blk_drewN ?_ _ | refine blk_drew ?_ | refine blk_alloc ?_ _)); refine blk_put (cs:=#[.int .i64 a0_0,.int .i64 0,.slice none 0 0,.slice none 0 0]) ?_ 1 _ rfl; (with_reducible repeat (first | refine blk_drewN ?_ _ | refine blk_drew ?_ | refine blk_alloc ?_ _)); refine blk_put (cs:=#[.int .i64 0,.int .i64 0,.slice none 0 0,.slice none 0 0]) ?_ 0 _ rfl; (with_reducible repeat (first | refine blk_drewN ?_ _ | refine blk_drew ?_ | refine blk_alloc ?_ _)); exact BK294.out) Tryz.underlying26 rfl (by kernel_rfl)) rfl ?_
   exact ⟨_,_,by first | rfl | (simp [errW_none,errW_some] <;> rfl) | (simp only [← hji5,← hji9]; first | rfl | (simp [errW_none,errW_some] <;> rfl)) | (simp [*,errW_none,errW_some] <;> rfl),by (with_reducible repeat (first | apply Kd.R_alloc | apply Kd.R_drewN | apply Kd.R_drew)); exact Kd.R_mono (Kd.R_far (p:=⟨gb294,3,none⟩) (Kd.R_far (p:=⟨gb294,2,none⟩) (Kd.R_far (p:=⟨gb294,1,none⟩) (Kd.R_far (p:=⟨gb294,0,none⟩) (Kd.R_types HO298.out BK294.out (by decide)) (fun _ hk => hk.2) (.int .i64 a0_0)) (fun _ hk => hk.2) (.int .i64 a0_1)) (fun _ hk => hk.2) (.slice Ao21 t296.length co21)) (fun _ hk => hk.2) (.slice Ao20 t300.length co20)) (fun _ hk => hk.1.2),by (with_reducible repeat (first | apply Kd.R_alloc | apply Kd.R_drewN | apply Kd.R_drew)); exact Kd.R_mono (Kd.R_far (p:=⟨gb294,3,none⟩) (Kd.R_far (p:=⟨gb294,2,none⟩) (Kd.R_far (p:=⟨gb294,1,none⟩) (Kd.R_far (p:=⟨gb294,0,none⟩) (Kd.R_types HO302.out BK294.out (by decide)) (fun _ hk => hk.2) (.int .i64 a0_0)) (fun _ hk => hk.2) (.int .i64 a0_1)) (fun _ hk => hk.2) (.slice Ao21 t296.length co21)) (fun _ hk => hk.2) (.slice Ao20 t300.length co20)) (fun _ hk => hk.1.2),bl2_ HB.out GE293.out GE294.out⟩
  ·rw [if_neg c8] at H
   exact absurd H (by simp)
 ·rw [if_neg c4] at H
  exact absurd H (by simp)


def spec_fiEdge.f (a0_0:Int) (a0_1:Int) (l0_2:List Int) (l0_3:List Int) (a1:Bool) (a2:Int) (a3:Int):Option (Int × Bool):=if a1 = true then ((spec_l1In.f a2 0 a0_0).bind fun t170 => (if t170 = true then ((spec_l1In.f a3 0 (wrap64 (a0_1 - 1))).bind fun t171 => (some (wrap64 ((wrap64 (a3 * (wrap64 (a0_0 + 1)))) + a2),t171))) else (some (wrap64 ((wrap64 (a3 * (wrap64 (a0_0 + 1)))) + a2),false)))) else ((spec_l1In.f a2 0 (wrap64 (a0_0 - 1))).bind fun t172 => (if t172 = true then ((spec_l1In.f a3 0 a0_1).bind fun t173 => (some (wrap64 ((wrap64 (a3 * a0_0)) + a2),t173))) else (some (wrap64 ((wrap64 (a3 * a0_0)) + a2),false))))
set_option maxHeartbeats 8000000 in
set_option maxRecDepth 100000 in
theorem spec_fiEdge.calls (a0_0:Int) (a0_1:Int) (A0_2:Option Addr) (c0_2:Nat) (l0_2:List Int) (A0_3:Option Addr) (c0_3:Nat) (l0_3:List Int) (a1:Bool) (a2:Int) (a3:Int) (r1:Int) (r2:Bool) (w:World) (hr0_2:Kd.C (Kd.int .i64) w A0_2 l0_2.length l0_2) (hc0_2:l0_2.length ≤ c0_2) (hr0_3:Kd.C (Kd.int .i64) w A0_3 l0_3.length l0_3) (hc0_3:l0_3.length ≤ c0_3) (h:spec_fiEdge.f a0_0 a0_1 l0_2 l0_3 a1 a2 a3 = some (r1,r2)) :
  Calls Tryz.prog 68 #[.agg #[.int .i64 a0_0,.int .i64 a0_1,.slice A0_2 l0_2.length c0_2,.slice A0_3 l0_3.length c0_3],.bool a1,.int .i64 a2,.int .i64 a3] w fun e w' => e = .returned (.tuple #[.int .i64 r1,.bool r2]) ∧ Below w.heap.size w w':=by
 have hu26:=Tryz.underlying26
 have HR0_2:=am_ hr0_2
 have HC0_2:=am_ hc0_2
 clear hr0_2 hc0_2
 have HR0_3:=am_ hr0_3
 have HC0_3:=am_ hc0_3
 clear hr0_3 hc0_3
 have HB:=am_ (Below.refl w.heap.size w)
 have H:(if a1 = true then ((spec_l1In.f a2 0 a0_0).bind fun t170 => (if t170 = true then ((spec_l1In.f a3 0 (wrap64 (a0_1 - 1))).bind fun t171 => (some (wrap64 ((wrap64 (a3 * (wrap64 (a0_0 + 1)))) + a2),t171))) else (some (wrap64 ((wrap64 (a3 * (wrap64 (a0_0 + 1)))) + a2),false)))) else ((spec_l1In.f a2 0 (wrap64 (a0_0 - 1))).bind fun t172 => (if t172 = true then ((spec_l1In.f a3 0 a0_1).bind fun t173 => (some (wrap64 ((wrap64 (a3 * a0_0)) + a2),t173))) else (some (wrap64 ((wrap64 (a3 * a0_0)) + a2),false))))) = some (r1,r2):=h
 clear h
 by_cases c5:a1 = true
 ·subst c5
  have H1:((spec_l1In.f a2 0 a0_0).bind fun t170 => (if t170 = true then ((spec_l1In.f a3 0 (wrap64 (a0_1 - 1))).bind fun t171 => (some (wrap64 ((wrap64 (a3 * (wrap64 (a0_0 + 1)))) + a2),t171))) else (some (wrap64 ((wrap64 (a3 * (wrap64 (a0_0 + 1)))) + a2),false)))) = some (r1,r2):=by rw [if_pos rfl] at H; exact H
  clear H
  have H:=H1
  clear H1
  replace H:=bi_ H
  obtain ⟨t170,A60,H⟩:=H
  replace H:(if t170 = true then ((spec_l1In.f a3 0 (wrap64 (a0_1 - 1))).bind fun t171 => (some (wrap64 ((wrap64 (a3 * (wrap64 (a0_0 + 1)))) + a2),t171))) else (some (wrap64 ((wrap64 (a3 * (wrap64 (a0_0 + 1)))) + a2),false))) = some (r1,r2):=H
  have A6:=am_ A60
  clear A60
  by_cases c7:t170 = true
  ·subst c7
   have H1:((spec_l1In.f a3 0 (wrap64 (a0_1 - 1))).bind fun t171 => (some (wrap64 ((wrap64 (a3 * (wrap64 (a0_0 + 1)))) + a2),t171))) = some (r1,r2):=by rw [if_pos rfl] at H; exact H
   clear H
   have H:=H1
   clear H1
   replace H:=bi_ H
   obtain ⟨t171,A80,H⟩:=H
   replace H:(some (wrap64 ((wrap64 (a3 * (wrap64 (a0_0 + 1)))) + a2),t171)) = some (r1,r2):=H
   have A8:=am_ A80
   clear A80
   simp only [Option.some.injEq,Prod.mk.injEq] at H
   obtain ⟨rfl,rfl⟩:=H
   go_enter Tryz.func68,Tryz.ntmps68
   go_wp2_with (first | ((with_reducible refine gate_dst (N:=4) rfl ?_); refine boxE_ (N:=4) (cs:=#[.int .i64 a0_0,.int .i64 a0_1,.slice A0_2 l0_2.length c0_2,.slice A0_3 l0_3.length c0_3]) (t:=26) ?_; intro gb169 hg w9 hbox hb; have n0_:=am_ (below_step (bl0_ HB.out) hb); have n1_:=am_ (hbox); have n2_:=am_ ((bs0_ hg HB.out:w.heap.size ≤ gb169)); have n3_:=am_ ((bs0_ hg HB.out:w.heap.size ≤ gb169)); clear HB; have HB:=n0_; have BK169:=n1_; have GW169:=n2_; have GE169:=n3_; clear n0_ n1_ n2_ n3_; clear hb hbox hg; have hcz10_0:w9.cell? ⟨gb169,0,none⟩ = some (.int .i64 a0_0):=(bc_ BK169.out 0).trans rfl; have hcz10_1:w9.cell? ⟨gb169,1,none⟩ = some (.int .i64 a0_1):=(bc_ BK169.out 1).trans rfl; have hcz10_2:w9.cell? ⟨gb169,2,none⟩ = some (.slice A0_2 l0_2.length c0_2):=(bc_ BK169.out 2).trans rfl; have hcz10_3:w9.cell? ⟨gb169,3,none⟩ = some (.slice A0_3 l0_3.length c0_3):=(bc_ BK169.out 3).trans rfl; have hfz10_0:=bz_ BK169.out 0; have hfz10_1:=bz_ BK169.out 1; have hfz10_2:=bz_ BK169.out 2; have hfz10_3:=bz_ BK169.out 3) | (go_at_call 46; (with_reducible refine (spec_l1In.calls a2 0 a0_0 true _ A6.out).mono ?_); rintro e w' ⟨rfl,⟨nd,rfl⟩⟩; (try first | exact ⟨rfl,_,World.drewN_drewN _ _ _⟩ | exact ⟨rfl,_,Eq.trans (World.drewN_drewN _ _ _) (congrArg (World.drewN _) (Nat.add_assoc _ _ _))⟩)) | (go_at_call 46; (with_reducible refine (spec_l1In.calls a3 0 (wrap64 (a0_1 - 1)) t171 _ A8.out).mono ?_); rintro e w' ⟨rfl,⟨nd,rfl⟩⟩; (try first | exact ⟨rfl,_,World.drewN_drewN _ _ _⟩ | exact ⟨rfl,_,Eq.trans (World.drewN_drewN _ _ _) (congrArg (World.drewN _) (Nat.add_assoc _ _ _))⟩)))
   repeat (go_quiet (first | ((with_reducible refine gate_dst (N:=4) rfl ?_); refine boxE_ (N:=4) (cs:=#[.int .i64 a0_0,.int .i64 a0_1,.slice A0_2 l0_2.length c0_2,.slice A0_3 l0_3.length c0_3]) (t:=26) ?_; intro gb169 hg w9 hbox hb; have n0_:=am_ (below_step (bl0_ HB.out) hb); have n1_:=am_ (hbox); have n2_:=am_ ((bs0_ hg HB.out:w.heap.size ≤ gb169)); have n3_:=am_ ((bs0_ hg HB.out:w.heap.size ≤ gb169)); clear HB; have HB:=n0_; have BK169:=n1_; have GW169:=n2_; have GE169:=n3_; clear n0_ n1_ n2_ n3_; clear hb hbox hg; have hcz10_0:w9.cell? ⟨gb169,0,none⟩ = some (.int .i64 a0_0):=(bc_ BK169.out 0).trans rfl; have hcz10_1:w9.cell? ⟨gb169,1,none⟩ = some (.int .i64 a0_1):=(bc_ BK169.out 1).trans rfl; have hcz10_2:w9.cell? ⟨gb169,2,none⟩ = some (.slice A0_2 l0_2.length c0_2):=(bc_ BK169.out 2).trans rfl; have hcz10_3:w9.cell? ⟨gb169,3,none⟩ = some (.slice A0_3 l0_3.length c0_3):=(bc_ BK169.out 3).trans rfl; have hfz10_0:=bz_ BK169.out 0; have hfz10_1:=bz_ BK169.out 1; have hfz10_2:=bz_ BK169.out 2; have hfz10_3:=bz_ BK169.out 3) | (go_at_call 46; (with_reducible refine (spec_l1In.calls a2 0 a0_0 true _ A6.out).mono ?_); rintro e w' ⟨rfl,⟨nd,rfl⟩⟩; (try first | exact ⟨rfl,_,World.drewN_drewN _ _ _⟩ | exact ⟨rfl,_,Eq.trans (World.drewN_drewN _ _ _) (congrArg (World.drewN _) (Nat.add_assoc _ _ _))⟩)) | (go_at_call 46; (with_reducible refine (spec_l1In.calls a3 0 (wrap64 (a0_1 - 1)) t171 _ A8.out).mono ?_); rintro e w' ⟨rfl,⟨nd,rfl⟩⟩; (try first | exact ⟨rfl,_,World.drewN_drewN _ _ _⟩ | exact ⟨rfl,_,Eq.trans (World.drewN_drewN _ _ _) (congrArg (World.drewN _) (Nat.add_assoc _ _ _))⟩))); try go_wp2_with (first | ((with_reducible refine gate_dst (N:=4) rfl ?_); refine boxE_ (N:=4) (cs:=#[.int .i64 a0_0,.int .i64 a0_1,.slice A0_2 l0_2.length c0_2,.slice A0_3 l0_3.length c0_3]) (t:=26) ?_; intro gb169 hg w9 hbox hb; have n0_:=am_ (below_step (bl0_ HB.out) hb); have n1_:=am_ (hbox); have n2_:=am_ ((bs0_ hg HB.out:w.heap.size ≤ gb169)); have n3_:=am_ ((bs0_ hg HB.out:w.heap.size ≤ gb169)); clear HB; have HB:=n0_; have BK169:=n1_; have GW169:=n2_; have GE169:=n3_; clear n0_ n1_ n2_ n3_; clear hb hbox hg; have hcz10_0:w9.cell? ⟨gb169,0,none⟩ = some (.int .i64 a0_0):=(bc_ BK169.out 0).trans rfl; have hcz10_1:w9.cell? ⟨gb169,1,none⟩ = some (.int .i64 a0_1):=(bc_ BK169.out 1).trans rfl; have hcz10_2:w9.cell? ⟨gb169,2,none⟩ = some (.slice A0_2 l0_2.length c0_2):=(bc_ BK169.out 2).trans rfl; have hcz10_3:w9.cell? ⟨gb169,3,none⟩ = some (.slice A0_3 l0_3.length c0_3):=(bc_ BK169.out 3).trans rfl; have hfz10_0:=bz_ BK169.out 0; have hfz10_1:=bz_ BK169.out 1; have hfz10_2:=bz_ BK169.out 2; have hfz10_3:=bz_ BK169.out 3) | (go_at_call 46; (with_reducible refine (spec_l1In.calls a2 0 a0_0 true _ A6.out).mono ?_); rintro e w' ⟨rfl,⟨nd,rfl⟩⟩; (try first | exact ⟨rfl,_,World.drewN_drewN _ _ _⟩ | exact ⟨rfl,_,Eq.trans (World.drewN_drewN _ _ _) (congrArg (World.drewN _) (Nat.add_assoc _ _ _))⟩)) | (go_at_call 46; (with_reducible refine (spec_l1In.calls a3 0 (wrap64 (a0_1 - 1)) t171 _ A8.out).mono ?_); rintro e w' ⟨rfl,⟨nd,rfl⟩⟩; (try first | exact ⟨rfl,_,World.drewN_drewN _ _ _⟩ | exact ⟨rfl,_,Eq.trans (World.drewN_drewN _ _ _) (congrArg (World.drewN _) (Nat.add_assoc _ _ _))⟩))))
   go_ret2
   exact ⟨er_,bl1_ HB.out GE169.out⟩
  ·replace c7:=Bool.eq_false_iff.mpr c7
   subst c7
   have H1:(some (wrap64 ((wrap64 (a3 * (wrap64 (a0_0 + 1)))) + a2),false)) = some (r1,r2):=by rw [if_neg (show ¬ (false = true) by decide)] at H; exact H
   clear H
   have H:=H1
   clear H1
   simp only [Option.some.injEq,Prod.mk.injEq] at H
   obtain ⟨rfl,rfl⟩:=H
   go_enter Tryz.func68,Tryz.ntmps68
   go_wp2_with (first | ((with_reducible refine gate_dst (N:=4) rfl ?_); refine boxE_ (N:=4) (cs:=#[.int .i64 a0_0,.int .i64 a0_1,.slice A0_2 l0_2.length c0_2,.slice A0_3 l0_3.length c0_3]) (t:=26) ?_; intro gb169 hg w11 hbox hb; have n0_:=am_ (below_step (bl0_ HB.out) hb); have n1_:=am_ (hbox); have n2_:=am_ ((bs0_ hg HB.out:w.heap.size ≤ gb169)); have n3_:=am_ ((bs0_ hg HB.out:w.heap.size ≤ gb169)); clear HB; have HB:=n0_; have BK169:=n1_; have GW169:=n2_; have GE169:=n3_; clear n0_ n1_ n2_ n3_; clear hb hbox hg; have hcz12_0:w11.cell? ⟨gb169,0,none⟩ = some (.int .i64 a0_0):=(bc_ BK169.out 0).trans rfl; have hcz12_1:w11.cell? ⟨gb169,1,none⟩ = some (.int .i64 a0_1):=(bc_ BK169.out 1).trans rfl; have hcz12_2:w11.cell? ⟨gb169,2,none⟩ = some (.slice A0_2 l0_2.length c0_2):=(bc_ BK169.out 2).trans rfl; have hcz12_3:w11.cell? ⟨gb169,3,none⟩ = some (.slice A0_3 l0_3.length c0_3):=(bc_ BK169.out 3).trans rfl; have hfz12_0:=bz_ BK169.out 0; have hfz12_1:=bz_ BK169.out 1; have hfz12_2:=bz_ BK169.out 2; have hfz12_3:=bz_ BK169.out 3) | (go_at_call 46; (with_reducible refine (spec_l1In.calls a2 0 a0_0 false _ A6.out).mono ?_); rintro e w' ⟨rfl,⟨nd,rfl⟩⟩; (try first | exact ⟨rfl,_,World.drewN_drewN _ _ _⟩ | exact ⟨rfl,_,Eq.trans (World.drewN_drewN _ _ _) (congrArg (World.drewN _) (Nat.add_assoc _ _ _))⟩)))
   repeat (go_quiet (first | ((with_reducible refine gate_dst (N:=4) rfl ?_); refine boxE_ (N:=4) (cs:=#[.int .i64 a0_0,.int .i64 a0_1,.slice A0_2 l0_2.length c0_2,.slice A0_3 l0_3.length c0_3]) (t:=26) ?_; intro gb169 hg w11 hbox hb; have n0_:=am_ (below_step (bl0_ HB.out) hb); have n1_:=am_ (hbox); have n2_:=am_ ((bs0_ hg HB.out:w.heap.size ≤ gb169)); have n3_:=am_ ((bs0_ hg HB.out:w.heap.size ≤ gb169)); clear HB; have HB:=n0_; have BK169:=n1_; have GW169:=n2_; have GE169:=n3_; clear n0_ n1_ n2_ n3_; clear hb hbox hg; have hcz12_0:w11.cell? ⟨gb169,0,none⟩ = some (.int .i64 a0_0):=(bc_ BK169.out 0).trans rfl; have hcz12_1:w11.cell? ⟨gb169,1,none⟩ = some (.int .i64 a0_1):=(bc_ BK169.out 1).trans rfl; have hcz12_2:w11.cell? ⟨gb169,2,none⟩ = some (.slice A0_2 l0_2.length c0_2):=(bc_ BK169.out 2).trans rfl; have hcz12_3:w11.cell? ⟨gb169,3,none⟩ = some (.slice A0_3 l0_3.length c0_3):=(bc_ BK169.out 3).trans rfl; have hfz12_0:=bz_ BK169.out 0; have hfz12_1:=bz_ BK169.out 1; have hfz12_2:=bz_ BK169.out 2; have hfz12_3:=bz_ BK169.out 3) | (go_at_call 46; (with_reducible refine (spec_l1In.calls a2 0 a0_0 false _ A6.out).mono ?_); rintro e w' ⟨rfl,⟨nd,rfl⟩⟩; (try first | exact ⟨rfl,_,World.drewN_drewN _ _ _⟩ | exact ⟨rfl,_,Eq.trans (World.drewN_drewN _ _ _) (congrArg (World.drewN _) (Nat.add_assoc _ _ _))⟩))); try go_wp2_with (first | ((with_reducible refine gate_dst (N:=4) rfl ?_); refine boxE_ (N:=4) (cs:=#[.int .i64 a0_0,.int .i64 a0_1,.slice A0_2 l0_2.length c0_2,.slice A0_3 l0_3.length c0_3]) (t:=26) ?_; intro gb169 hg w11 hbox hb; have n0_:=am_ (below_step (bl0_ HB.out) hb); have n1_:=am_ (hbox); have n2_:=am_ ((bs0_ hg HB.out:w.heap.size ≤ gb169)); have n3_:=am_ ((bs0_ hg HB.out:w.heap.size ≤ gb169)); clear HB; have HB:=n0_; have BK169:=n1_; have GW169:=n2_; have GE169:=n3_; clear n0_ n1_ n2_ n3_; clear hb hbox hg; have hcz12_0:w11.cell? ⟨gb169,0,none⟩ = some (.int .i64 a0_0):=(bc_ BK169.out 0).trans rfl; have hcz12_1:w11.cell? ⟨gb169,1,none⟩ = some (.int .i64 a0_1):=(bc_ BK169.out 1).trans rfl; have hcz12_2:w11.cell? ⟨gb169,2,none⟩ = some (.slice A0_2 l0_2.length c0_2):=(bc_ BK169.out 2).trans rfl; have hcz12_3:w11.cell? ⟨gb169,3,none⟩ = some (.slice A0_3 l0_3.length c0_3):=(bc_ BK169.out 3).trans rfl; have hfz12_0:=bz_ BK169.out 0; have hfz12_1:=bz_ BK169.out 1; have hfz12_2:=bz_ BK169.out 2; have hfz12_3:=bz_ BK169.out 3) | (go_at_call 46; (with_reducible refine (spec_l1In.calls a2 0 a0_0 false _ A6.out).mono ?_); rintro e w' ⟨rfl,⟨nd,rfl⟩⟩; (try first | exact ⟨rfl,_,World.drewN_drewN _ _ _⟩ | exact ⟨rfl,_,Eq.trans (World.drewN_drewN _ _ _) (congrArg (World.drewN _) (Nat.add_assoc _ _ _))⟩))))
   go_ret2
   exact ⟨er_,bl1_ HB.out GE169.out⟩
 ·replace c5:=Bool.eq_false_iff.mpr c5
  subst c5
  have H1:((spec_l1In.f a2 0 (wrap64 (a0_0 - 1))).bind fun t172 => (if t172 = true then ((spec_l1In.f a3 0 a0_1).bind fun t173 => (some (wrap64 ((wrap64 (a3 * a0_0)) + a2),t173))) else (some (wrap64 ((wrap64 (a3 * a0_0)) + a2),false)))) = some (r1,r2):=by rw [if_neg (show ¬ (false = true) by decide)] at H; exact H
  clear H
  have H:=H1
  clear H1
  replace H:=bi_ H
  obtain ⟨t172,A130,H⟩:=H
  replace H:(if t172 = true then ((spec_l1In.f a3 0 a0_1).bind fun t173 => (some (wrap64 ((wrap64 (a3 * a0_0)) + a2),t173))) else (some (wrap64 ((wrap64 (a3 * a0_0)) + a2),false))) = some (r1,r2):=H
  have A13:=am_ A130
  clear A130
  by_cases c14:t172 = true
  ·subst c14
   have H1:((spec_l1In.f a3 0 a0_1).bind fun t173 => (some (wrap64 ((wrap64 (a3 * a0_0)) + a2),t173))) = some (r1,r2):=by rw [if_pos rfl] at H; exact H
   clear H
   have H:=H1
   clear H1
   replace H:=bi_ H
   obtain ⟨t173,A150,H⟩:=H
   replace H:(some (wrap64 ((wrap64 (a3 * a0_0)) + a2),t173)) = some (r1,r2):=H
   have A15:=am_ A150
   clear A150
   simp only [Option.some.injEq,Prod.mk.injEq] at H
   obtain ⟨rfl,rfl⟩:=H
   go_enter Tryz.func68,Tryz.ntmps68
   go_wp2_with (first | ((with_reducible refine gate_dst (N:=4) rfl ?_); refine boxE_ (N:=4) (cs:=#[.int .i64 a0_0,.int .i64 a0_1,.slice A0_2 l0_2.length c0_2,.slice A0_3 l0_3.length c0_3]) (t:=26) ?_; intro gb169 hg w16 hbox hb; have n0_:=am_ (below_step (bl0_ HB.out) hb); have n1_:=am_ (hbox); have n2_:=am_ ((bs0_ hg HB.out:w.heap.size ≤ gb169)); have n3_:=am_ ((bs0_ hg HB.out:w.heap.size ≤ gb169)); clear HB; have HB:=n0_; have BK169:=n1_; have GW169:=n2_; have GE169:=n3_; clear n0_ n1_ n2_ n3_; clear hb hbox hg; have hcz17_0:w16.cell? ⟨gb169,0,none⟩ = some (.int .i64 a0_0):=(bc_ BK169.out 0).trans rfl; have hcz17_1:w16.cell? ⟨gb169,1,none⟩ = some (.int .i64 a0_1):=(bc_ BK169.out 1).trans rfl; have hcz17_2:w16.cell? ⟨gb169,2,none⟩ = some (.slice A0_2 l0_2.length c0_2):=(bc_ BK169.out 2).trans rfl; have hcz17_3:w16.cell? ⟨gb169,3,none⟩ = some (.slice A0_3 l0_3.length c0_3):=(bc_ BK169.out 3).trans rfl; have hfz17_0:=bz_ BK169.out 0; have hfz17_1:=bz_ BK169.out 1; have hfz17_2:=bz_ BK169.out 2; have hfz17_3:=bz_ BK169.out 3) | (go_at_call 46; (with_reducible refine (spec_l1In.calls a2 0 (wrap64 (a0_0 - 1)) true _ A13.out).mono ?_); rintro e w' ⟨rfl,⟨nd,rfl⟩⟩; (try first | exact ⟨rfl,_,World.drewN_drewN _ _ _⟩ | exact ⟨rfl,_,Eq.trans (World.drewN_drewN _ _ _) (congrArg (World.drewN _) (Nat.add_assoc _ _ _))⟩)) | (go_at_call 46; (with_reducible refine (spec_l1In.calls a3 0 a0_1 t173 _ A15.out).mono ?_); rintro e w' ⟨rfl,⟨nd,rfl⟩⟩; (try first | exact ⟨rfl,_,World.drewN_drewN _ _ _⟩ | exact ⟨rfl,_,Eq.trans (World.drewN_drewN _ _ _) (congrArg (World.drewN _) (Nat.add_assoc _ _ _))⟩)))
   repeat (go_quiet (first | ((with_reducible refine gate_dst (N:=4) rfl ?_); refine boxE_ (N:=4) (cs:=#[.int .i64 a0_0,.int .i64 a0_1,.slice A0_2 l0_2.length c0_2,.slice A0_3 l0_3.length c0_3]) (t:=26) ?_; intro gb169 hg w16 hbox hb; have n0_:=am_ (below_step (bl0_ HB.out) hb); have n1_:=am_ (hbox); have n2_:=am_ ((bs0_ hg HB.out:w.heap.size ≤ gb169)); have n3_:=am_ ((bs0_ hg HB.out:w.heap.size ≤ gb169)); clear HB; have HB:=n0_; have BK169:=n1_; have GW169:=n2_; have GE169:=n3_; clear n0_ n1_ n2_ n3_; clear hb hbox hg; have hcz17_0:w16.cell? ⟨gb169,0,none⟩ = some (.int .i64 a0_0):=(bc_ BK169.out 0).trans rfl; have hcz17_1:w16.cell? ⟨gb169,1,none⟩ = some (.int .i64 a0_1):=(bc_ BK169.out 1).trans rfl; have hcz17_2:w16.cell? ⟨gb169,2,none⟩ = some (.slice A0_2 l0_2.length c0_2):=(bc_ BK169.out 2).trans rfl; have hcz17_3:w16.cell? ⟨gb169,3,none⟩ = some (.slice A0_3 l0_3.length c0_3):=(bc_ BK169.out 3).trans rfl; have hfz17_0:=bz_ BK169.out 0; have hfz17_1:=bz_ BK169.out 1; have hfz17_2:=bz_ BK169.out 2; have hfz17_3:=bz_ BK169.out 3) | (go_at_call 46; (with_reducible refine (spec_l1In.calls a2 0 (wrap64 (a0_0 - 1)) true _ A13.out).mono ?_); rintro e w' ⟨rfl,⟨nd,rfl⟩⟩; (try first | exact ⟨rfl,_,World.drewN_drewN _ _ _⟩ | exact ⟨rfl,_,Eq.trans (World.drewN_drewN _ _ _) (congrArg (World.drewN _) (Nat.add_assoc _ _ _))⟩)) | (go_at_call 46; (with_reducible refine (spec_l1In.calls a3 0 a0_1 t173 _ A15.out).mono ?_); rintro e w' ⟨rfl,⟨nd,rfl⟩⟩; (try first | exact ⟨rfl,_,World.drewN_drewN _ _ _⟩ | exact ⟨rfl,_,Eq.trans (World.drewN_drewN _ _ _) (congrArg (World.drewN _) (Nat.add_assoc _ _ _))⟩))); try go_wp2_with (first | ((with_reducible refine gate_dst (N:=4) rfl ?_); refine boxE_ (N:=4) (cs:=#[.int .i64 a0_0,.int .i64 a0_1,.slice A0_2 l0_2.length c0_2,.slice A0_3 l0_3.length c0_3]) (t:=26) ?_; intro gb169 hg w16 hbox hb; have n0_:=am_ (below_step (bl0_ HB.out) hb); have n1_:=am_ (hbox); have n2_:=am_ ((bs0_ hg HB.out:w.heap.size ≤ gb169)); have n3_:=am_ ((bs0_ hg HB.out:w.heap.size ≤ gb169)); clear HB; have HB:=n0_; have BK169:=n1_; have GW169:=n2_; have GE169:=n3_; clear n0_ n1_ n2_ n3_; clear hb hbox hg; have hcz17_0:w16.cell? ⟨gb169,0,none⟩ = some (.int .i64 a0_0):=(bc_ BK169.out 0).trans rfl; have hcz17_1:w16.cell? ⟨gb169,1,none⟩ = some (.int .i64 a0_1):=(bc_ BK169.out 1).trans rfl; have hcz17_2:w16.cell? ⟨gb169,2,none⟩ = some (.slice A0_2 l0_2.length c0_2):=(bc_ BK169.out 2).trans rfl; have hcz17_3:w16.cell? ⟨gb169,3,none⟩ = some (.slice A0_3 l0_3.length c0_3):=(bc_ BK169.out 3).trans rfl; have hfz17_0:=bz_ BK169.out 0; have hfz17_1:=bz_ BK169.out 1; have hfz17_2:=bz_ BK169.out 2; have hfz17_3:=bz_ BK169.out 3) | (go_at_call 46; (with_reducible refine (spec_l1In.calls a2 0 (wrap64 (a0_0 - 1)) true _ A13.out).mono ?_); rintro e w' ⟨rfl,⟨nd,rfl⟩⟩; (try first | exact ⟨rfl,_,World.drewN_drewN _ _ _⟩ | exact ⟨rfl,_,Eq.trans (World.drewN_drewN _ _ _) (congrArg (World.drewN _) (Nat.add_assoc _ _ _))⟩)) | (go_at_call 46; (with_reducible refine (spec_l1In.calls a3 0 a0_1 t173 _ A15.out).mono ?_); rintro e w' ⟨rfl,⟨nd,rfl⟩⟩; (try first | exact ⟨rfl,_,World.drewN_drewN _ _ _⟩ | exact ⟨rfl,_,Eq.trans (World.drewN_drewN _ _ _) (congrArg (World.drewN _) (Nat.add_assoc _ _ _))⟩))))
   go_ret2
   exact ⟨er_,bl1_ HB.out GE169.out⟩
  ·replace c14:=Bool.eq_false_iff.mpr c14
   subst c14
   have H1:(some (wrap64 ((wrap64 (a3 * a0_0)) + a2),false)) = some (r1,r2):=by rw [if_neg (show ¬ (false = true) by decide)] at H; exact H
   clear H
   have H:=H1
   clear H1
   simp only [Option.some.injEq,Prod.mk.injEq] at H
   obtain ⟨rfl,rfl⟩:=H
   go_enter Tryz.func68,Tryz.ntmps68
   go_wp2_with (first | ((with_reducible refine gate_dst (N:=4) rfl ?_); refine boxE_ (N:=4) (cs:=#[.int .i64 a0_0,.int .i64 a0_1,.slice A0_2 l0_2.length c0_2,.slice A0_3 l0_3.length c0_3]) (t:=26) ?_; intro gb169 hg w18 hbox hb; have n0_:=am_ (below_step (bl0_ HB.out) hb); have n1_:=am_ (hbox); have n2_:=am_ ((bs0_ hg HB.out:w.heap.size ≤ gb169)); have n3_:=am_ ((bs0_ hg HB.out:w.heap.size ≤ gb169)); clear HB; have HB:=n0_; have BK169:=n1_; have GW169:=n2_; have GE169:=n3_; clear n0_ n1_ n2_ n3_; clear hb hbox hg; have hcz19_0:w18.cell? ⟨gb169,0,none⟩ = some (.int .i64 a0_0):=(bc_ BK169.out 0).trans rfl; have hcz19_1:w18.cell? ⟨gb169,1,none⟩ = some (.int .i64 a0_1):=(bc_ BK169.out 1).trans rfl; have hcz19_2:w18.cell? ⟨gb169,2,none⟩ = some (.slice A0_2 l0_2.length c0_2):=(bc_ BK169.out 2).trans rfl; have hcz19_3:w18.cell? ⟨gb169,3,none⟩ = some (.slice A0_3 l0_3.length c0_3):=(bc_ BK169.out 3).trans rfl; have hfz19_0:=bz_ BK169.out 0; have hfz19_1:=bz_ BK169.out 1; have hfz19_2:=bz_ BK169.out 2; have hfz19_3:=bz_ BK169.out 3) | (go_at_call 46; (with_reducible refine (spec_l1In.calls a2 0 (wrap64 (a0_0 - 1)) false _ A13.out).mono ?_); rintro e w' ⟨rfl,⟨nd,rfl⟩⟩; (try first | exact ⟨rfl,_,World.drewN_drewN _ _ _⟩ | exact ⟨rfl,_,Eq.trans (World.drewN_drewN _ _ _) (congrArg (World.drewN _) (Nat.add_assoc _ _ _))⟩)))
   repeat (go_quiet (first | ((with_reducible refine gate_dst (N:=4) rfl ?_); refine boxE_ (N:=4) (cs:=#[.int .i64 a0_0,.int .i64 a0_1,.slice A0_2 l0_2.length c0_2,.slice A0_3 l0_3.length c0_3]) (t:=26) ?_; intro gb169 hg w18 hbox hb; have n0_:=am_ (below_step (bl0_ HB.out) hb); have n1_:=am_ (hbox); have n2_:=am_ ((bs0_ hg HB.out:w.heap.size ≤ gb169)); have n3_:=am_ ((bs0_ hg HB.out:w.heap.size ≤ gb169)); clear HB; have HB:=n0_; have BK169:=n1_; have GW169:=n2_; have GE169:=n3_; clear n0_ n1_ n2_ n3_; clear hb hbox hg; have hcz19_0:w18.cell? ⟨gb169,0,none⟩ = some (.int .i64 a0_0):=(bc_ BK169.out 0).trans rfl; have hcz19_1:w18.cell? ⟨gb169,1,none⟩ = some (.int .i64 a0_1):=(bc_ BK169.out 1).trans rfl; have hcz19_2:w18.cell? ⟨gb169,2,none⟩ = some (.slice A0_2 l0_2.length c0_2):=(bc_ BK169.out 2).trans rfl; have hcz19_3:w18.cell? ⟨gb169,3,none⟩ = some (.slice A0_3 l0_3.length c0_3):=(bc_ BK169.out 3).trans rfl; have hfz19_0:=bz_ BK169.out 0; have hfz19_1:=bz_ BK169.out 1; have hfz19_2:=bz_ BK169.out 2; have hfz19_3:=bz_ BK169.out 3) | (go_at_call 46; (with_reducible refine (spec_l1In.calls a2 0 (wrap64 (a0_0 - 1)) false _ A13.out).mono ?_); rintro e w' ⟨rfl,⟨nd,rfl⟩⟩; (try first | exact ⟨rfl,_,World.drewN_drewN _ _ _⟩ | exact ⟨rfl,_,Eq.trans (World.drewN_drewN _ _ _) (congrArg (World.drewN _) (Nat.add_assoc _ _ _))⟩))); try go_wp2_with (first | ((with_reducible refine gate_dst (N:=4) rfl ?_); refine boxE_ (N:=4) (cs:=#[.int .i64 a0_0,.int .i64 a0_1,.slice A0_2 l0_2.length c0_2,.slice A0_3 l0_3.length c0_3]) (t:=26) ?_; intro gb169 hg w18 hbox hb; have n0_:=am_ (below_step (bl0_ HB.out) hb); have n1_:=am_ (hbox); have n2_:=am_ ((bs0_ hg HB.out:w.heap.size ≤ gb169)); have n3_:=am_ ((bs0_ hg HB.out:w.heap.size ≤ gb169)); clear HB; have HB:=n0_; have BK169:=n1_; have GW169:=n2_; have GE169:=n3_; clear n0_ n1_ n2_ n3_; clear hb hbox hg; have hcz19_0:w18.cell? ⟨gb169,0,none⟩ = some (.int .i64 a0_0):=(bc_ BK169.out 0).trans rfl; have hcz19_1:w18.cell? ⟨gb169,1,none⟩ = some (.int .i64 a0_1):=(bc_ BK169.out 1).trans rfl; have hcz19_2:w18.cell? ⟨gb169,2,none⟩ = some (.slice A0_2 l0_2.length c0_2):=(bc_ BK169.out 2).trans rfl; have hcz19_3:w18.cell? ⟨gb169,3,none⟩ = some (.slice A0_3 l0_3.length c0_3):=(bc_ BK169.out 3).trans rfl; have hfz19_0:=bz_ BK169.out 0; have hfz19_1:=bz_ BK169.out 1; have hfz19_2:=bz_ BK169.out 2; have hfz19_3:=bz_ BK169.out 3) | (go_at_call 46; (with_reducible refine (spec_l1In.calls a2 0 (wrap64 (a0_0 - 1)) false _ A13.out).mono ?_); rintro e w' ⟨rfl,⟨nd,rfl⟩⟩; (try first | exact ⟨rfl,_,World.drewN_drewN _ _ _⟩ | exact ⟨rfl,_,Eq.trans (World.drewN_drewN _ _ _) (congrArg (World.drewN _) (Nat.add_assoc _ _ _))⟩))))
   go_ret2
   exact ⟨er_,bl1_ HB.out GE169.out⟩


def spec_l1Has.l0:Nat → Int → List Int → Int → Int → Option (Bool)
  | 0,_,_,_,_ => none
  | k + 1,x1,x7,x8,x9 => if x9 < x8 then (if 0 ≤ x9 then (if x9 < (x7.length:Int) then (if (rd x7 x9) = x1 then (some true) else (spec_l1Has.l0 k x1 x7 x8 (wrap64 (x9 + 1)))) else (none)) else (none)) else (some false)
def spec_l1Has.f (k:Nat) (l0:List Int) (a1:Int):Option (Bool):=spec_l1Has.l0 k a1 l0 (l0.length:Int) 0
theorem spec_l1Has.mono_l:∀ k,(∀ y0 y1 y2 y3,LeO (spec_l1Has.l0 k y0 y1 y2 y3) (spec_l1Has.l0 (k + 1) y0 y1 y2 y3))
  | 0 => fun _ _ _ _ r h => by simp [spec_l1Has.l0] at h
  | k + 1 => by
    have ih0:=spec_l1Has.mono_l k
    · intro y0 y1 y2 y3
      unfold spec_l1Has.l0
      repeat' first | (with_reducible first | exact ih0 _ _ _ _ | exact LeO.refl _ | exact LeO.none _ | refine LeO.ite ?_ ?_ | refine LeO.bind ?_ (fun _ => ?_)) | exact ih0 _ _ _ _
theorem spec_l1Has.mono:∀ a0 a1 k,LeO (spec_l1Has.f k a0 a1) (spec_l1Has.f (k + 1) a0 a1):=by
  intro a0 a1 k
  have ih0:=spec_l1Has.mono_l k
  unfold spec_l1Has.f
  repeat' first | (with_reducible first | exact ih0 _ _ _ _ | exact LeO.refl _ | exact LeO.none _ | refine LeO.ite ?_ ?_ | refine LeO.bind ?_ (fun _ => ?_)) | exact ih0 _ _ _ _
set_option maxHeartbeats 8000000 in
set_option maxRecDepth 100000 in
theorem spec_l1Has.calls (k:Nat) (A0:Option Addr) (c0:Nat) (l0:List Int) (a1:Int) (r:Bool) (w:World) (hr0:Kd.C (Kd.int .i64) w A0 l0.length l0) (hc0:l0.length ≤ c0) (h:spec_l1Has.f k l0 a1 = some r) :
    Calls Tryz.prog 69 #[.slice A0 l0.length c0,.int .i64 a1] w fun e w' => e = .returned (.bool r) ∧ Drawn0 w w':=by
  have HR0:=am_ hr0
  have HC0:=am_ hc0
  clear hr0 hc0
  have H:(spec_l1Has.l0 k a1 l0 (l0.length:Int) 0) = some r:=h
  clear h
  have H':=am_ H
  clear H
  go_enter Tryz.func69,Tryz.ntmps69
  go_wp2
  go_loopg [9] k (fun kq v9 w' => ∃ (x9_1:Int),v9 = .int .i64 x9_1 ∧ Aside0 (spec_l1Has.l0 kq a1 l0 (l0.length:Int) x9_1 = some r) ∧ Aside0 (kq ≤ k) ∧ Drawn0 w w')
  case atStart => exact ⟨(0),rs_,H',⟨Nat.le_refl _⟩,by repeat (first | exact Drawn0.refl _ | apply Drawn0.step)⟩
  case round =>
    clear H'
    try clear p2
    obtain ⟨x9_1,rfl,HA,HK1,⟨m1,rfl⟩⟩:=hrel
    cases gk with
    | zero => exact absurd HA.out (by simp [spec_l1Has.l0])
    | succ k1 =>
      have H:=HA.out
      clear HA
      simp only [spec_l1Has.l0] at H
      by_cases c3:x9_1 < (l0.length:Int)
      · rw [if_pos c3] at H
        have c3b0:decide (x9_1 < (l0.length:Int)) = true:=decide_eq_true c3
        clear c3
        by_cases c4:0 ≤ x9_1
        · rw [if_pos c4] at H
          have c4b0:decide (0 ≤ x9_1) = true:=decide_eq_true c4
          clear c4
          by_cases c5:x9_1 < (l0.length:Int)
          · rw [if_pos c5] at H
            have c5b0:decide (x9_1 < (l0.length:Int)) = true:=decide_eq_true c5
            clear c5
            by_cases c6:(rd l0 x9_1) = a1
            · rw [if_pos c6] at H
              have c6b0:((rd l0 x9_1) == a1) = true:=beq_iff_eq.mpr c6
              have c6b1:((rd l0 x9_1) != a1) = false:=bne_eq_false_iff_eq.mpr c6
              clear c6
              obtain rfl:=Option.some.inj H
              have p174:0 ≤ (x9_1:Int):=of_decide_eq_true as_
              have q174:x9_1 < (l0.length:Int):=of_decide_eq_true as_
              obtain ⟨ad174,e174,hx174_0⟩:=Kd.at_int HR0.out x9_1 p174 q174
              cases e174
              replace p174:=eq_true p174
              replace q174:=eq_true q174
              go_wp2
              go_ret
              exact ⟨by first | rfl | (simp; done) | (simp [*]; done),by repeat (first | exact Drawn0.refl _ | apply Drawn0.step)⟩
            · rw [if_neg c6] at H
              have c6b0:((rd l0 x9_1) == a1) = false:=beq_eq_false_iff_ne.mpr c6
              have c6b1:((rd l0 x9_1) != a1) = true:=bne_iff_ne.mpr c6
              have H':=am_ H
              clear H
              have p174:0 ≤ (x9_1:Int):=of_decide_eq_true as_
              have q174:x9_1 < (l0.length:Int):=of_decide_eq_true as_
              obtain ⟨ad174,e174,hx174_0⟩:=Kd.at_int HR0.out x9_1 p174 q174
              cases e174
              replace p174:=eq_true p174
              replace q174:=eq_true q174
              go_wp2
              go_roundg k1
              case measure => have:=HK1.out; omega
              case rel => exact ⟨(wrap64 (x9_1 + 1)),rs_,H',⟨by have:=HK1.out; omega⟩,by repeat (first | exact Drawn0.refl _ | apply Drawn0.step)⟩
          · rw [if_neg c5] at H
            exact absurd H (by simp)
        · rw [if_neg c4] at H
          exact absurd H (by simp)
      · rw [if_neg c3] at H
        have c3b0:decide (x9_1 < (l0.length:Int)) = false:=decide_eq_false c3
        clear c3
        obtain rfl:=Option.some.inj H
        go_wp2
        go_ret
        exact ⟨by first | rfl | (simp; done) | (simp [*]; done),by repeat (first | exact Drawn0.refl _ | apply Drawn0.step)⟩


def spec_fiHas.f (k:Nat) (a0_0:Int) (a0_1:Int) (l0_2:List Int) (l0_3:List Int) (a1:Bool) (a2:Int) (a3:Int):Option (Bool):=(spec_fiEdge.f a0_0 a0_1 l0_2 l0_3 a1 a2 a3).bind fun bt176 => (if a1 = true then ((spec_l1Has.f k l0_3 bt176.1).bind fun t178 => (some t178)) else ((spec_l1Has.f k l0_2 bt176.1).bind fun t179 => (some t179)))
theorem spec_fiHas.mono:∀ a0 a1 a2 a3 a4 a5 a6 k,LeO (spec_fiHas.f k a0 a1 a2 a3 a4 a5 a6) (spec_fiHas.f (k + 1) a0 a1 a2 a3 a4 a5 a6):=by
 intro a0 a1 a2 a3 a4 a5 a6 k
 unfold spec_fiHas.f
 repeat' first | (with_reducible first | exact spec_l1Has.mono _ _ _ | exact LeO.refl _ | exact LeO.none _ | refine LeO.ite ?_ ?_ | refine LeO.bind ?_ (fun _ => ?_)) | exact spec_l1Has.mono _ _ _
set_option maxHeartbeats 8000000 in
set_option maxRecDepth 100000 in
theorem spec_fiHas.calls (k:Nat) (a0_0:Int) (a0_1:Int) (A0_2:Option Addr) (c0_2:Nat) (l0_2:List Int) (A0_3:Option Addr) (c0_3:Nat) (l0_3:List Int) (a1:Bool) (a2:Int) (a3:Int) (r:Bool) (w:World) (hr0_2:Kd.C (Kd.int .i64) w A0_2 l0_2.length l0_2) (hc0_2:l0_2.length ≤ c0_2) (hr0_3:Kd.C (Kd.int .i64) w A0_3 l0_3.length l0_3) (hc0_3:l0_3.length ≤ c0_3) (h:spec_fiHas.f k a0_0 a0_1 l0_2 l0_3 a1 a2 a3 = some r) :
  Calls Tryz.prog 52 #[.agg #[.int .i64 a0_0,.int .i64 a0_1,.slice A0_2 l0_2.length c0_2,.slice A0_3 l0_3.length c0_3],.bool a1,.int .i64 a2,.int .i64 a3] w fun e w' => e = .returned (.bool r) ∧ Below w.heap.size w w':=by
 have hu26:=Tryz.underlying26
 have HR0_2:=am_ hr0_2
 have HC0_2:=am_ hc0_2
 clear hr0_2 hc0_2
 have HR0_3:=am_ hr0_3
 have HC0_3:=am_ hc0_3
 clear hr0_3 hc0_3
 have HB:=am_ (Below.refl w.heap.size w)
 have H:((spec_fiEdge.f a0_0 a0_1 l0_2 l0_3 a1 a2 a3).bind fun bt176 => (if a1 = true then ((spec_l1Has.f k l0_3 bt176.1).bind fun t178 => (some t178)) else ((spec_l1Has.f k l0_2 bt176.1).bind fun t179 => (some t179)))) = some r:=h
 clear h
 replace H:=bi_ H
 obtain ⟨⟨t176,t177⟩,A50,H⟩:=H
 replace H:(if a1 = true then ((spec_l1Has.f k l0_3 t176).bind fun t178 => (some t178)) else ((spec_l1Has.f k l0_2 t176).bind fun t179 => (some t179))) = some r:=H
 have A5:=am_ A50
 clear A50
 by_cases c6:a1 = true
 ·subst c6
  have H1:((spec_l1Has.f k l0_3 t176).bind fun t178 => (some t178)) = some r:=by rw [if_pos rfl] at H; exact H
  clear H
  have H:=H1
  clear H1
  replace H:=bi_ H
  obtain ⟨t178,A70,H⟩:=H
  replace H:(some t178) = some r:=H
  have A7:=am_ A70
  clear A70
  obtain rfl:=Option.some.inj H
  go_enter Tryz.func52,Tryz.ntmps52
  go_wp2_with (first | ((with_reducible refine gate_dst (N:=4) rfl ?_); refine boxE_ (N:=4) (cs:=#[.int .i64 a0_0,.int .i64 a0_1,.slice A0_2 l0_2.length c0_2,.slice A0_3 l0_3.length c0_3]) (t:=26) ?_; intro gb175 hg w8 hbox hb; have n0_:=am_ (below_step (bl0_ HB.out) hb); have n1_:=am_ (hbox); have n2_:=am_ ((bs0_ hg HB.out:w.heap.size ≤ gb175)); have n3_:=am_ ((bs0_ hg HB.out:w.heap.size ≤ gb175)); clear HB; have HB:=n0_; have BK175:=n1_; have GW175:=n2_; have GE175:=n3_; clear n0_ n1_ n2_ n3_; clear hb hbox hg; have hcz9_0:w8.cell? ⟨gb175,0,none⟩ = some (.int .i64 a0_0):=(bc_ BK175.out 0).trans rfl; have hcz9_1:w8.cell? ⟨gb175,1,none⟩ = some (.int .i64 a0_1):=(bc_ BK175.out 1).trans rfl; have hcz9_2:w8.cell? ⟨gb175,2,none⟩ = some (.slice A0_2 l0_2.length c0_2):=(bc_ BK175.out 2).trans rfl; have hcz9_3:w8.cell? ⟨gb175,3,none⟩ = some (.slice A0_3 l0_3.length c0_3):=(bc_ BK175.out 3).trans rfl; have hfz9_0:=bz_ BK175.out 0; have hfz9_1:=bz_ BK175.out 1; have hfz9_2:=bz_ BK175.out 2; have hfz9_3:=bz_ BK175.out 3) | ((with_reducible refine gate_callee (f:=68) rfl ?_); refine goesL_ (some 16) rfl rfl Tryz.func68 (by kernel_rfl) rfl #[.agg #[.int .i64 a0_0,.int .i64 a0_1,.slice A0_2 l0_2.length c0_2,.slice A0_3 l0_3.length c0_3],.bool true,.int .i64 a2,.int .i64 a3] rfl ob_ ?_; (with_reducible refine (spec_fiEdge.calls a0_0 a0_1 _ _ l0_2 _ _ l0_3 true a2 a3 t176 t177 _ ?side1 ?side2 ?side3 ?side4 A5.out).mono ?_); (case side1 => exact kc_ (Kd.C_below HR0_2.out HB.out)); (case side2 => exact HC0_2.out); (case side3 => exact kc_ (Kd.C_below HR0_3.out HB.out)); (case side4 => exact HC0_3.out); rintro e w10 ⟨rfl,hb⟩; refine ⟨_,rfl,?_⟩; have n0_:=am_ (bb_ BK175.out hb); have n1_:=am_ (below_step (bl1_ HB.out GE175.out) hb); clear BK175; clear HB; have BK175:=n0_; have HB:=n1_; clear n0_ n1_; (try clear hb); (try clear hb2); (try clear hk); (try clear hi); have hcz11_0:w10.cell? ⟨gb175,0,none⟩ = some (.int .i64 a0_0):=(bc_ BK175.out 0).trans rfl; have hcz11_1:w10.cell? ⟨gb175,1,none⟩ = some (.int .i64 a0_1):=(bc_ BK175.out 1).trans rfl; have hcz11_2:w10.cell? ⟨gb175,2,none⟩ = some (.slice A0_2 l0_2.length c0_2):=(bc_ BK175.out 2).trans rfl; have hcz11_3:w10.cell? ⟨gb175,3,none⟩ = some (.slice A0_3 l0_3.length c0_3):=(bc_ BK175.out 3).trans rfl; have hfz11_0:=bz_ BK175.out 0; have hfz11_1:=bz_ BK175.out 1; have hfz11_2:=bz_ BK175.out 2; have hfz11_3:=bz_ BK175.out 3) | ((with_reducible refine gate_callee (f:=69) rfl ?_); refine goesL_ (some 23) rfl rfl Tryz.func69 (by kernel_rfl) rfl #[.slice A0_3 l0_3.length c0_3,.int .i64 t176] rfl ob_ ?_; (with_reducible refine (spec_l1Has.calls k _ _ l0_3 t176 t178 _ ?side1 ?side2 A7.out).mono ?_); (case side1 => exact kc_ (Kd.C_below HR0_3.out HB.out)); (case side2 => exact HC0_3.out); rintro e w' ⟨rfl,⟨nd,rfl⟩⟩; refine ⟨_,rfl,?_⟩))
  go_ret
  exact ⟨er_,bl1_ HB.out GE175.out⟩
 ·replace c6:=Bool.eq_false_iff.mpr c6
  subst c6
  have H1:((spec_l1Has.f k l0_2 t176).bind fun t179 => (some t179)) = some r:=by rw [if_neg (show ¬ (false = true) by decide)] at H; exact H
  clear H
  have H:=H1
  clear H1
  replace H:=bi_ H
  obtain ⟨t179,A120,H⟩:=H
  replace H:(some t179) = some r:=H
  have A12:=am_ A120
  clear A120
  obtain rfl:=Option.some.inj H
  go_enter Tryz.func52,Tryz.ntmps52
  go_wp2_with (first | ((with_reducible refine gate_dst (N:=4) rfl ?_); refine boxE_ (N:=4) (cs:=#[.int .i64 a0_0,.int .i64 a0_1,.slice A0_2 l0_2.length c0_2,.slice A0_3 l0_3.length c0_3]) (t:=26) ?_; intro gb175 hg w13 hbox hb; have n0_:=am_ (below_step (bl0_ HB.out) hb); have n1_:=am_ (hbox); have n2_:=am_ ((bs0_ hg HB.out:w.heap.size ≤ gb175)); have n3_:=am_ ((bs0_ hg HB.out:w.heap.size ≤ gb175)); clear HB; have HB:=n0_; have BK175:=n1_; have GW175:=n2_; have GE175:=n3_; clear n0_ n1_ n2_ n3_; clear hb hbox hg; have hcz14_0:w13.cell? ⟨gb175,0,none⟩ = some (.int .i64 a0_0):=(bc_ BK175.out 0).trans rfl; have hcz14_1:w13.cell? ⟨gb175,1,none⟩ = some (.int .i64 a0_1):=(bc_ BK175.out 1).trans rfl; have hcz14_2:w13.cell? ⟨gb175,2,none⟩ = some (.slice A0_2 l0_2.length c0_2):=(bc_ BK175.out 2).trans rfl; have hcz14_3:w13.cell? ⟨gb175,3,none⟩ = some (.slice A0_3 l0_3.length c0_3):=(bc_ BK175.out 3).trans rfl; have hfz14_0:=bz_ BK175.out 0; have hfz14_1:=bz_ BK175.out 1; have hfz14_2:=bz_ BK175.out 2; have hfz14_3:=bz_ BK175.out 3) | ((with_reducible refine gate_callee (f:=68) rfl ?_); refine goesL_ (some 16) rfl rfl Tryz.func68 (by kernel_rfl) rfl #[.agg #[.int .i64 a0_0,.int .i64 a0_1,.slice A0_2 l0_2.length c0_2,.slice A0_3 l0_3.length c0_3],.bool false,.int .i64 a2,.int .i64 a3] rfl ob_ ?_; (with_reducible refine (spec_fiEdge.calls a0_0 a0_1 _ _ l0_2 _ _ l0_3 false a2 a3 t176 t177 _ ?side1 ?side2 ?side3 ?side4 A5.out).mono ?_); (case side1 => exact kc_ (Kd.C_below HR0_2.out HB.out)); (case side2 => exact HC0_2.out); (case side3 => exact kc_ (Kd.C_below HR0_3.out HB.out)); (case side4 => exact HC0_3.out); rintro e w15 ⟨rfl,hb⟩; refine ⟨_,rfl,?_⟩; have n0_:=am_ (bb_ BK175.out hb); have n1_:=am_ (below_step (bl1_ HB.out GE175.out) hb); clear BK175; clear HB; have BK175:=n0_; have HB:=n1_; clear n0_ n1_; (try clear hb); (try clear hb2); (try clear hk); (try clear hi); have hcz16_0:w15.cell? ⟨gb175,0,none⟩ = some (.int .i64 a0_0):=(bc_ BK175.out 0).trans rfl; have hcz16_1:w15.cell? ⟨gb175,1,none⟩ = some (.int .i64 a0_1):=(bc_ BK175.out 1).trans rfl; have hcz16_2:w15.cell? ⟨gb175,2,none⟩ = some (.slice A0_2 l0_2.length c0_2):=(bc_ BK175.out 2).trans rfl; have hcz16_3:w15.cell? ⟨gb175,3,none⟩ = some (.slice A0_3 l0_3.length c0_3):=(bc_ BK175.out 3).trans rfl; have hfz16_0:=bz_ BK175.out 0; have hfz16_1:=bz_ BK175.out 1; have hfz16_2:=bz_ BK175.out 2; have hfz16_3:=bz_ BK175.out 3) | ((with_reducible refine gate_callee (f:=69) rfl ?_); refine goesL_ (some 27) rfl rfl Tryz.func69 (by kernel_rfl) rfl #[.slice A0_2 l0_2.length c0_2,.int .i64 t176] rfl ob_ ?_; (with_reducible refine (spec_l1Has.calls k _ _ l0_2 t176 t179 _ ?side1 ?side2 A12.out).mono ?_); (case side1 => exact kc_ (Kd.C_below HR0_2.out HB.out)); (case side2 => exact HC0_2.out); rintro e w' ⟨rfl,⟨nd,rfl⟩⟩; refine ⟨_,rfl,?_⟩))
  go_ret
  exact ⟨er_,bl1_ HB.out GE175.out⟩


structure GridOK (w h:Int):Prop where
  w1:1 ≤ w
  w4:w ≤ 4
  h1:1 ≤ h
  h4:h ≤ 4
theorem gridOK_of {w h:Int} {a u:List Int} (hf:figB w h a u = true):GridOK w h:=by
  unfold figB at hf
  simp only [Bool.and_eq_true] at hf
  obtain ⟨b1,b2,b3,b4⟩:=grid_bounds (by simp only [Bool.and_eq_true]; exact hf.1)
  exact ⟨b1,b2,b3,b4⟩
theorem prod_b {w y:Int} (h1:1 ≤ w) (h4:w ≤ 5) (hy:0 ≤ y) (hy4:y ≤ 4):0 ≤ y * w ∧ y * w ≤ 20:=by
  have:y = 0 ∨ y = 1 ∨ y = 2 ∨ y = 3 ∨ y = 4:=by omega
  rcases this with rfl | rfl | rfl | rfl | rfl <;> omega
theorem level_f {w h x y:Int} (g:GridOK w h) (hx:0 ≤ x) (hx4:x ≤ 4) (hy:0 ≤ y) (hy4:y ≤ 4):impl_grid_level.f w h x y = some ((2 ^ (y * w + x).toNat:Nat):Int):=by
  obtain ⟨p1,p2⟩:=prod_b g.w1 (by have:=g.w4; omega) hy hy4
  have e1:wrap64 (y * w) = y * w:=by unfold wrap64; omega
  have e2:wrap64 (y * w + x) = (((y * w + x).toNat:Nat):Int):=by unfold wrap64; omega
  unfold impl_grid_level.f
  rw [e1,e2,if_pos (Int.natCast_nonneg _),shl_u64 _ (by omega)]
theorem upright_f {w h x y:Int} (g:GridOK w h) (hx:0 ≤ x) (hx4:x ≤ 4) (hy:0 ≤ y) (hy4:y ≤ 4):impl_grid_upright.f w h x y = some ((2 ^ ((w * (h + 1)).toNat + (y * (w + 1) + x).toNat):Nat):Int):=by
  obtain ⟨p1,p2⟩:=prod_b (w:=w + 1) (by have:=g.w1; omega) (by have:=g.w4; omega) hy hy4
  obtain ⟨c1,c2,-,-⟩:=area_bounds g.w1 g.w4 g.h1 g.h4
  have w1:=g.w1
  have w4:=g.w4
  have h1:=g.h1
  have h4:=g.h4
  have e0:wrap64 (h + 1) = h + 1:=by unfold wrap64; omega
  have e1:wrap64 (w + 1) = w + 1:=by unfold wrap64; omega
  have e2:wrap64 (w * (h + 1)) = w * (h + 1):=by unfold wrap64; omega
  have e3:wrap64 (y * (w + 1)) = y * (w + 1):=by unfold wrap64; omega
  have e4:wrap64 (w * (h + 1) + y * (w + 1)) = w * (h + 1) + y * (w + 1):=by unfold wrap64; omega
  have e5:wrap64 (w * (h + 1) + y * (w + 1) + x) = (((w * (h + 1)).toNat + (y * (w + 1) + x).toNat:Nat):Int):=by unfold wrap64; omega
  unfold impl_grid_upright.f impl_grid_levels.f
  rw [Option.bind_some,e0,e1,e2,e3,e4,e5,if_pos (Int.natCast_nonneg _),shl_u64 _ (by omega)]
theorem l1Has_l0 (l:List Int) (n:Int) (hL:l.length ≤ 4000000):∀ (d k i:Nat),l.length - i = d → i ≤ l.length → d < k → spec_l1Has.l0 k n l (l.length:Int) (i:Int) = some (decide (n ∈ l.drop i)):=by
  intro d
  induction d with
  | zero =>
    intro k i h1 h3 h4
    obtain ⟨k,rfl⟩:∃ m,k = m + 1:=⟨k - 1,by omega⟩
    simp only [spec_l1Has.l0]
    rw [if_neg (by omega),List.drop_of_length_le (by omega)]
    rfl
  | succ d ih =>
    intro k i h1 h3 h4
    obtain ⟨k,rfl⟩:∃ m,k = m + 1:=⟨k - 1,by omega⟩
    have e2:wrap64 ((i:Int) + 1) = ((i + 1:Nat):Int):=by unfold wrap64; omega
    simp only [spec_l1Has.l0]
    rw [if_pos (by omega),if_pos (by omega),if_pos (by omega),rd_nat l i (by omega),e2,ih k (i + 1) (by omega) (by omega) (by omega),List.drop_eq_getElem_cons (show i < l.length by omega)]
    by_cases hn:l[i] = n
    · rw [if_pos hn,decide_eq_true (show n ∈ l[i] :: l.drop (i + 1) by rw [hn]; exact List.mem_cons_self)]
    · rw [if_neg hn]
      congr 1
      rw [decide_eq_decide,List.mem_cons]
      constructor
      · exact Or.inr
      · rintro (h | h)
        · exact absurd h.symm hn
        · exact h
theorem l1Has_f (l:List Int) (n:Int) (hL:l.length ≤ 4000000) (k:Nat) (hk:l.length < k):spec_l1Has.f k l n = some (decide (n ∈ l)):=by
  unfold spec_l1Has.f
  exact l1Has_l0 l n hL l.length k 0 (by omega) (by omega) hk
theorem fiHas_level {w h:Int} {a u:List Int} (g:GridOK w h) (hf:figB w h a u = true) (ha:a.length ≤ 1000000) (k:Nat) (hk:1000000 < k) (x y:Int) (hx0:0 ≤ x) (hx1:x < w) (hy0:0 ≤ y) (hy1:y ≤ h) :
    spec_fiHas.f k w h a u false x y = some ((figMask w h a u).testBit (y * w + x).toNat):=by
  have w1:=g.w1
  have w4:=g.w4
  have h1:=g.h1
  have h4:=g.h4
  obtain ⟨p1,p2⟩:=prod_b (w:=w) (y:=y) w1 (by omega) hy0 (by omega)
  have e0:wrap64 (w - 1) = w - 1:=by unfold wrap64; omega
  have e1:wrap64 (y * w) = y * w:=by unfold wrap64; omega
  have e2:wrap64 (y * w + x) = y * w + x:=by unfold wrap64; omega
  have hlt:((y * w + x).toNat:Int) < w * (h + 1):=by
    have c1:y = 0 ∨ y = 1 ∨ y = 2 ∨ y = 3 ∨ y = 4:=by omega
    have c2:h = 1 ∨ h = 2 ∨ h = 3 ∨ h = 4:=by omega
    clear e0 e1 e2 hf
    rcases c2 with rfl | rfl | rfl | rfl <;> rcases c1 with rfl | rfl | rfl | rfl | rfl <;> omega
  have ht:((y * w + x).toNat:Int) = y * w + x:=by omega
  unfold spec_fiHas.f spec_fiEdge.f
  rw [if_neg (by decide),l1In_f,Option.bind_some,e0,decide_eq_true hx0,decide_eq_true (show x ≤ w - 1 by omega),if_pos (show (true && true) = true from rfl),l1In_f,Option.bind_some,decide_eq_true hy0,decide_eq_true hy1,Option.bind_some,if_neg (show ¬ false = true by decide),e1,e2,l1Has_f a _ (by omega) k (by omega),Option.bind_some,figMask_level hf _ hlt,ht]
theorem fiHas_upright {w h:Int} {a u:List Int} (g:GridOK w h) (hf:figB w h a u = true) (hu:u.length ≤ 1000000) (k:Nat) (hk:1000000 < k) (x y:Int) (hx0:0 ≤ x) (hx1:x ≤ w) (hy0:0 ≤ y) (hy1:y < h) :
    spec_fiHas.f k w h a u true x y = some ((figMask w h a u).testBit ((w * (h + 1)).toNat + (y * (w + 1) + x).toNat)):=by
  have w1:=g.w1
  have w4:=g.w4
  have h1:=g.h1
  have h4:=g.h4
  obtain ⟨p1,p2⟩:=prod_b (w:=w + 1) (y:=y) (by omega) (by omega) hy0 (by omega)
  have e0:wrap64 (h - 1) = h - 1:=by unfold wrap64; omega
  have e3:wrap64 (w + 1) = w + 1:=by unfold wrap64; omega
  have e1:wrap64 (y * (w + 1)) = y * (w + 1):=by unfold wrap64; omega
  have e2:wrap64 (y * (w + 1) + x) = y * (w + 1) + x:=by unfold wrap64; omega
  have ht:((y * (w + 1) + x).toNat:Int) = y * (w + 1) + x:=by omega
  unfold spec_fiHas.f spec_fiEdge.f
  rw [if_pos rfl,l1In_f,Option.bind_some,e0,e3,decide_eq_true hx0,decide_eq_true hx1,if_pos (show (true && true) = true from rfl),l1In_f,Option.bind_some,Option.bind_some,if_pos rfl,e1,e2,l1Has_f u _ (by omega) k (by omega),Option.bind_some,figMask_upright hf,ht]
theorem and_two (e m:Nat):2 ^ e &&& m = if m.testBit e = true then 2 ^ e else 0:=by
  apply Nat.eq_of_testBit_eq
  intro i
  rw [Nat.testBit_and,Nat.testBit_two_pow]
  by_cases h:m.testBit e = true
  · rw [if_pos h,Nat.testBit_two_pow]
    by_cases hi:e = i
    · subst hi; simp [h]
    · simp [hi]
  · rw [if_neg h,Nat.zero_testBit]
    by_cases hi:e = i
    · subst hi; simpa using h
    · simp [hi]


def BA (l:List UInt8):ByteArray:=⟨l.toArray⟩
theorem BA_add (l:List UInt8) (c:UInt8):BA l ++ (⟨#[c]⟩:ByteArray) = BA (l ++ [c]):=by
  apply ByteArray.ext
  rw [ByteArray.data_append]
  unfold BA
  apply Array.ext'
  simp
theorem BA_size (l:List UInt8):(BA l).size = l.length:=by simp [BA,ByteArray.size]
theorem join_snoc (xs:List (List UInt8)) (x sep:List UInt8) (h:xs ≠ []):Lib.join (xs ++ [x]) sep = Lib.join xs sep ++ sep ++ x:=by
  cases xs with
  | nil => exact absurd rfl h
  | cons a r =>
    rw [List.cons_append,Lib.join_cons,Lib.join_cons]
    unfold Lib.joinTail
    rw [List.map_append,List.flatten_append]
    simp
def rowL (c:UInt8) (p:Nat → Bool) (n:Nat):List UInt8:=(List.range n).map fun x => if p x = true then c else 46
theorem rowL_succ (c:UInt8) (p:Nat → Bool) (n:Nat):rowL c p (n + 1) = rowL c p n ++ [if p n = true then c else 46]:=by unfold rowL; rw [List.range_succ,List.map_append]; rfl
theorem rowL_len (c:UInt8) (p:Nat → Bool) (n:Nat):(rowL c p n).length = n:=by unfold rowL; rw [List.length_map,List.length_range]
def levP (w m y x:Nat):Bool:=m.testBit (y * w + x)
def uprP (w h m y x:Nat):Bool:=m.testBit (w * (h + 1) + (y * (w + 1) + x))
def textRows (w h m:Nat):Nat → List (List UInt8)
  | 0 => []
  | y + 1 => if y < h then (textRows w h m y ++ [rowL 45 (levP w m y) w]) ++ [rowL 124 (uprP w h m y) (w + 1)] else textRows w h m y ++ [rowL 45 (levP w m y) w]
theorem textRows_len (w h m:Nat):∀ y,y ≤ h → (textRows w h m y).length = 2 * y
  | 0,_ => rfl
  | y + 1,hy => by
    have:=textRows_len w h m y (by omega)
    unfold textRows
    rw [if_pos (by omega),List.length_append,List.length_append,List.length_singleton,List.length_singleton]
    omega
theorem textRows_size (w h m:Nat):∀ y,∀ x ∈ textRows w h m y,x.length ≤ w + 1
  | 0,x,h => by cases h
  | y + 1,x,hx => by
    have ih:=textRows_size w h m y
    have e1:=rowL_len 45 (levP w m y) w
    have e2:=rowL_len 124 (uprP w h m y) (w + 1)
    unfold textRows at hx
    split at hx
    · rcases List.mem_append.1 hx with hx | hx
      · rcases List.mem_append.1 hx with hx | hx
        · exact ih x hx
        · rw [List.mem_singleton.1 hx]; omega
      · rw [List.mem_singleton.1 hx]; omega
    · rcases List.mem_append.1 hx with hx | hx
      · exact ih x hx
      · rw [List.mem_singleton.1 hx]; omega
def figText (w h m:Nat):ByteArray:=BA (Lib.join (textRows w h m (h + 1)) [47])
theorem and_edgeB {M e:Nat} (hM:M < 2 ^ 60) (he:e < 60):(Go.bits .and .u64 (M:Int) ((2 ^ e:Nat):Int) != 0) = M.testBit e:=by
  have h:=and_two e M
  rw [Nat.and_comm] at h
  rw [and_u64 _ _ hM (Nat.pow_lt_pow_right (by decide) he),h]
  have hp:=Nat.two_pow_pos e
  cases M.testBit e with
  | false => rfl
  | true =>
    rw [if_pos rfl,bne_iff_ne]
    omega
theorem small_edge {w h x y:Nat} (hw:w ≤ 4) (hh:h ≤ 4) (hx:x ≤ w) (hy:y ≤ h):y * w + x < 60 ∧ w * (h + 1) + (y * (w + 1) + x) < 60:=by
  have cw:w = 0 ∨ w = 1 ∨ w = 2 ∨ w = 3 ∨ w = 4:=by omega
  rcases cw with rfl | rfl | rfl | rfl | rfl <;> omega
theorem join_len (sep:List UInt8) (m:Nat):∀ (xs:List (List UInt8)),(∀ x ∈ xs,x.length ≤ m) → (Lib.join xs sep).length ≤ xs.length * (m + sep.length):=by
  have tail:∀ (r:List (List UInt8)),(∀ x ∈ r,x.length ≤ m) → (Lib.joinTail sep r).length ≤ r.length * (m + sep.length):=by
    intro r
    induction r with
    | nil => intro _; exact Nat.zero_le _
    | cons x r ih =>
      intro h
      have h1:=h x List.mem_cons_self
      have h2:=ih (fun y hy => h y (List.mem_cons_of_mem _ hy))
      unfold Lib.joinTail at h2 ⊢
      rw [List.map_cons,List.flatten_cons,List.length_append,List.length_append,List.length_cons,Nat.succ_mul]
      omega
  intro xs h
  cases xs with
  | nil => exact Nat.zero_le _
  | cons x r =>
    rw [Lib.join_cons,List.length_append,List.length_cons,Nat.succ_mul]
    have h1:=h x List.mem_cons_self
    have h2:=tail r (fun y hy => h y (List.mem_cons_of_mem _ hy))
    omega


def joinB (xs:List ByteArray) (sep:ByteArray):ByteArray:=⟨(Lib.join (xs.map (·.data.toList)) sep.data.toList).toArray⟩
theorem Join_any (xs:List ByteArray) (sep:ByteArray) (hn:xs.length ≤ 1000) (hl:(Lib.join (xs.map (·.data.toList)) sep.data.toList).length ≤ 140737488355328) (W:World) (base:Nat) (ok:Nat → Prop) (A:Option Addr) (c:Nat) (hR:Kd.R Kd.string 9 W base ok (.slice A xs.length c) xs) :
    Calls Tryz.prog 106 #[.slice A xs.length c,.string sep] W fun e w' => e = .returned (.string (joinB xs sep)) ∧ Below W.heap.size W w':=by
  rcases Nat.eq_zero_or_pos xs.length with h0 | h0
  · have hx:xs = []:=List.eq_nil_of_length_eq_zero h0
    subst hx
    refine (Tryz.strings_Join_none A c sep W).mono ?_
    rintro e w' ⟨rfl,rfl⟩
    exact ⟨rfl,Below.refl _ _⟩
  · obtain ⟨g,c',e,gb,gl,cl,HG⟩:=Kd.R_form hR h0
    injection e with e1 e2 e3
    subst e1
    have hr:=(Kd.R_reads' hR).2.2
    exact Tryz.strings_Join g 0 c xs sep W (fun j x hj => by
      obtain ⟨hjl,hjx⟩:=List.getElem?_eq_some_iff.1 hj
      obtain ⟨ad,ea,hx⟩:=Kd.at_string hr (j:Int) (by omega) (by omega)
      cases ea
      rw [Int.toNat_natCast] at hx
      have hq:rdOf ByteArray.empty xs (j:Int) = x:=by unfold rdOf; rw [Int.toNat_natCast,List.getD_eq_getElem?_getD,hj]; rfl
      rw [hq] at hx
      rw [Nat.zero_add]
      first | exact hx | simpa [add_plain] using hx) gl (by omega) (Kd.R_reads' hR).2.1 hl


theorem figE_level (gw gh x y r:Int) (g3 g7:Nat) (W:World) (h1:W.cell? ⟨g3,0,none⟩ = some (.int .i64 gw)) (h2:W.cell? ⟨g3,1,none⟩ = some (.int .i64 gh)) (h3:W.cell? ⟨g7,0,none⟩ = some (.int .i64 y)) (hr:impl_grid_level.f gw gh x y = some r) :
    Calls Tryz.prog 102 #[.int .i64 x,.pointer (some ⟨g3,0,none⟩),.pointer (some ⟨g7,0,none⟩)] W fun e w' => e = .returned (.int .u64 r) ∧ Below W.heap.size W w':=by
  have HR:=am_ hr
  clear hr
  go_enter Tryz.func102,Tryz.ntmps102
  go_wp2_with (go_at_call 103; refine (impl_grid_level.calls _ _ _ _ _ _ HR.out).mono ?_; rintro e w1 ⟨rfl,hb1⟩)
  go_ret
  exact ⟨rfl,hb1⟩
theorem figE_upright (gw gh x y r:Int) (g3 g7:Nat) (W:World) (h1:W.cell? ⟨g3,0,none⟩ = some (.int .i64 gw)) (h2:W.cell? ⟨g3,1,none⟩ = some (.int .i64 gh)) (h3:W.cell? ⟨g7,0,none⟩ = some (.int .i64 y)) (hr:impl_grid_upright.f gw gh x y = some r) :
    Calls Tryz.prog 104 #[.int .i64 x,.pointer (some ⟨g3,0,none⟩),.pointer (some ⟨g7,0,none⟩)] W fun e w' => e = .returned (.int .u64 r) ∧ Below W.heap.size W w':=by
  have HR:=am_ hr
  clear hr
  go_enter Tryz.func104,Tryz.ntmps104
  go_wp2_with (go_at_call 105; refine (impl_grid_upright.calls _ _ _ _ _ _ HR.out).mono ?_; rintro e w1 ⟨rfl,hb1⟩)
  go_ret
  exact ⟨rfl,hb1⟩
def FInv (Bo base:Nat) (acc:List ByteArray) (O:Nat → Prop) (W:World):Prop :=
  ∃ v,W.cell? ⟨Bo,0,none⟩ = some v ∧ W.frozen? ⟨Bo,0,none⟩ = false ∧ Kd.R Kd.string 9 W base (fun k => k ≠ Bo) v acc ∧ ∀ k,O k ↔ k = Bo ∨ some k = v.ownBlock
theorem lit1F (W:World) (s:ByteArray):Kd.C Kd.string (W.alloc (.cells #[.string s] 9)) (some ⟨W.heap.size,0,none⟩) 1 [s]:=by
  refine Kd.C_of_reads (enc:=Value.string) (d:=ByteArray.empty) (h1:=fun _ => rfl) ⟨rfl,by omega,fun _ => ⟨_,rfl,fun j hj => ?_⟩⟩
  obtain rfl:j = 0:=by omega
  exact World.cell?_alloc_at _ _ _ _ rfl
def rowF (sign:Int) (bt:Nat → Bool) (n:Nat):List Int:=(List.range n).map fun x => if bt x = true then sign else 46
theorem rowF_len (sign:Int) (bt:Nat → Bool) (n:Nat):(rowF sign bt n).length = n:=by unfold rowF; rw [List.length_map,List.length_range]
theorem rowF_yes (sign:Int) (bt:Nat → Bool) (n:Nat) (h:bt n = true):rowF sign bt n ++ [sign] = rowF sign bt (n + 1):=by unfold rowF; rw [List.range_succ,List.map_append,List.map_cons,List.map_nil,if_pos h]
theorem rowF_no (sign:Int) (bt:Nat → Bool) (n:Nat) (h:bt n = false):rowF sign bt n ++ [46] = rowF sign bt (n + 1):=by unfold rowF; rw [List.range_succ,List.map_append,List.map_cons,List.map_nil,if_neg (by rw [h]; decide)]
set_option maxRecDepth 100000 in
set_option maxHeartbeats 8000000 in
theorem figRow_any (Bo Bs base:Nat) (hbo:base ≤ Bo) (S sign:Int) (n:Nat) (hn:n ≤ 5) (bt:Nat → Bool) (ge:Nat) (cap:Array Value) (E:Nat → Int) (hE:∀ x,x < n → (Go.bits .and .u64 S (E x) != 0) = bt x)
    (eg:∀ args w,(callFunc ge args).run Tryz.prog w = .ok (.enter ge args) w) (acc:List ByteArray) (O:Nat → Prop) (w:World) (hlen:acc.length < 1000) (hI:FInv Bo base acc O w) (hS:w.cell? ⟨Bs,0,none⟩ = some (.int .u64 S))
    (hC:∀ W,Below w.heap.size w W → ∀ x:Nat,x < n → Calls Tryz.prog ge (#[.int .i64 (x:Int)] ++ cap) W fun e w' => e = .returned (.int .u64 (E x)) ∧ Below W.heap.size W w') :
    Calls Tryz.prog 101 #[.int .i64 (n:Int),.int .u8 sign,.func (.func ge) #[] cap,.pointer (some ⟨Bs,0,none⟩),.pointer (some ⟨Bo,0,none⟩)] w fun e w' => e = .returned (.tuple #[]) ∧ ∃ O',FInv Bo base (acc ++ [strOfNums (rowF sign bt n)]) O' w' ∧ FrameBut O w w' ∧ ∀ k,O' k → O k ∨ w.heap.size ≤ k:=by
  obtain ⟨v,c1,f1,hR,hO⟩:=hI
  have b1:Bo < w.heap.size:=wl_ w _ c1
  have hnv:some Bo ≠ v.ownBlock:=fun h => hR.1 Bo h.symm rfl
  have HR:=am_ hR
  have HO:=am_ hO
  have HL:=am_ hlen
  have HE:=am_ hE
  have HC:=am_ hC
  have HS:=am_ hS
  have HN:=am_ hn
  have HK1:=am_ c1
  have HK2:=am_ f1
  have HNV:=am_ hnv
  have HLT:=am_ b1
  have HBB:=am_ hbo
  have hi5:(Tryz.prog.info? 5).map (fun i => (i.zero,i.size,i.bytes)) = some (some (.int .u8 0),1,1):=by kernel_rfl
  have hi9:(Tryz.prog.info? 9).map (fun i => (i.zero,i.size,i.bytes)) = some (some (.string ByteArray.empty),1,16):=by kernel_rfl
  have R0:Aside0 (Kd.R (Kd.int .u8) 5 (w.alloc (.cells #[] 5)) w.heap.size (fun _ => True) (.slice (some ⟨w.heap.size,0,none⟩) 0 0) (rowF sign bt 0)):=⟨Kd.R_mono (R_lit0 (Kd.int .u8) 5 w w.heap.size (Nat.le_refl _)) (fun _ _ => trivial)⟩
  have B0:=am_ (below_alloc (Below.refl w.heap.size w) (.cells #[] 5))
  clear hR hO hlen hE hC hS hn c1 f1 b1 hnv hbo
  go_enter Tryz.func101,Tryz.ntmps101
  go_wp2_with fail
  go_loopg [8,12] n (fun gg u8 u12 wr => ∃ i:Nat,i ≤ n ∧ n - i ≤ gg ∧ u12 = .int .i64 i ∧ Aside0 (Kd.R (Kd.int .u8) 5 wr w.heap.size (fun _ => True) u8 (rowF sign bt i)) ∧ Aside0 (Below w.heap.size w wr))
  case atStart => exact ⟨0,Nat.zero_le _,by omega,rfl,R0,B0⟩
  case round =>
    clear R0 B0
    obtain ⟨i,hi,hgg,rfl,HU,HB⟩:=hrel
    by_cases hlt:i < n
    · have hltz:(i:Int) < (n:Int):=by omega
      have HCX:=am_ (fun W hW => HC.out W hW i hlt)
      have hEx:=HE.out i hlt
      have hB2:(Go.bits .and .u64 S (E i) == 0) = !bt i:=by rw [← hEx]; unfold bne; rw [Bool.not_not]
      have HLU:Aside0 ((rowF sign bt i).length < 10):=⟨by rw [rowF_len]; have:=HN.out; omega⟩
      have HY:=am_ (rowF_yes sign bt i)
      have HZ:=am_ (rowF_no sign bt i)
      have hsc:wr.cell? ⟨Bs,0,none⟩ = some (.int .u64 S):=pw_cell_below HB.out HS.out
      generalize E i = Ei at HCX hEx hB2
      go_wp2_with fail
      have tok0:True:=trivial
      go_region_held3 (fun w' => w'.cell? ⟨Bs,0,none⟩ = some (.int .u64 S))
        (first | (exact hsc) | (exact pw_cell_below hbA (by assumption)))
        ((go_at_fn ge; have _t:=tok0; refine (HCX.out _ ?xB).mono ?_; (case xB => first | exact HB.out | exact below_drew1 HB.out); rintro e wA ⟨rfl,hbA⟩; clear _t tok0))
      have HBA:Aside0 (Below w.heap.size w wA):=⟨below_step (below_drew1 HB.out) hbA⟩
      have HUA:Aside0 (Kd.R (Kd.int .u8) 5 wA w.heap.size (fun _ => True) u8 (rowF sign bt i)):=⟨Kd.R_below (Kd.R_drew HU.out) hbA⟩
      clear hbA hsc HB HU HCX hEx hB2
      cases hbt:bt i with
      | true =>
        have HY2:=am_ (HY.out hbt)
        clear hbt HY HZ
        go_wp2_with ((at_builtin; refine Kd.R_append_row (w0:=w) (h1:=fun _ => rfl) (Value.int .u8) (0:Int) w.heap.size rfl _ _ _ _ _ 1 rfl Tryz.underlying117 hi5 rfl (by decide) u8 (rowF sign bt i) [sign] _ 1 _ (fun _ => True) rfl rfl (fun _ _ => trivial) ?xA ?xB ?xC ?xD ?xE ?_; (case xA => exact Kd.R_alloc HUA.out _); (case xB => exact lit1_C (Value.int .u8) (fun _ => rfl) 5 wA _); (case xC => exact below_alloc HBA.out _); (case xD => have h_:=HBA.out.size; (try simp); omega); (case xE => have h_:=HLU.out; (try simp only [List.length_append,List.length_cons,List.length_nil]); omega); intro v1 w1 ho hb hg hat; rw [HY2.out] at ho; have HO1:=am_ ho; have HB1:=am_ hb; clear ho hb hg hat))
        go_roundg (n - (i + 1))
        case measure => omega
        case rel => exact ⟨i + 1,by omega,by omega,by have hn5:=HN.out; exact congrArg _ (show wrap64 ((i:Int) + 1) = ((i + 1:Nat):Int) by unfold wrap64; omega),HO1,HB1⟩
      | false =>
        have HY2:=am_ (HZ.out hbt)
        clear hbt HY HZ
        go_wp2_with ((at_builtin; refine Kd.R_append_row (w0:=w) (h1:=fun _ => rfl) (Value.int .u8) (0:Int) w.heap.size rfl _ _ _ _ _ 1 rfl Tryz.underlying117 hi5 rfl (by decide) u8 (rowF sign bt i) [46] _ 1 _ (fun _ => True) rfl rfl (fun _ _ => trivial) ?xA ?xB ?xC ?xD ?xE ?_; (case xA => exact Kd.R_alloc HUA.out _); (case xB => exact lit1_C (Value.int .u8) (fun _ => rfl) 5 wA _); (case xC => exact below_alloc HBA.out _); (case xD => have h_:=HBA.out.size; (try simp); omega); (case xE => have h_:=HLU.out; (try simp only [List.length_append,List.length_cons,List.length_nil]); omega); intro v1 w1 ho hb hg hat; rw [HY2.out] at ho; have HO1:=am_ ho; have HB1:=am_ hb; clear ho hb hg hat))
        go_roundg (n - (i + 1))
        case measure => omega
        case rel => exact ⟨i + 1,by omega,by omega,by have hn5:=HN.out; exact congrArg _ (show wrap64 ((i:Int) + 1) = ((i + 1:Nat):Int) by unfold wrap64; omega),HO1,HB1⟩
    · have hltz:¬ (i:Int) < (n:Int):=by omega
      obtain rfl:i = n:=by omega
      obtain ⟨A8,c8,rfl⟩:=Kd.R_slice HU.out
      have hcv:(convert 117 9 (.slice A8 (rowF sign bt i).length c8)).run Tryz.prog wr = .ok (.string (strOfNums (rowF sign bt i))) wr:=own_string Tryz.underlying117 Tryz.underlying5 Tryz.underlying9 (Kd.own_of_R HU.out)
      generalize hstr:strOfNums (rowF sign bt i) = str at hcv
      have hco:wr.cell? ⟨Bo,0,none⟩ = some v:=pw_cell_below HB.out HK1.out
      have hfo:wr.frozen? ⟨Bo,0,none⟩ = false:=(World.frozen?_of_block (w:=w) (a:=⟨Bo,0,none⟩) (HB.out.block Bo HLT.out)).trans HK2.out
      have HRw:=am_ (Kd.R_below HR.out (HB.out))
      have HBB2:Aside0 (base ≤ w.heap.size):=⟨by have:=HBB.out; have:=HLT.out; omega⟩
      have HBo:Aside0 (Bo < wr.heap.size):=⟨by have:=HB.out.size; have:=HLT.out; omega⟩
      have HLN:Aside0 ((acc ++ [str]).length = acc.length + 1):=⟨by simp⟩
      have HBA:Aside0 (∀ o,Bo < (wr.alloc o).heap.size):=⟨fun o => by simp; have:=HBo.out; omega⟩
      clear HU
      go_wp2_with ((at_builtin; refine Kd.R_append_row (w0:=w) (h1:=fun _ => rfl) Value.string ByteArray.empty base rfl _ _ _ _ _ 16 rfl Tryz.underlying82 hi9 rfl (by decide) v acc [str] _ 1 _ (fun k => k ≠ Bo) rfl rfl ?xF ?xA ?xB ?xC ?xD ?xE ?_; (case xF => exact fun k hk => by have h_:=HBo.out; simp at hk; omega); (case xA => exact Kd.R_alloc HRw.out _); (case xB => exact lit1F wr str); (case xC => exact (below_alloc HB.out _).mono HBB2.out); (case xD => have h_:=HB.out.size; simp; have:=HBB2.out; omega); (case xE => have h_:=HL.out; (try simp); omega); intro v1 w1 ho hb hg hat; obtain ⟨A1,d1,rfl⟩:=Kd.R_slice ho; have cx:w1.cell? ⟨Bo,0,none⟩ = some v:=YtehjfaddhmdicaaGreatDoorW.PrintWords.cell_grown hg ((World.cell?_alloc_lt _ _ _ HBo.out).trans hco) HNV.out; have fx:w1.frozen? ⟨Bo,0,none⟩ = false:=(World.frozen?_of_block (a:=⟨Bo,0,none⟩) (hg.block Bo (HBA.out _) HNV.out)).trans ((World.frozen?_of_block (w:=wr) (a:=⟨Bo,0,none⟩) (Below.heap_alloc _ _ _ HBo.out)).trans hfo); have HO1:=am_ ho; have HB1:=am_ hb; have HG1:=am_ hg; have HA1:=am_ hat; clear ho hb hg hat))
      refine bodyPost_end (v:=.tuple #[]) (by simp [results,Tryz.results101,go_sem]) rfl ⟨rfl,fun k => k = Bo ∨ some k = (Value.slice A1 (acc ++ [str]).length d1).ownBlock,⟨_,?_,?_,?_,fun k => Iff.rfl⟩,?_,fun k hk => ?_⟩
      · rw [HLN.out]; apply World.cell?_setCell_same; exact cx
      · rw [World.frozen?_setCell]; exact fx
      · first | exact Kd.R_far (p:=⟨Bo,0,none⟩) HO1.out (fun k hk => hk) _ | (rw [hstr]; exact Kd.R_far (p:=⟨Bo,0,none⟩) HO1.out (fun k hk => hk) _)
      · exact ((((FrameBut.of_below HB.out).alloc _).grown HG1.out (fun k hk => .inl ((HO.out k).2 (.inr hk.symm)))).setCell (.inl ((HO.out Bo).2 (.inl rfl))) _)
      · rcases hk with hk | hk
        · exact .inl ((HO.out k).2 (.inl hk))
        · rcases HA1.out with h | ⟨b,h,hb⟩
          · exact .inl ((HO.out k).2 (.inr (hk.trans h)))
          · rw [h] at hk
            cases hk
            have h_:=HB.out.size
            exact .inr (by simp at hb; omega)
def figT_T1:Bool × List (List Nat × List Nat):=(true,[([],[]),([0],[0]),([],[]),([2,1],[2]),([],[]),([],[]),([],[]),([],[]),([5,1,3,0,1,5,6,7],[1,5]),([6,3,8,0,1,2,3,5,6,7,8],[3,6]),([7,4,9,0,1,2,3,4,5,6,7,8,9],[4,7])])
def figT_B1:List Nat:=[0,1,0,7,0,0,0,0,239,495,1023]
theorem figT_tab1:rtab .any (opsOf Tryz.f77 1) = figT_T1:=by kernel_rfl
theorem figT_bits1:waitsOk figT_T1.2 figT_B1 = true:=by kernel_rfl
theorem FInv.move {Bo base:Nat} {acc:List ByteArray} {O:Nat → Prop} {W W':World} (hI:FInv Bo base acc O W) (hk:∀ k,O k → W'.heap[k]? = W.heap[k]?):FInv Bo base acc O W':=by
  obtain ⟨v,c1,f1,hR,hO⟩:=hI
  have hm:=hk Bo ((hO Bo).2 (.inl rfl))
  exact ⟨v,(World.cell?_of_block (w:=W) (a:=⟨Bo,0,none⟩) hm).trans c1,(World.frozen?_of_block (w:=W) (a:=⟨Bo,0,none⟩) hm).trans f1,Kd.R_mono (Kd.R_move (Kd.R_tight rfl hR) (fun k h => hk k ((hO k).2 (.inr h)))) (fun k h => hR.1 k h.symm),hO⟩
theorem FInv.lt {Bo base:Nat} {acc:List ByteArray} {O:Nat → Prop} {W:World} (hI:FInv Bo base acc O W):∀ k,O k → k < W.heap.size:=by
  intro k hk
  obtain ⟨v,c1,f1,hR,hO⟩:=hI
  rcases (hO k).1 hk with rfl | h
  · exact wl_ W _ c1
  · exact Kd.R_lt hR k h.symm
theorem FInv.ge {Bo base:Nat} {acc:List ByteArray} {O:Nat → Prop} {W:World} (hI:FInv Bo base acc O W) (hb:base ≤ Bo):∀ k,O k → base ≤ k:=by
  intro k hk
  obtain ⟨v,c1,f1,hR,hO⟩:=hI
  rcases (hO k).1 hk with rfl | h
  · exact hb
  · exact Kd.R_base hR k h.symm
def levB (gw gh:Nat) (S:Int) (y x:Nat):Bool:=Go.bits .and .u64 S ((impl_grid_level.f (gw:Int) (gh:Int) (x:Int) (y:Int)).getD 0) != 0
def uprB (gw gh:Nat) (S:Int) (y x:Nat):Bool:=Go.bits .and .u64 S ((impl_grid_upright.f (gw:Int) (gh:Int) (x:Int) (y:Int)).getD 0) != 0
def levR (gw gh:Nat) (S:Int) (y:Nat):ByteArray:=strOfNums (rowF 45 (levB gw gh S y) gw)
def uprR (gw gh:Nat) (S:Int) (y:Nat):ByteArray:=strOfNums (rowF 124 (uprB gw gh S y) (gw + 1))
def figRows (gw gh:Nat) (S:Int):Nat → List ByteArray
  | 0 => []
  | y + 1 => if y < gh then (figRows gw gh S y ++ [levR gw gh S y]) ++ [uprR gw gh S y] else figRows gw gh S y ++ [levR gw gh S y]
theorem figRows_len (gw gh:Nat) (S:Int):∀ y,(figRows gw gh S y).length ≤ 2 * y
  | 0 => Nat.le_refl _
  | y + 1 => by
    have:=figRows_len gw gh S y
    unfold figRows
    split
    · simp only [List.length_append,List.length_singleton]; omega
    · simp only [List.length_append,List.length_singleton]; omega
def FSt (w:World) (g5:Nat) (K:Nat → Nat → Value → Prop) (acc:List ByteArray) (W:World):Prop:=(∃ O,FInv g5 w.heap.size acc O W ∧ ∀ b i v,K b i v → W.cell? ⟨b,i,none⟩ = some v ∧ ¬ O b) ∧ Below w.heap.size w W
theorem FSt.cell {w:World} {g5:Nat} {K:Nat → Nat → Value → Prop} {acc:List ByteArray} {W:World} (h:FSt w g5 K acc W) {b i:Nat} {v:Value} (hk:K b i v):W.cell? ⟨b,i,none⟩ = some v:=by
  obtain ⟨⟨O,-,hK⟩,-⟩:=h
  exact (hK b i v hk).1
theorem FSt.weak {w:World} {g5:Nat} {K K':Nat → Nat → Value → Prop} {acc:List ByteArray} {W:World} (h:FSt w g5 K acc W) (hk:∀ b i v,K' b i v → K b i v):FSt w g5 K' acc W:=by
  obtain ⟨⟨O,hI,hK⟩,hB⟩:=h
  exact ⟨⟨O,hI,fun b i v q => hK b i v (hk b i v q)⟩,hB⟩
theorem FSt.grow {w:World} {g5:Nat} {K:Nat → Nat → Value → Prop} {acc:List ByteArray} {W:World} (h:FSt w g5 K acc W) (t:TypeId) (u:Value):FSt w g5 (fun b i v => K b i v ∨ (b = W.heap.size ∧ i = 0 ∧ v = u)) acc (W.alloc (.cells #[u] t (0,0))):=by
  obtain ⟨⟨O,hI,hK⟩,hB⟩:=h
  have F:FrameBut (fun _ => False) W (W.alloc (.cells #[u] t (0,0))):=(FrameBut.refl _ W).alloc _
  refine ⟨⟨O,hI.move (fun k hk => F.block k (hI.lt k hk) id),fun b i v q => ?_⟩,hB.trans (F.toBelow hB.size (fun _ _ => id))⟩
  rcases q with q | ⟨rfl,rfl,rfl⟩
  · exact ⟨F.cell (hK b i v q).1 id,(hK b i v q).2⟩
  · exact ⟨(bc_ (blk_new W _) 0).trans rfl,fun q => absurd (hI.lt _ q) (Nat.lt_irrefl _)⟩
theorem FSt.row {w:World} {g5:Nat} {K:Nat → Nat → Value → Prop} {acc:List ByteArray} {W:World} (h:FSt w g5 K acc W) (hg5:w.heap.size ≤ g5) (Bs:Nat) (S sign:Int) (hS:K Bs 0 (.int .u64 S)) (n:Nat) (hn:n ≤ 5) (bt:Nat → Bool) (ge:Nat) (cap:Array Value) (E:Nat → Int) (hE:∀ x,x < n → (Go.bits .and .u64 S (E x) != 0) = bt x)
    (eg:∀ args w,(callFunc ge args).run Tryz.prog w = .ok (.enter ge args) w) (hlen:acc.length < 1000)
    (hC:∀ W',(∀ b i v,K b i v → W'.cell? ⟨b,i,none⟩ = some v) → ∀ x:Nat,x < n → Calls Tryz.prog ge (#[.int .i64 (x:Int)] ++ cap) W' fun e w' => e = .returned (.int .u64 (E x)) ∧ Below W'.heap.size W' w') :
    Calls Tryz.prog 101 #[.int .i64 (n:Int),.int .u8 sign,.func (.func ge) #[] cap,.pointer (some ⟨Bs,0,none⟩),.pointer (some ⟨g5,0,none⟩)] W fun e w' => e = .returned (.tuple #[]) ∧ FSt w g5 K (acc ++ [strOfNums (rowF sign bt n)]) w':=by
  obtain ⟨⟨O,hI,hK⟩,hB⟩:=h
  refine (figRow_any g5 Bs w.heap.size hg5 S sign n hn bt ge cap E hE eg acc O W hlen hI (hK _ _ _ hS).1 (fun W' hW => hC W' (fun b i v q => pw_cell_below hW (hK b i v q).1))).mono ?_
  rintro e w' ⟨rfl,O',hI',hF,hO'⟩
  refine ⟨rfl,⟨O',hI',fun b i v q => ⟨hF.cell (hK b i v q).1 (hK b i v q).2,fun q2 => ?_⟩⟩,hB.trans (hF.toBelow hB.size (fun k hk q => ?_))⟩
  · rcases hO' _ q2 with q3 | q3
    · exact (hK b i v q).2 q3
    · exact absurd (wl_ W _ (hK b i v q).1) (Nat.not_lt.2 q3)
  · have:=hI.ge hg5 k q
    omega
def K34 (g3 g4:Nat) (gw gh:Nat) (S:Int) (b i:Nat) (v:Value):Prop:=(b = g3 ∧ i = 0 ∧ v = .int .i64 (gw:Int)) ∨ (b = g3 ∧ i = 1 ∧ v = .int .i64 (gh:Int)) ∨ (b = g4 ∧ i = 0 ∧ v = .int .u64 S)
set_option maxRecDepth 100000 in
set_option maxHeartbeats 16000000 in
theorem figText_main (gw gh:Nat) (hgw:gw ≤ 4) (hgh:gh ≤ 4) (A2 A3:Option Addr) (c2 c3:Nat) (l2 l3:List Int) (S:Int) (w:World)
    (hGR:∀ W',Below w.heap.size w W' → Calls Tryz.prog 41 #[.agg #[.int .i64 gw,.int .i64 gh,.slice A2 l2.length c2,.slice A3 l3.length c3]] W' fun e w' => e = .returned (.agg #[.int .i64 gw,.int .i64 gh]) ∧ Below W'.heap.size W' w')
    (hSE:∀ W',Below w.heap.size w W' → Calls Tryz.prog 79 #[.agg #[.int .i64 gw,.int .i64 gh,.slice A2 l2.length c2,.slice A3 l3.length c3]] W' fun e w' => e = .returned (.int .u64 S) ∧ Below W'.heap.size W' w')
    (hLV:∀ x y:Nat,x < gw → y ≤ gh → impl_grid_level.f (gw:Int) (gh:Int) (x:Int) (y:Int) = some ((impl_grid_level.f (gw:Int) (gh:Int) (x:Int) (y:Int)).getD 0))
    (hUV:∀ x y:Nat,x ≤ gw → y < gh → impl_grid_upright.f (gw:Int) (gh:Int) (x:Int) (y:Int) = some ((impl_grid_upright.f (gw:Int) (gh:Int) (x:Int) (y:Int)).getD 0))
    (J:List ByteArray → ByteArray) (hJ:∀ (W:World) (base:Nat) (ok:Nat → Prop) (A:Option Addr) (c:Nat),Kd.R Kd.string 9 W base ok (.slice A (figRows gw gh S (gh + 1)).length c) (figRows gw gh S (gh + 1)) → Calls Tryz.prog 106 #[.slice A (figRows gw gh S (gh + 1)).length c,.string ⟨#[47]⟩] W fun e w' => e = .returned (.string (J (figRows gw gh S (gh + 1)))) ∧ Below W.heap.size W w') :
    Calls Tryz.prog 77 #[.agg #[.int .i64 gw,.int .i64 gh,.slice A2 l2.length c2,.slice A3 l3.length c3]] w fun e w' => e = .returned (.string (J (figRows gw gh S (gh + 1)))) ∧ Below w.heap.size w w':=by
  have HLV:=am_ hLV
  have HUV:=am_ hUV
  have HJ:=am_ hJ
  clear hLV hUV hJ
  have HGR0:=am_ hGR
  have HSE0:=am_ hSE
  have eg1:∀ args w,(callFunc 101 args).run Tryz.prog w = .ok (.enter 101 args) w:=Go.Proofs.enters_of Tryz.func101 (by kernel_rfl) rfl
  have eg2:∀ args w,(callFunc 102 args).run Tryz.prog w = .ok (.enter 102 args) w:=Go.Proofs.enters_of Tryz.func102 (by kernel_rfl) rfl
  have eg3:∀ args w,(callFunc 104 args).run Tryz.prog w = .ok (.enter 104 args) w:=Go.Proofs.enters_of Tryz.func104 (by kernel_rfl) rfl
  have hmf:∀ (fn:Fn) (first cap:Array Value) (w:World),(Instr.makeFunc fn first cap).run Tryz.prog w = .ok (.func fn first cap) w:=fun _ _ _ _ => rfl
  clear hGR hSE
  go_enter Tryz.func77,Tryz.ntmps77
  go_wp2_with fail
  have HX0:Aside0 ((w.alloc (.cells #[.int .i64 gw,.int .i64 gh,.slice A2 l2.length c2,.slice A3 l3.length c3] 26 (0,0))).cell? ⟨w.heap.size,0,none⟩ = some (.int .i64 gw) ∧ (w.alloc (.cells #[.int .i64 gw,.int .i64 gh,.slice A2 l2.length c2,.slice A3 l3.length c3] 26 (0,0))).cell? ⟨w.heap.size,1,none⟩ = some (.int .i64 gh) ∧ (w.alloc (.cells #[.int .i64 gw,.int .i64 gh,.slice A2 l2.length c2,.slice A3 l3.length c3] 26 (0,0))).cell? ⟨w.heap.size,2,none⟩ = some (.slice A2 l2.length c2) ∧ (w.alloc (.cells #[.int .i64 gw,.int .i64 gh,.slice A2 l2.length c2,.slice A3 l3.length c3] 26 (0,0))).cell? ⟨w.heap.size,3,none⟩ = some (.slice A3 l3.length c3)):=⟨⟨by go_simp,by go_simp,by go_simp,by go_simp⟩⟩
  have HB0:=am_ (below_alloc (Below.refl w.heap.size w) (.cells #[.int .i64 gw,.int .i64 gh,.slice A2 l2.length c2,.slice A3 l3.length c3] 26 (0,0)))
  generalize w.alloc (.cells #[.int .i64 gw,.int .i64 gh,.slice A2 l2.length c2,.slice A3 l3.length c3] 26 (0,0)) = W4 at HX0 HB0 ⊢
  have HGR:Aside0 (∀ W',Below W4.drew.heap.size W4.drew W' → _):=⟨fun W' h => HGR0.out W' (below_step (below_drew1 HB0.out) h)⟩
  have HSE:Aside0 (∀ W',Below W4.drew.heap.size W4.drew W' → _):=⟨fun W' h => HSE0.out W' (below_step (below_drew1 HB0.out) h)⟩
  have HX:Aside0 (W4.drew.cell? ⟨w.heap.size,0,none⟩ = some (.int .i64 gw) ∧ W4.drew.cell? ⟨w.heap.size,1,none⟩ = some (.int .i64 gh) ∧ W4.drew.cell? ⟨w.heap.size,2,none⟩ = some (.slice A2 l2.length c2) ∧ W4.drew.cell? ⟨w.heap.size,3,none⟩ = some (.slice A3 l3.length c3)):=⟨HX0.out⟩
  have HB5:=am_ (below_drew1 HB0.out)
  have HB:=am_ (Below.refl W4.drew.heap.size W4.drew)
  clear HX0 HGR0 HSE0 HB0
  refine start_ (n:=11) (S:=fun w' => True) (ds:=[]) #[false,false,false,false,false,false,false,false,false,false,false] (by kernel_rfl) rfl rfl trivial (fun hHeld => ?_)
  generalize W4.drew = W5 at HGR HSE HX HB5 HB hHeld ⊢
  refine with_tabW figT_tab1 figT_bits1 (fun HT_ HW_ => ?_)
  refine inv_at [0,1,2,3,4,5,6,7,8,9,10] (fun a0_ b a w' => ∃ (g3:Nat) (g4:Nat) (g5:Nat) (g12:Nat) (m4_:Value) (m5_:Value) (m6_:Value) (m7_:Value),a = putSel a0_ b [(0,8,.agg #[.int .i64 gw,.int .i64 gh,.slice A2 l2.length c2,.slice A3 l3.length c3]),(1,9,.agg #[.int .i64 gw,.int .i64 gh]),(2,10,.agg #[.int .i64 gw,.int .i64 gh,.slice A2 l2.length c2,.slice A3 l3.length c3]),(3,11,.int .u64 S),(4,12,m4_),(5,3,m5_),(6,4,m6_),(7,5,m7_)] ∧ (Below W5.heap.size W5 w') ∧ (b 5 = true → b 8 = false → w'.heap[g3]? = some (.cells #[.int .i64 0,.int .i64 0] 56 (0,0))) ∧ (b 8 = true → w'.heap[g3]? = some (.cells #[.int .i64 gw,.int .i64 gh] 56 (0,0))) ∧ (b 5 = true → W5.heap.size ≤ g3) ∧ (b 6 = true → b 9 = false → w'.heap[g4]? = some (.cells #[.int .u64 0] 72 (0,0))) ∧ (b 9 = true → w'.heap[g4]? = some (.cells #[.int .u64 S] 72 (0,0))) ∧ (b 6 = true → W5.heap.size ≤ g4) ∧ (b 7 = true → b 10 = false → w'.heap[g5]? = some (.cells #[.slice none 0 0] 82 (0,0))) ∧ (b 10 = true → w'.heap[g5]? = some (.cells #[.slice (some ⟨g12,0,none⟩) 0 0] 82 (0,0))) ∧ (b 7 = true → W5.heap.size ≤ g5) ∧ (b 4 = true → (w'.heap[g12]? = some (.cells #[] 9 (0,0))) ∧ W5.heap.size ≤ g12 ∧ Kd.R Kd.string 9 w' W5.heap.size (fun k_ => k_ = g12) (.slice (some ⟨g12,0,none⟩) 0 0) []) ∧ (b 4 = true → (m4_:Value) = .slice (some ⟨g12,0,none⟩) 0 0) ∧ (b 5 = true → (m5_:Value) = .pointer (some ⟨g3,0,none⟩)) ∧ (b 6 = true → (m6_:Value) = .pointer (some ⟨g4,0,none⟩)) ∧ (b 7 = true → (m7_:Value) = .pointer (some ⟨g5,0,none⟩))) HT_.out HW_.out (by kernel_rfl) (by kernel_rfl) ?_ ?_ ?_
  · exact ⟨0,0,0,0,.bool false,.bool false,.bool false,.bool false,by simp only [putSel,Bool.false_eq_true,if_false],HB.out,fun h_ => absurd h_ (by decide),fun h_ => absurd h_ (by decide),fun h_ => absurd h_ (by decide),fun h_ => absurd h_ (by decide),fun h_ => absurd h_ (by decide),fun h_ => absurd h_ (by decide),fun h_ => absurd h_ (by decide),fun h_ => absurd h_ (by decide),fun h_ => absurd h_ (by decide),fun h_ => absurd h_ (by decide),fun h_ => absurd h_ (by decide),fun h_ => absurd h_ (by decide),fun h_ => absurd h_ (by decide),fun h_ => absurd h_ (by decide)⟩
  · skip
    clear HB
    refine steps_cons ?_ ?_
    · rintro b a w' ⟨g3,g4,g5,g12,m4_,m5_,m6_,m7_,ha,Q_HB,Q_H3,Q_H3b,Q_G3,Q_H4,Q_H4b,Q_G4,Q_H5,Q_H5b,Q_G5,Q_HR,Q_X4_,Q_X5_,Q_X6_,Q_X7_⟩ hb_ hon hoff
      refine ⟨_,rfl,fun K hK => ?_⟩
      have e1:a.tmps[1]? = some (.pointer (some ⟨w.heap.size,0,none⟩)):=by rw [ha]; exact (putSel_off rfl).trans rfl
      replace ha:=am_ ha
      have HB:=am_ Q_HB
      have hs0_:=(pw_cell_below HB.out HX.out.1)
      have hs1_:=(pw_cell_below HB.out HX.out.2.1)
      have hs2_:=(pw_cell_below HB.out HX.out.2.2.1)
      have hs3_:=(pw_cell_below HB.out HX.out.2.2.2)
      refine value_ (w1:=w') (v:=.agg #[.int .i64 gw,.int .i64 gh,.slice A2 l2.length c2,.slice A3 l3.length c3]) (by rfl) rfl ?_ ?_
      · go_simp
        (try simp only [i64_w])
        try rfl
      refine hK.out _ _ ⟨g3,g4,g5,g12,m4_,m5_,m6_,m7_,(by rw [ha.out]; exact putSel_upk 0 hb_ rfl rfl rfl),Q_HB,Q_H3,fun h0_ => absurd ((hoff 8 (by kernel_rfl)).symm.trans h0_) (by decide),Q_G3,Q_H4,fun h0_ => absurd ((hoff 9 (by kernel_rfl)).symm.trans h0_) (by decide),Q_G4,Q_H5,fun h0_ => absurd ((hoff 10 (by kernel_rfl)).symm.trans h0_) (by decide),Q_G5,Q_HR,Q_X4_,Q_X5_,Q_X6_,Q_X7_⟩
    refine steps_cons ?_ ?_
    · rintro b a w' ⟨g3,g4,g5,g12,m4_,m5_,m6_,m7_,ha,Q_HB,Q_H3,Q_H3b,Q_G3,Q_H4,Q_H4b,Q_G4,Q_H5,Q_H5b,Q_G5,Q_HR,Q_X4_,Q_X5_,Q_X6_,Q_X7_⟩ hb_ hon hoff
      refine ⟨_,rfl,fun K hK => ?_⟩
      have e8:a.tmps[8]? = some (.agg #[.int .i64 gw,.int .i64 gh,.slice A2 l2.length c2,.slice A3 l3.length c3]):=by rw [ha]; exact putSel_on (e:=(0,8,.agg #[.int .i64 gw,.int .i64 gh,.slice A2 l2.length c2,.slice A3 l3.length c3])) 0 rfl rfl (hon 0 (by kernel_rfl)) rfl
      replace ha:=am_ ha
      have HB:=am_ Q_HB
      refine goes_ Tryz.func41 (by kernel_rfl) rfl #[.agg #[.int .i64 gw,.int .i64 gh,.slice A2 l2.length c2,.slice A3 l3.length c3]] (by rfl) rfl rfl (by first | (simp only [List.map_toArray,List.map_cons,List.map_nil,Act.eval,Array.getD_eq_getD_getElem?,Option.getD_some,e8]; done) | (simp only [List.map_toArray,List.map_cons,List.map_nil,Act.eval,Array.getD_eq_getD_getElem?,Option.getD_some,e8]; rfl)) ?_
      refine (HGR.out w' HB.out).mono ?_
      rintro e v6 ⟨rfl,hb⟩
      refine ⟨_,rfl,?_⟩
      refine hK.out _ _ ⟨g3,g4,g5,g12,m4_,m5_,m6_,m7_,(by rw [ha.out]; exact putSel_upk 1 hb_ rfl rfl rfl),below_step HB.out hb,fun h0_ h1_ => blk_below (Q_H3 h0_ h1_) hb,fun h0_ => absurd ((hoff 8 (by kernel_rfl)).symm.trans h0_) (by decide),Q_G3,fun h0_ h1_ => blk_below (Q_H4 h0_ h1_) hb,fun h0_ => absurd ((hoff 9 (by kernel_rfl)).symm.trans h0_) (by decide),Q_G4,fun h0_ h1_ => blk_below (Q_H5 h0_ h1_) hb,fun h0_ => absurd ((hoff 10 (by kernel_rfl)).symm.trans h0_) (by decide),Q_G5,fun h0_ => ⟨blk_below (Q_HR h0_).1 hb,(Q_HR h0_).2.1,Kd.R_below (Q_HR h0_).2.2 hb⟩,Q_X4_,Q_X5_,Q_X6_,Q_X7_⟩
    refine steps_cons ?_ ?_
    · rintro b a w' ⟨g3,g4,g5,g12,m4_,m5_,m6_,m7_,ha,Q_HB,Q_H3,Q_H3b,Q_G3,Q_H4,Q_H4b,Q_G4,Q_H5,Q_H5b,Q_G5,Q_HR,Q_X4_,Q_X5_,Q_X6_,Q_X7_⟩ hb_ hon hoff
      refine ⟨_,rfl,fun K hK => ?_⟩
      have e1:a.tmps[1]? = some (.pointer (some ⟨w.heap.size,0,none⟩)):=by rw [ha]; exact (putSel_off rfl).trans rfl
      replace ha:=am_ ha
      have HB:=am_ Q_HB
      have hs0_:=(pw_cell_below HB.out HX.out.1)
      have hs1_:=(pw_cell_below HB.out HX.out.2.1)
      have hs2_:=(pw_cell_below HB.out HX.out.2.2.1)
      have hs3_:=(pw_cell_below HB.out HX.out.2.2.2)
      refine value_ (w1:=w') (v:=.agg #[.int .i64 gw,.int .i64 gh,.slice A2 l2.length c2,.slice A3 l3.length c3]) (by rfl) rfl ?_ ?_
      · go_simp
        (try simp only [i64_w])
        try rfl
      refine hK.out _ _ ⟨g3,g4,g5,g12,m4_,m5_,m6_,m7_,(by rw [ha.out]; exact putSel_upk 2 hb_ rfl rfl rfl),Q_HB,Q_H3,fun h0_ => absurd ((hoff 8 (by kernel_rfl)).symm.trans h0_) (by decide),Q_G3,Q_H4,fun h0_ => absurd ((hoff 9 (by kernel_rfl)).symm.trans h0_) (by decide),Q_G4,Q_H5,fun h0_ => absurd ((hoff 10 (by kernel_rfl)).symm.trans h0_) (by decide),Q_G5,Q_HR,Q_X4_,Q_X5_,Q_X6_,Q_X7_⟩
    refine steps_cons ?_ ?_
    · rintro b a w' ⟨g3,g4,g5,g12,m4_,m5_,m6_,m7_,ha,Q_HB,Q_H3,Q_H3b,Q_G3,Q_H4,Q_H4b,Q_G4,Q_H5,Q_H5b,Q_G5,Q_HR,Q_X4_,Q_X5_,Q_X6_,Q_X7_⟩ hb_ hon hoff
      refine ⟨_,rfl,fun K hK => ?_⟩
      have e10:a.tmps[10]? = some (.agg #[.int .i64 gw,.int .i64 gh,.slice A2 l2.length c2,.slice A3 l3.length c3]):=by rw [ha]; exact putSel_on (e:=(2,10,.agg #[.int .i64 gw,.int .i64 gh,.slice A2 l2.length c2,.slice A3 l3.length c3])) 2 rfl rfl (hon 2 (by kernel_rfl)) rfl
      replace ha:=am_ ha
      have HB:=am_ Q_HB
      refine goes_ Tryz.func79 (by kernel_rfl) rfl #[.agg #[.int .i64 gw,.int .i64 gh,.slice A2 l2.length c2,.slice A3 l3.length c3]] (by rfl) rfl rfl (by first | (simp only [List.map_toArray,List.map_cons,List.map_nil,Act.eval,Array.getD_eq_getD_getElem?,Option.getD_some,e10]; done) | (simp only [List.map_toArray,List.map_cons,List.map_nil,Act.eval,Array.getD_eq_getD_getElem?,Option.getD_some,e10]; rfl)) ?_
      refine (HSE.out w' HB.out).mono ?_
      rintro e v6 ⟨rfl,hb⟩
      refine ⟨_,rfl,?_⟩
      refine hK.out _ _ ⟨g3,g4,g5,g12,m4_,m5_,m6_,m7_,(by rw [ha.out]; exact putSel_upk 3 hb_ rfl rfl rfl),below_step HB.out hb,fun h0_ h1_ => blk_below (Q_H3 h0_ h1_) hb,fun h0_ => absurd ((hoff 8 (by kernel_rfl)).symm.trans h0_) (by decide),Q_G3,fun h0_ h1_ => blk_below (Q_H4 h0_ h1_) hb,fun h0_ => absurd ((hoff 9 (by kernel_rfl)).symm.trans h0_) (by decide),Q_G4,fun h0_ h1_ => blk_below (Q_H5 h0_ h1_) hb,fun h0_ => absurd ((hoff 10 (by kernel_rfl)).symm.trans h0_) (by decide),Q_G5,fun h0_ => ⟨blk_below (Q_HR h0_).1 hb,(Q_HR h0_).2.1,Kd.R_below (Q_HR h0_).2.2 hb⟩,Q_X4_,Q_X5_,Q_X6_,Q_X7_⟩
    refine steps_cons ?_ ?_
    · rintro b a w' ⟨g3,g4,g5,g12,m4_,m5_,m6_,m7_,ha,Q_HB,Q_H3,Q_H3b,Q_G3,Q_H4,Q_H4b,Q_G4,Q_H5,Q_H5b,Q_G5,Q_HR,Q_X4_,Q_X5_,Q_X6_,Q_X7_⟩ hb_ hon hoff
      refine ⟨_,rfl,fun K hK => ?_⟩
      replace ha:=am_ ha
      have HB:=am_ Q_HB
      refine value_ (w1:=w'.alloc (.cells #[] 9)) (v:=.slice (some ⟨w'.heap.size,0,none⟩) 0 0) (by rfl) rfl ?hrun4 ?hrest4
      case hrun4 =>
        first | (go_simp; done) | (go_simp; rfl)
      have hb:Below w'.heap.size w' (w'.alloc (.cells #[] 9)):=below_alloc (Below.refl _ _) _
      refine hK.out _ _ ⟨g3,g4,g5,w'.heap.size,(.slice (some ⟨w'.heap.size,0,none⟩) 0 0),m5_,m6_,m7_,(by rw [ha.out]; exact putSel_upk 4 hb_ rfl rfl rfl),below_step HB.out hb,fun h0_ h1_ => blk_below (Q_H3 h0_ h1_) hb,fun h0_ => blk_below (Q_H3b h0_) hb,Q_G3,fun h0_ h1_ => blk_below (Q_H4 h0_ h1_) hb,fun h0_ => blk_below (Q_H4b h0_) hb,Q_G4,fun h0_ h1_ => blk_below (Q_H5 h0_ h1_) hb,fun h0_ => absurd ((hoff 10 (by kernel_rfl)).symm.trans h0_) (by decide),Q_G5,fun _ => ⟨heap_alloc_new w' _,HB.out.size,R_lit0 Kd.string 9 w' _ HB.out.size⟩,fun _ => rfl,Q_X5_,Q_X6_,Q_X7_⟩
    refine steps_cons ?_ ?_
    · rintro b a w' ⟨g3,g4,g5,g12,m4_,m5_,m6_,m7_,ha,Q_HB,Q_H3,Q_H3b,Q_G3,Q_H4,Q_H4b,Q_G4,Q_H5,Q_H5b,Q_G5,Q_HR,Q_X4_,Q_X5_,Q_X6_,Q_X7_⟩ hb_ hon hoff
      refine ⟨_,rfl,fun K hK => ?_⟩
      replace ha:=am_ ha
      have HB:=am_ Q_HB
      refine box_step ?hg (N:=3) ?hd (cs:=#[.int .i64 0,.int .i64 0]) (t:=56) ?hr ?_; (case hd => rfl); (case hg => rfl); (case hr => first | (go_simp; done) | (go_simp; rfl))
      intro b3 hg w2 hbox hb
      have hge:W5.heap.size ≤ b3:=by rw [hg]; exact HB.out.size
      refine hK.out _ _ ⟨b3,g4,g5,g12,m4_,(.pointer (some ⟨b3,0,none⟩)),m6_,m7_,(by rw [ha.out]; exact putSel_upk 5 hb_ rfl rfl rfl),below_step HB.out hb,fun _ _ => hbox,fun h0_ => absurd ((hoff 8 (by kernel_rfl)).symm.trans h0_) (by decide),fun _ => hge,fun h0_ h1_ => blk_below (Q_H4 h0_ h1_) hb,fun h0_ => absurd ((hoff 9 (by kernel_rfl)).symm.trans h0_) (by decide),Q_G4,fun h0_ h1_ => blk_below (Q_H5 h0_ h1_) hb,fun h0_ => absurd ((hoff 10 (by kernel_rfl)).symm.trans h0_) (by decide),Q_G5,fun h0_ => ⟨blk_below (Q_HR h0_).1 hb,(Q_HR h0_).2.1,Kd.R_below (Q_HR h0_).2.2 hb⟩,Q_X4_,fun _ => rfl,Q_X6_,Q_X7_⟩
    refine steps_cons ?_ ?_
    · rintro b a w' ⟨g3,g4,g5,g12,m4_,m5_,m6_,m7_,ha,Q_HB,Q_H3,Q_H3b,Q_G3,Q_H4,Q_H4b,Q_G4,Q_H5,Q_H5b,Q_G5,Q_HR,Q_X4_,Q_X5_,Q_X6_,Q_X7_⟩ hb_ hon hoff
      refine ⟨_,rfl,fun K hK => ?_⟩
      replace ha:=am_ ha
      have HB:=am_ Q_HB
      refine box_step ?hg (N:=4) ?hd (cs:=#[.int .u64 0]) (t:=72) ?hr ?_; (case hd => rfl); (case hg => rfl); (case hr => first | (go_simp; done) | (go_simp; rfl))
      intro b4 hg w2 hbox hb
      have hge:W5.heap.size ≤ b4:=by rw [hg]; exact HB.out.size
      refine hK.out _ _ ⟨g3,b4,g5,g12,m4_,m5_,(.pointer (some ⟨b4,0,none⟩)),m7_,(by rw [ha.out]; exact putSel_upk 6 hb_ rfl rfl rfl),below_step HB.out hb,fun h0_ h1_ => blk_below (Q_H3 h0_ h1_) hb,fun h0_ => absurd ((hoff 8 (by kernel_rfl)).symm.trans h0_) (by decide),Q_G3,fun _ _ => hbox,fun h0_ => absurd ((hoff 9 (by kernel_rfl)).symm.trans h0_) (by decide),fun _ => hge,fun h0_ h1_ => blk_below (Q_H5 h0_ h1_) hb,fun h0_ => absurd ((hoff 10 (by kernel_rfl)).symm.trans h0_) (by decide),Q_G5,fun h0_ => ⟨blk_below (Q_HR h0_).1 hb,(Q_HR h0_).2.1,Kd.R_below (Q_HR h0_).2.2 hb⟩,Q_X4_,Q_X5_,fun _ => rfl,Q_X7_⟩
    refine steps_cons ?_ ?_
    · rintro b a w' ⟨g3,g4,g5,g12,m4_,m5_,m6_,m7_,ha,Q_HB,Q_H3,Q_H3b,Q_G3,Q_H4,Q_H4b,Q_G4,Q_H5,Q_H5b,Q_G5,Q_HR,Q_X4_,Q_X5_,Q_X6_,Q_X7_⟩ hb_ hon hoff
      refine ⟨_,rfl,fun K hK => ?_⟩
      replace ha:=am_ ha
      have HB:=am_ Q_HB
      refine box_step ?hg (N:=5) ?hd (cs:=#[.slice none 0 0]) (t:=82) ?hr ?_; (case hd => rfl); (case hg => rfl); (case hr => first | (go_simp; done) | (go_simp; rfl))
      intro b5 hg w2 hbox hb
      have hge:W5.heap.size ≤ b5:=by rw [hg]; exact HB.out.size
      refine hK.out _ _ ⟨g3,g4,b5,g12,m4_,m5_,m6_,(.pointer (some ⟨b5,0,none⟩)),(by rw [ha.out]; exact putSel_upk 7 hb_ rfl rfl rfl),below_step HB.out hb,fun h0_ h1_ => blk_below (Q_H3 h0_ h1_) hb,fun h0_ => absurd ((hoff 8 (by kernel_rfl)).symm.trans h0_) (by decide),Q_G3,fun h0_ h1_ => blk_below (Q_H4 h0_ h1_) hb,fun h0_ => absurd ((hoff 9 (by kernel_rfl)).symm.trans h0_) (by decide),Q_G4,fun _ _ => hbox,fun h0_ => absurd ((hoff 10 (by kernel_rfl)).symm.trans h0_) (by decide),fun _ => hge,fun h0_ => ⟨blk_below (Q_HR h0_).1 hb,(Q_HR h0_).2.1,Kd.R_below (Q_HR h0_).2.2 hb⟩,Q_X4_,Q_X5_,Q_X6_,fun _ => rfl⟩
    refine steps_cons ?_ ?_
    · rintro b a w' ⟨g3,g4,g5,g12,m4_,m5_,m6_,m7_,ha,Q_HB,Q_H3,Q_H3b,Q_G3,Q_H4,Q_H4b,Q_G4,Q_H5,Q_H5b,Q_G5,Q_HR,Q_X4_,Q_X5_,Q_X6_,Q_X7_⟩ hb_ hon hoff
      refine ⟨_,rfl,fun K hK => ?_⟩
      have e3:a.tmps[3]? = some (m5_):=by rw [ha]; exact putSel_on (e:=(5,3,m5_)) 5 rfl rfl (hon 5 (by kernel_rfl)) rfl
      rw [Q_X5_ (hon 5 (by kernel_rfl))] at e3
      have e9:a.tmps[9]? = some (.agg #[.int .i64 gw,.int .i64 gh]):=by rw [ha]; exact putSel_on (e:=(1,9,.agg #[.int .i64 gw,.int .i64 gh])) 1 rfl rfl (hon 1 (by kernel_rfl)) rfl
      replace ha:=am_ ha
      have HB:=am_ Q_HB
      have H3:=am_ (Q_H3 (hon 5 (by kernel_rfl)) hb_)
      have G3:=am_ (Q_G3 (hon 5 (by kernel_rfl)))
      have H4:=am_ (Q_H4 (hon 6 (by kernel_rfl)) (hoff 9 (by kernel_rfl)))
      have G4:=am_ (Q_G4 (hon 6 (by kernel_rfl)))
      have H5:=am_ (Q_H5 (hon 7 (by kernel_rfl)) (hoff 10 (by kernel_rfl)))
      have G5:=am_ (Q_G5 (hon 7 (by kernel_rfl)))
      have hs30:=(bc_ H3.out 0).trans rfl
      have hs31:=(bc_ H3.out 1).trans rfl
      have hf30:=bz_ H3.out 0
      have hf31:=bz_ H3.out 1
      refine skip_ (w1:=(w'.setCell ⟨g3,0,none⟩ (.int .i64 gw)).setCell ⟨g3,1,none⟩ (.int .i64 gh)) (by rfl) rfl ?hrun8 ?hrest8
      case hrun8 =>
        first | (go_simp; done) | (go_simp; rfl)
      have n34:g3 ≠ g4:=fun h_ => blk_ne H3.out H4.out (by decide) h_
      have n35:g3 ≠ g5:=fun h_ => blk_ne H3.out H5.out (by decide) h_
      refine hK.out _ _ ⟨g3,g4,g5,g12,m4_,m5_,m6_,m7_,(by rw [ha.out]; exact putSel_none (v:=undef) rfl),below_set (below_set HB.out G3.out) G3.out,fun _ h1_ => absurd ((up_self b 8).symm.trans h1_) (by decide),fun _ => blk_put (cs:=#[.int .i64 gw,.int .i64 0]) (blk_put (cs:=#[.int .i64 0,.int .i64 0]) H3.out 0 _ rfl) 1 _ rfl,Q_G3,fun _ _ => blk_far (blk_far H4.out n34.symm _) n34.symm _,fun h0_ => absurd ((hoff 9 (by kernel_rfl)).symm.trans h0_) (by decide),Q_G4,fun _ _ => blk_far (blk_far H5.out n35.symm _) n35.symm _,fun h0_ => absurd ((hoff 10 (by kernel_rfl)).symm.trans h0_) (by decide),Q_G5,fun h0_ => ⟨blk_far (blk_far (Q_HR h0_).1 (fun h_ => blk_ne (Q_HR h0_).1 H3.out (by decide) h_) _) (fun h_ => blk_ne (Q_HR h0_).1 H3.out (by decide) h_) _,(Q_HR h0_).2.1,Kd.R_far (p:=⟨g3,1,none⟩) (Kd.R_far (p:=⟨g3,0,none⟩) (Q_HR h0_).2.2 (fun k_ hk_ => hk_ ▸ (fun h_ => blk_ne (Q_HR h0_).1 H3.out (by decide) h_)) _) (fun k_ hk_ => hk_ ▸ (fun h_ => blk_ne (Q_HR h0_).1 H3.out (by decide) h_)) _⟩,Q_X4_,Q_X5_,Q_X6_,Q_X7_⟩
    refine steps_cons ?_ ?_
    · rintro b a w' ⟨g3,g4,g5,g12,m4_,m5_,m6_,m7_,ha,Q_HB,Q_H3,Q_H3b,Q_G3,Q_H4,Q_H4b,Q_G4,Q_H5,Q_H5b,Q_G5,Q_HR,Q_X4_,Q_X5_,Q_X6_,Q_X7_⟩ hb_ hon hoff
      refine ⟨_,rfl,fun K hK => ?_⟩
      have e4:a.tmps[4]? = some (m6_):=by rw [ha]; exact putSel_on (e:=(6,4,m6_)) 6 rfl rfl (hon 6 (by kernel_rfl)) rfl
      rw [Q_X6_ (hon 6 (by kernel_rfl))] at e4
      have e11:a.tmps[11]? = some (.int .u64 S):=by rw [ha]; exact putSel_on (e:=(3,11,.int .u64 S)) 3 rfl rfl (hon 3 (by kernel_rfl)) rfl
      replace ha:=am_ ha
      have HB:=am_ Q_HB
      have H3b:=am_ (Q_H3b (hon 8 (by kernel_rfl)))
      have G3:=am_ (Q_G3 (hon 5 (by kernel_rfl)))
      have H4:=am_ (Q_H4 (hon 6 (by kernel_rfl)) hb_)
      have G4:=am_ (Q_G4 (hon 6 (by kernel_rfl)))
      have H5:=am_ (Q_H5 (hon 7 (by kernel_rfl)) (hoff 10 (by kernel_rfl)))
      have G5:=am_ (Q_G5 (hon 7 (by kernel_rfl)))
      have hs40:=(bc_ H4.out 0).trans rfl
      have hf40:=bz_ H4.out 0
      refine skip_ (w1:=w'.setCell ⟨g4,0,none⟩ (.int .u64 S)) (by rfl) rfl ?hrun9 ?hrest9
      case hrun9 =>
        first | (go_simp; done) | (go_simp; rfl)
      have n43:g4 ≠ g3:=fun h_ => blk_ne H4.out H3b.out (by decide) h_
      have n45:g4 ≠ g5:=fun h_ => blk_ne H4.out H5.out (by decide) h_
      refine hK.out _ _ ⟨g3,g4,g5,g12,m4_,m5_,m6_,m7_,(by rw [ha.out]; exact putSel_none (v:=undef) rfl),below_set HB.out G4.out,fun _ h1_ => absurd ((hon 8 (by kernel_rfl)).symm.trans h1_) (by decide),fun _ => blk_far H3b.out n43.symm _,Q_G3,fun _ h1_ => absurd ((up_self b 9).symm.trans h1_) (by decide),fun _ => blk_put (cs:=#[.int .u64 0]) H4.out 0 _ rfl,Q_G4,fun _ _ => blk_far H5.out n45.symm _,fun h0_ => absurd ((hoff 10 (by kernel_rfl)).symm.trans h0_) (by decide),Q_G5,fun h0_ => ⟨blk_far (Q_HR h0_).1 (fun h_ => blk_ne (Q_HR h0_).1 H4.out (by decide) h_) _,(Q_HR h0_).2.1,Kd.R_far (p:=⟨g4,0,none⟩) (Q_HR h0_).2.2 (fun k_ hk_ => hk_ ▸ (fun h_ => blk_ne (Q_HR h0_).1 H4.out (by decide) h_)) _⟩,Q_X4_,Q_X5_,Q_X6_,Q_X7_⟩
    refine steps_cons ?_ ?_
    · rintro b a w' ⟨g3,g4,g5,g12,m4_,m5_,m6_,m7_,ha,Q_HB,Q_H3,Q_H3b,Q_G3,Q_H4,Q_H4b,Q_G4,Q_H5,Q_H5b,Q_G5,Q_HR,Q_X4_,Q_X5_,Q_X6_,Q_X7_⟩ hb_ hon hoff
      refine ⟨_,rfl,fun K hK => ?_⟩
      have e5:a.tmps[5]? = some (m7_):=by rw [ha]; exact putSel_on (e:=(7,5,m7_)) 7 rfl rfl (hon 7 (by kernel_rfl)) rfl
      rw [Q_X7_ (hon 7 (by kernel_rfl))] at e5
      have e12:a.tmps[12]? = some (m4_):=by rw [ha]; exact putSel_on (e:=(4,12,m4_)) 4 rfl rfl (hon 4 (by kernel_rfl)) rfl
      rw [Q_X4_ (hon 4 (by kernel_rfl))] at e12
      replace ha:=am_ ha
      have HB:=am_ Q_HB
      have H3b:=am_ (Q_H3b (hon 8 (by kernel_rfl)))
      have G3:=am_ (Q_G3 (hon 5 (by kernel_rfl)))
      have H4b:=am_ (Q_H4b (hon 9 (by kernel_rfl)))
      have G4:=am_ (Q_G4 (hon 6 (by kernel_rfl)))
      have H5:=am_ (Q_H5 (hon 7 (by kernel_rfl)) hb_)
      have G5:=am_ (Q_G5 (hon 7 (by kernel_rfl)))
      have HR:=am_ (Q_HR (hon 4 (by kernel_rfl)))
      have hs50:=(bc_ H5.out 0).trans rfl
      have hf50:=bz_ H5.out 0
      refine skip_ (w1:=w'.setCell ⟨g5,0,none⟩ (.slice (some ⟨g12,0,none⟩) 0 0)) (by rfl) rfl ?hrun10 ?hrest10
      case hrun10 =>
        first | (go_simp; done) | (go_simp; rfl)
      have n53:g5 ≠ g3:=fun h_ => blk_ne H5.out H3b.out (by decide) h_
      have n54:g5 ≠ g4:=fun h_ => blk_ne H5.out H4b.out (by decide) h_
      have n5r:g5 ≠ g12:=fun h_ => blk_ne H5.out HR.out.1 (by decide) h_
      refine hK.out _ _ ⟨g3,g4,g5,g12,m4_,m5_,m6_,m7_,(by rw [ha.out]; exact putSel_none (v:=undef) rfl),below_set HB.out G5.out,fun _ h1_ => absurd ((hon 8 (by kernel_rfl)).symm.trans h1_) (by decide),fun _ => blk_far H3b.out n53.symm _,Q_G3,fun _ h1_ => absurd ((hon 9 (by kernel_rfl)).symm.trans h1_) (by decide),fun _ => blk_far H4b.out n54.symm _,Q_G4,fun _ h1_ => absurd ((up_self b 10).symm.trans h1_) (by decide),fun _ => blk_put (cs:=#[.slice none 0 0]) H5.out 0 _ rfl,Q_G5,fun _ => ⟨blk_far HR.out.1 n5r.symm _,HR.out.2.1,Kd.R_far (p:=⟨g5,0,none⟩) HR.out.2.2 (fun k_ hk_ => hk_ ▸ n5r.symm) _⟩,Q_X4_,Q_X5_,Q_X6_,Q_X7_⟩
    exact steps_nil
  rintro b a w' hall ⟨g3,g4,g5,g12,m4_,m5_,m6_,m7_,ha,Q_HB,Q_H3,Q_H3b,Q_G3,Q_H4,Q_H4b,Q_G4,Q_H5,Q_H5b,Q_G5,Q_HR,Q_X4_,Q_X5_,Q_X6_,Q_X7_⟩
  clear HB
  have hb0_:=hall 0 (by kernel_rfl)
  have hb1_:=hall 1 (by kernel_rfl)
  have hb2_:=hall 2 (by kernel_rfl)
  have hb3_:=hall 3 (by kernel_rfl)
  have hb4_:=hall 4 (by kernel_rfl)
  have hb5_:=hall 5 (by kernel_rfl)
  have hb6_:=hall 6 (by kernel_rfl)
  have hb7_:=hall 7 (by kernel_rfl)
  have hb8_:=hall 8 (by kernel_rfl)
  have hb9_:=hall 9 (by kernel_rfl)
  have hb10_:=hall 10 (by kernel_rfl)
  subst ha
  obtain rfl:=Q_X4_ hb4_
  obtain rfl:=Q_X5_ hb5_
  obtain rfl:=Q_X6_ hb6_
  obtain rfl:=Q_X7_ hb7_
  simp only [putSel,hb0_,hb1_,hb2_,hb3_,hb4_,hb5_,hb6_,hb7_,hb8_,hb9_,hb10_,if_true,Act.put,List.setIfInBounds_toArray,List.set_cons_zero,List.set_cons_succ]
  have HB:=am_ Q_HB
  clear Q_HB
  clear Q_H3
  have H3b:=am_ (Q_H3b hb8_)
  clear Q_H3b
  have G3:=am_ (Q_G3 hb5_)
  clear Q_G3
  clear Q_H4
  have H4b:=am_ (Q_H4b hb9_)
  clear Q_H4b
  have G4:=am_ (Q_G4 hb6_)
  clear Q_G4
  clear Q_H5
  have H5b:=am_ (Q_H5b hb10_)
  clear Q_H5b
  have G5:=am_ (Q_G5 hb7_)
  clear Q_G5
  have HR:=am_ (Q_HR hb4_)
  clear Q_HR
  clear hall hb0_ hb1_ hb2_ hb3_ hb4_ hb5_ hb6_ hb7_ hb8_ hb9_ hb10_
  have N53:g5 ≠ g3:=fun h_ => blk_ne H5b.out H3b.out (by decide) h_
  have N54:g5 ≠ g4:=fun h_ => blk_ne H5b.out H4b.out (by decide) h_
  have N5r:g5 ≠ g12:=fun h_ => blk_ne H5b.out HR.out.1 (by decide) h_
  have N3r:g3 ≠ g12:=fun h_ => blk_ne H3b.out HR.out.1 (by decide) h_
  have N4r:g4 ≠ g12:=fun h_ => blk_ne H4b.out HR.out.1 (by decide) h_
  have SZ:w.heap.size ≤ W5.heap.size:=HB5.out.size
  have HI0:Aside0 (FSt w g5 (K34 g3 g4 gw gh S) (figRows gw gh S 0) w'):=⟨⟨⟨fun k => k = g5 ∨ some k = (Value.slice (some ⟨g12,0,none⟩) 0 0).ownBlock,⟨_,(bc_ H5b.out 0).trans rfl,bz_ H5b.out 0,Kd.R_mono (Kd.R_lower HR.out.2.2 SZ) (fun k hk => hk ▸ N5r.symm),fun k => Iff.rfl⟩,fun b i v q => by
    have no:∀ b,b ≠ g5 → b ≠ g12 → ¬ (b = g5 ∨ some b = (Value.slice (some ⟨g12,0,none⟩) 0 0).ownBlock):=fun b h1 h2 h => by
      rcases h with h | h
      · exact h1 h
      · simp only [Value.ownBlock] at h
        injection h with h
        exact h2 h
    rcases q with ⟨rfl,rfl,rfl⟩ | ⟨rfl,rfl,rfl⟩ | ⟨rfl,rfl,rfl⟩
    · exact ⟨(bc_ H3b.out 0).trans rfl,no _ N53.symm N3r⟩
    · exact ⟨(bc_ H3b.out 1).trans rfl,no _ N53.symm N3r⟩
    · exact ⟨(bc_ H4b.out 0).trans rfl,no _ N54.symm N4r⟩⟩,below_step HB5.out (HB.out.mono (Nat.le_refl _))⟩⟩
  have HG5:Aside0 (w.heap.size ≤ g5):=⟨Nat.le_trans SZ G5.out⟩
  have hc31:w'.cell? ⟨g3,1,none⟩ = some (.int .i64 (gh:Int)):=(bc_ H3b.out 1).trans rfl
  have hw1:wrap64 ((gh:Int) + 1) = ((gh + 1:Nat):Int):=by unfold wrap64; omega
  clear N53 N54 N5r N3r N4r SZ H3b H4b H5b G3 G4 G5 HR HB HB5 HX HGR HSE hHeld
  go_wp2_with fail
  go_loopg [17] (gh + 1) (fun gg u17 wr => ∃ y:Nat,y ≤ gh + 1 ∧ gh + 1 - y ≤ gg ∧ u17 = .int .i64 y ∧ Aside0 (FSt w g5 (K34 g3 g4 gw gh S) (figRows gw gh S y) wr))
  case atStart => exact ⟨0,Nat.zero_le _,by omega,rfl,HI0⟩
  case round =>
    clear HI0 hc31
    obtain ⟨y,hy,hgg,rfl,HI⟩:=hrel
    by_cases hlt:y < gh + 1
    · have hltz:(y:Int) < (gh:Int) + 1:=by omega
      have HN:=am_ (HI.out.grow 3 (.int .i64 (y:Int)))
      have hn30:=HN.out.cell (.inl (.inl ⟨rfl,rfl,rfl⟩))
      have hn31:=HN.out.cell (.inl (.inr (.inl ⟨rfl,rfl,rfl⟩)))
      have hn7:=HN.out.cell (.inr ⟨rfl,rfl,rfl⟩)
      have HL:=figRows_len gw gh S y
      have HGW:Aside0 (gw ≤ 4 ∧ gh ≤ 4):=⟨hgw,hgh⟩
      have HLN:Aside0 ((figRows gw gh S y).length ≤ 10):=⟨by omega⟩
      have HY:Aside0 (y ≤ gh):=⟨by omega⟩
      have hgz:wrap64 ((gw:Int) + 1) = ((gw + 1:Nat):Int):=by unfold wrap64; omega
      have hyz:wrap64 ((y:Int) + 1) = ((y + 1:Nat):Int):=by unfold wrap64; omega
      clear HL HI
      have tok0:True:=trivial
      by_cases c:y < gh
      · have HC:=am_ c
        have cz:(y:Int) < (gh:Int):=by omega
        go_wp2_with (first
          | (go_at_fn 101; have _t:=tok0; refine (HN.out.row HG5.out g4 S 45 (.inl (.inr (.inr ⟨rfl,rfl,rfl⟩))) gw (by have:=HGW.out; omega) (levB gw gh S y) 102 #[.pointer (some ⟨g3,0,none⟩),.pointer (some ⟨wr.heap.size,0,none⟩)] (fun x => (impl_grid_level.f (gw:Int) (gh:Int) (x:Int) (y:Int)).getD 0) (fun x _ => rfl) eg2 (by have:=HLN.out; omega) ?hL).mono ?_
             (case hL => exact fun W' hW x hx => figE_level _ _ _ _ _ g3 _ W' (hW _ _ _ (.inl (.inl ⟨rfl,rfl,rfl⟩))) (hW _ _ _ (.inl (.inr (.inl ⟨rfl,rfl,rfl⟩)))) (hW _ _ _ (.inr ⟨rfl,rfl,rfl⟩)) (HLV.out x y hx HY.out))
             rintro e w7 ⟨rfl,hst⟩
             have HM:=am_ hst
             have hm30:=hst.cell (.inl (.inl ⟨rfl,rfl,rfl⟩))
             have hm31:=hst.cell (.inl (.inr (.inl ⟨rfl,rfl,rfl⟩)))
             have hm7:=hst.cell (.inr ⟨rfl,rfl,rfl⟩)
             clear hst hn30 hn31 hn7 _t tok0
             have tok1:True:=trivial)
          | (go_at_fn 101; have _t:=tok1; refine (HM.out.row HG5.out g4 S 124 (.inl (.inr (.inr ⟨rfl,rfl,rfl⟩))) (gw + 1) (by have:=HGW.out; omega) (uprB gw gh S y) 104 #[.pointer (some ⟨g3,0,none⟩),.pointer (some ⟨wr.heap.size,0,none⟩)] (fun x => (impl_grid_upright.f (gw:Int) (gh:Int) (x:Int) (y:Int)).getD 0) (fun x _ => rfl) eg3 (by have:=HLN.out; simp only [List.length_append,List.length_singleton]; omega) ?hU).mono ?_
             (case hU => exact fun W' hW x hx => figE_upright _ _ _ _ _ g3 _ W' (hW _ _ _ (.inl (.inl ⟨rfl,rfl,rfl⟩))) (hW _ _ _ (.inl (.inr (.inl ⟨rfl,rfl,rfl⟩)))) (hW _ _ _ (.inr ⟨rfl,rfl,rfl⟩)) (HUV.out x y (by omega) HC.out))
             rintro e w8 ⟨rfl,hst⟩
             have HP:=am_ hst
             clear hst hm30 hm31 hm7 _t tok1))
        go_roundg (gh + 1 - (y + 1))
        case measure => omega
        case rel => exact ⟨y + 1,by omega,by omega,by first | rfl | (exact congrArg _ hyz) | go_num,⟨by unfold figRows; rw [if_pos HC.out]; exact HP.out.weak (fun b i v q => .inl q)⟩⟩
      · have HC:=am_ c
        have cz:¬ (y:Int) < (gh:Int):=by omega
        go_wp2_with (first
          | (go_at_fn 101; have _t:=tok0; refine (HN.out.row HG5.out g4 S 45 (.inl (.inr (.inr ⟨rfl,rfl,rfl⟩))) gw (by have:=HGW.out; omega) (levB gw gh S y) 102 #[.pointer (some ⟨g3,0,none⟩),.pointer (some ⟨wr.heap.size,0,none⟩)] (fun x => (impl_grid_level.f (gw:Int) (gh:Int) (x:Int) (y:Int)).getD 0) (fun x _ => rfl) eg2 (by have:=HLN.out; omega) ?hL).mono ?_
             (case hL => exact fun W' hW x hx => figE_level _ _ _ _ _ g3 _ W' (hW _ _ _ (.inl (.inl ⟨rfl,rfl,rfl⟩))) (hW _ _ _ (.inl (.inr (.inl ⟨rfl,rfl,rfl⟩)))) (hW _ _ _ (.inr ⟨rfl,rfl,rfl⟩)) (HLV.out x y hx HY.out))
             rintro e w7 ⟨rfl,hst⟩
             have HM:=am_ hst
             have hm30:=hst.cell (.inl (.inl ⟨rfl,rfl,rfl⟩))
             have hm31:=hst.cell (.inl (.inr (.inl ⟨rfl,rfl,rfl⟩)))
             have hm7:=hst.cell (.inr ⟨rfl,rfl,rfl⟩)
             clear hst hn30 hn31 hn7 _t tok0
             have tok1:True:=trivial))
        go_roundg (gh + 1 - (y + 1))
        case measure => omega
        case rel => exact ⟨y + 1,by omega,by omega,by first | rfl | (exact congrArg _ hyz) | go_num,⟨by unfold figRows; rw [if_neg HC.out]; exact HM.out.weak (fun b i v q => .inl q)⟩⟩
    · obtain rfl:y = gh + 1:=by omega
      have hltz:¬ (((gh + 1:Nat):Int)) < (gh:Int) + 1:=by omega
      obtain ⟨⟨O,hI,-⟩,hB⟩:=HI.out
      obtain ⟨v,c1,f1,hR,hO⟩:=hI
      obtain ⟨Av,cv,rfl⟩:=Kd.R_slice hR
      have HR:=am_ hR
      have HB:=am_ hB
      clear hR hB hO HI f1
      go_wp2_with (go_at_call 106; refine (HJ.out _ _ _ Av cv HR.out).mono ?_; rintro e w9 ⟨rfl,hb⟩; have HB9:=am_ (below_step HB.out hb); clear hb)
      go_ret
      exact ⟨rfl,HB9.out⟩
theorem figRows_size (gw gh:Nat) (S:Int):∀ y,∀ x ∈ figRows gw gh S y,x.size ≤ gw + 1
  | 0,x,h => by cases h
  | y + 1,x,h => by
    have ih:=figRows_size gw gh S y
    have e1:(levR gw gh S y).size = gw:=by unfold levR; rw [strOfNums_size,rowF_len]
    have e2:(uprR gw gh S y).size = gw + 1:=by unfold uprR; rw [strOfNums_size,rowF_len]
    unfold figRows at h
    split at h
    · rcases List.mem_append.1 h with h | h
      · rcases List.mem_append.1 h with h | h
        · exact ih x h
        · rw [List.mem_singleton.1 h]; omega
      · rw [List.mem_singleton.1 h]; omega
    · rcases List.mem_append.1 h with h | h
      · exact ih x h
      · rw [List.mem_singleton.1 h]; omega
def impl_figureText.f (k:Nat) (a0_0 a0_1:Int) (l0_2 l0_3:List Int):Option ByteArray:=(impl_Figure_set.f k a0_0 a0_1 l0_2 l0_3).bind fun S => if (1 ≤ a0_0 ∧ a0_0 ≤ 4) ∧ (1 ≤ a0_1 ∧ a0_1 ≤ 4) then some (joinB (figRows a0_0.toNat a0_1.toNat S (a0_1.toNat + 1)) ⟨#[47]⟩) else none
theorem impl_figureText.mono:∀ a0 a1 a2 a3 k,LeO (impl_figureText.f k a0 a1 a2 a3) (impl_figureText.f (k + 1) a0 a1 a2 a3):=by
  intro a0 a1 a2 a3 k
  unfold impl_figureText.f
  exact LeO.bind (impl_Figure_set.mono _ _ _ _ _) (fun _ => LeO.refl _)
theorem impl_figureText.calls (k:Nat) (a0_0:Int) (a0_1:Int) (A0_2:Option Addr) (c0_2:Nat) (l0_2:List Int) (A0_3:Option Addr) (c0_3:Nat) (l0_3:List Int) (r:ByteArray) (w:World) (hr0_2:Kd.C (Kd.int .i64) w A0_2 l0_2.length l0_2) (hc0_2:l0_2.length ≤ c0_2) (hr0_3:Kd.C (Kd.int .i64) w A0_3 l0_3.length l0_3) (hc0_3:l0_3.length ≤ c0_3) (h:impl_figureText.f k a0_0 a0_1 l0_2 l0_3 = some r) :
    Calls Tryz.prog 77 #[.agg #[.int .i64 a0_0,.int .i64 a0_1,.slice A0_2 l0_2.length c0_2,.slice A0_3 l0_3.length c0_3]] w fun e w' => e = .returned (.string r) ∧ Below w.heap.size w w':=by
  unfold impl_figureText.f at h
  obtain ⟨S,h1,h⟩:=bi_ h
  split at h
  · rename_i hb
    obtain rfl:=Option.some.inj h
    obtain ⟨gw,rfl⟩:=Int.eq_ofNat_of_zero_le (show 0 ≤ a0_0 by omega)
    obtain ⟨gh,rfl⟩:=Int.eq_ofNat_of_zero_le (show 0 ≤ a0_1 by omega)
    have g:GridOK (gw:Int) (gh:Int):=⟨hb.1.1,hb.1.2,hb.2.1,hb.2.2⟩
    have hgw:gw ≤ 4:=by omega
    have hgh:gh ≤ 4:=by omega
    rw [Int.toNat_natCast,Int.toNat_natCast]
    have hlen:=figRows_len gw gh S (gh + 1)
    refine figText_main gw gh hgw hgh A0_2 A0_3 c0_2 c0_3 l0_2 l0_3 S w ?_ ?_ ?_ ?_ (fun xs => joinB xs ⟨#[47]⟩) ?_
    · intro W' hW
      exact impl_Figure_grid.calls _ _ _ _ _ _ _ _ _ _ W' (Kd.C_below hr0_2 hW) hc0_2 (Kd.C_below hr0_3 hW) hc0_3 rfl
    · intro W' hW
      exact impl_Figure_set.calls k _ _ _ _ _ _ _ _ _ W' (Kd.C_below hr0_2 hW) hc0_2 (Kd.C_below hr0_3 hW) hc0_3 h1
    · intro x y hx hy
      rw [level_f g (Int.natCast_nonneg x) (by omega) (Int.natCast_nonneg y) (by omega)]
      rfl
    · intro x y hx hy
      rw [upright_f g (Int.natCast_nonneg x) (by omega) (Int.natCast_nonneg y) (by omega)]
      rfl
    · intro W base ok A c hR
      refine Join_any _ _ (by omega) ?_ W base ok A c hR
      have hj:=join_len (⟨#[47]⟩:ByteArray).data.toList 5 ((figRows gw gh S (gh + 1)).map (·.data.toList)) (fun x hx => by
        obtain ⟨b,hb2,rfl⟩:=List.mem_map.1 hx
        have:=figRows_size gw gh S (gh + 1) b hb2
        have e:b.data.toList.length = b.size:=by simp
        omega)
      rw [List.length_map] at hj
      have e1:(⟨#[47]⟩:ByteArray).data.toList.length = 1:=rfl
      rw [e1] at hj
      refine Nat.le_trans hj ?_
      have:(figRows gw gh S (gh + 1)).length * (5 + 1) ≤ 10 * 6:=Nat.mul_le_mul_right 6 (by omega)
      omega
  · cases h


def resGe {α:Type} (n:Nat):Result α → Prop
  | .ok _ w => n ≤ w.drawn
  | .halt _ w => n ≤ w.drawn
theorem dw_viewStore_drawn {p:Program} {w w':World} {a k:Addr} {u:TypeId} {v:Value} {at_:Bool} {l:List Addr} (h:w.viewStore p a u k v at_ = .ok (w',l)):w'.drawn = w.drawn:=by
  unfold World.viewStore at h
  simp only [bind,Except.bind,pure,Except.pure] at h
  repeat' (split at h)
  all_goals first | (cases h; done) | skip
  all_goals (injection h with h; injection h with h1 h2; rw [← h1])
theorem dw_ask_drawn {α:Type}:∀ (k:Ask α) (w:World),w.drawn ≤ (w.ask k).2.drawn:=by
  intro k
  induction k with
  | done a => intro w; unfold World.ask; exact Nat.le_refl _
  | ask what range k ih =>
    intro w
    unfold World.ask
    dsimp only
    split
    · exact ih _ w
    · exact Nat.le_trans (Nat.le_succ _) (ih _ { w with drawn:=w.drawn + 1 })
theorem dw_sys_drawn (c:Sys) (w:World):w.drawn ≤ (w.sys c).2.drawn:=by
  have h:=dw_ask_drawn (Kernel.perform c w.os) w
  unfold World.sys
  split
  · exact Nat.le_refl _
  · rename_i h2
    rw [h2] at h
    exact h
theorem dw_farStore_drawn {p:Program} {w w':World} {a:Addr} {v:Value} {at_:Bool} {l:List Addr} (h:w.farStore p a v at_ = .ok (w',l)):w'.drawn = w.drawn:=by
  unfold World.farStore at h
  split at h
  · split at h
    · rename_i h2
      obtain rfl:=Except.ok.inj h
      exact dw_viewStore_drawn h2
    · cases h
  · cases h
theorem dw_freeze_drawn (w:World) (a:Addr) (m:Nat):(w.freeze a m).drawn = w.drawn:=by
  unfold World.freeze
  split <;> rfl
theorem dw_run_ge {α:Type} (p:Program) (s:Sem α):∀ (w:World) (n:Nat),n ≤ w.drawn → resGe n (s.run p w):=by
  induction s with
  | pure a => intro w n h; exact h
  | load m a k ih =>
    intro w n h; unfold Sem.run
    split
    · exact ih _ w n h
    · split
      · exact ih _ w n h
      · exact h
  | store m a v k ih =>
    intro w n h
    cases v <;> simp only [Sem.run] <;> first
      | exact h
      | (split
         · split
           · exact h
           · exact ih _ n h
         · split
           · rename_i h2; exact ih _ n (by rw [dw_farStore_drawn h2]; exact h)
           · exact h)
  | new o k ih => intro w n h; unfold Sem.run; exact ih _ _ n h
  | shape r k ih => intro w n h; unfold Sem.run; exact ih _ _ n h
  | freeze a m k ih => intro w n h; unfold Sem.run; exact ih _ n (by rw [dw_freeze_drawn]; exact h)
  | frozen a k ih => intro w n h; unfold Sem.run; exact ih _ _ n h
  | getObj r k ih =>
    intro w n h; unfold Sem.run
    split
    · exact h
    · exact ih _ _ n h
    · exact h
  | setObj r o k ih =>
    intro w n h; unfold Sem.run
    split
    · exact h
    · exact ih _ n h
    · exact h
  | choose q k ih =>
    intro w n h; unfold Sem.run
    split
    · exact ih _ _ n h
    · exact ih _ _ n (Nat.le_succ_of_le h)
  | sys c k ih => intro w n h; unfold Sem.run; exact ih _ _ n (Nat.le_trans h (dw_sys_drawn c w))
  | program k ih => intro w n h; unfold Sem.run; exact ih _ _ n h
  | mark m k ih => intro w n h; unfold Sem.run; exact ih _ n h
  | halt x => intro w n h; exact h
theorem dw_runT_ge {α:Type} (p:Program) (s:Sem α):∀ (w:World) (es:Array Event) (n:Nat),n ≤ w.drawn → resGe n (s.runT p w es).1:=by
  induction s with
  | pure a => intro w es n h; exact h
  | load m a k ih =>
    intro w es n h; unfold Sem.runT
    split
    · exact ih _ w _ n h
    · split
      · exact ih _ w _ n h
      · exact h
  | store m a v k ih =>
    intro w es n h
    cases v <;> simp only [Sem.runT] <;> first
      | exact h
      | (split
         · split
           · exact h
           · exact ih _ _ n h
         · split
           · rename_i h2; exact ih _ _ n (by rw [dw_farStore_drawn h2]; exact h)
           · exact h)
  | new o k ih => intro w es n h; unfold Sem.runT; exact ih _ _ _ n h
  | shape r k ih => intro w es n h; unfold Sem.runT; exact ih _ _ _ n h
  | freeze a m k ih => intro w es n h; unfold Sem.runT; exact ih _ _ n (by rw [dw_freeze_drawn]; exact h)
  | frozen a k ih => intro w es n h; unfold Sem.runT; exact ih _ _ _ n h
  | getObj r k ih =>
    intro w es n h; unfold Sem.runT
    split
    · exact h
    · exact ih _ _ _ n h
    · exact h
  | setObj r o k ih =>
    intro w es n h; unfold Sem.runT
    split
    · exact h
    · exact ih _ _ n h
    · exact h
  | choose q k ih =>
    intro w es n h; unfold Sem.runT
    split
    · exact ih _ _ _ n h
    · exact ih _ _ _ n (Nat.le_succ_of_le h)
  | sys c k ih => intro w es n h; unfold Sem.runT; exact ih _ _ _ n (Nat.le_trans h (dw_sys_drawn c w))
  | program k ih => intro w es n h; unfold Sem.runT; exact ih _ _ _ n h
  | mark m k ih => intro w es n h; unfold Sem.runT; exact ih _ _ n h
  | halt x => intro w es n h; exact h

theorem dw_run_ok {α:Type} {p:Program} {s:Sem α} {w w':World} {a:α} {n:Nat} (h:s.run p w = .ok a w') (hn:n ≤ w.drawn):n ≤ w'.drawn:=by
  have:=dw_run_ge p s w n hn
  rw [h] at this
  exact this
theorem dw_runT_ok {α:Type} {p:Program} {s:Sem α} {w w':World} {es es':Array Event} {a:α} {n:Nat} (h:s.runT p w es = (.ok a w',es')) (hn:n ≤ w.drawn):n ≤ w'.drawn:=by
  have:=dw_runT_ge p s w es n hn
  rw [h] at this
  exact this
theorem dw_runT_halt {α:Type} {p:Program} {s:Sem α} {w w':World} {es es':Array Event} {a:Halt} {n:Nat} (h:s.runT p w es = (.halt a w',es')) (hn:n ≤ w.drawn):n ≤ w'.drawn:=by
  have:=dw_runT_ge p s w es n hn
  rw [h] at this
  exact this
def stGe (n:Nat):Stepped → Prop
  | .next m => n ≤ m.world.drawn
  | .ended .. => True
def gsGe (n:Nat):GStep → Prop
  | .go _ w _ => n ≤ w.drawn
  | .comm _ _ _ _ w _ => n ≤ w.drawn
  | .spawn _ _ w _ => n ≤ w.drawn
  | .count _ w _ => n ≤ w.drawn
  | .timer _ _ w _ => n ≤ w.drawn
  | .alone _ _ w _ => n ≤ w.drawn
  | .newcoro _ _ _ w _ => n ≤ w.drawn
  | .coroswitch _ _ _ w _ => n ≤ w.drawn
  | .collect _ w _ => n ≤ w.drawn
  | .watch _ w _ => n ≤ w.drawn
  | .ended .. => True
theorem gsGe_after {n:Nat} (es:Array Event) {s:GStep} (h:gsGe n s):gsGe n (GStep.after es s):=by
  cases s <;> exact h
theorem dw_endWith_ge (n:Nat) (w:World) (fd:Nat) (t:ByteArray) (o:Outcome):gsGe n (endWith w fd t o):=by
  unfold endWith
  dsimp only
  repeat' split
  all_goals trivial
theorem dw_endThrow_ge {n:Nat} {w:World} (h:n ≤ w.drawn) (fr:Frame) (m:String):gsGe n (endThrow fr m w):=h
theorem dw_endPrinting_ge {n:Nat} {w:World} (h:n ≤ w.drawn) (p:Program) (fr:Frame) (v:Value):gsGe n (endPrinting p fr v w):=by
  unfold endPrinting
  dsimp only
  repeat' split
  all_goals first | trivial | exact h
theorem dw_endFatal_ge {n:Nat} {w:World} (h:n ≤ w.drawn) (p:Program) (fr:Frame) (cs:List Frame) (d:Option Dying) (m:String):gsGe n (endFatal p fr cs d m w):=by
  unfold endFatal
  dsimp only
  split
  · rename_i hr
    exact dw_run_ok hr h
  · trivial
  · trivial
theorem dw_writeOn_ge {n:Nat} {w:World} (h:n ≤ w.drawn) (p:Program) (fr:Frame) (d:Dying) (f:Fatal):gsGe n (writeOn p fr d f w):=by
  unfold writeOn
  split
  · trivial
  · dsimp only
    split
    · rename_i hr
      exact dw_runT_ok hr h
    · rename_i hr
      exact dw_runT_halt hr h
    · trivial
    · trivial
theorem dw_die_ge {n:Nat} {w:World} (h:n ≤ w.drawn) (p:Program) (fr:Frame) (d:Dying):gsGe n (die p fr d w):=by
  unfold die
  split
  · exact dw_writeOn_ge h _ _ _ _
  · split
    · split
      · exact h
      · exact dw_endWith_ge _ _ _ _ _
    · dsimp only
      split
      · exact h
      · split
        · rename_i hr
          exact dw_run_ok hr h
        · trivial
      · rename_i t recv name _
        have:=dw_runT_ge p (invoke (.fn (.method name) #[]) #[.iface t recv]) w #[] n h
        generalize (invoke (.fn (.method name) #[]) #[.iface t recv]).runT p w #[] = x at this ⊢
        obtain ⟨r,es⟩:=x
        refine gsGe_after _ ?_
        dsimp only
        split
        · exact this
        · exact this
        · trivial
        · exact dw_endPrinting_ge this _ _ _
        · trivial
      · trivial
theorem dw_doReturn_ge {n:Nat} {w:World} (h:n ≤ w.drawn) (p:Program) (main:Bool) (fr:Frame) (cs:List Frame) (d:Option Dying) (v:Value):gsGe n (doReturn p main fr cs d v w):=by
  unfold doReturn
  repeat' (first | (dsimp only; split) | split)
  all_goals first | trivial | exact h
theorem dw_callDeferred_ge {n:Nat} {w:World} (h:n ≤ w.drawn) (p:Program) (fr:Frame) (cs:List Frame) (dy:Option Dying) (d:Deferred):gsGe n (callDeferred p fr cs dy d w):=by
  unfold callDeferred
  refine iteInduction (motive:=gsGe n) (fun _ => trivial) (fun _ => ?_)
  · have:=dw_runT_ge p (invoke d.target d.args) w #[] n h
    generalize (invoke d.target d.args).runT p w #[] = x at this ⊢
    obtain ⟨r,es⟩:=x
    refine gsGe_after _ ?_
    try dsimp only
    repeat' split
    all_goals first | trivial | exact this | exact dw_endFatal_ge this _ _ _ _ _ | exact dw_endThrow_ge this _ _
theorem dw_unwind_ge {n:Nat} {w:World} (h:n ≤ w.drawn) (p:Program) (main:Bool) (fr:Frame) (cs:List Frame) (dy:Option Dying):gsGe n (unwind p main fr cs dy w):=by
  unfold unwind
  split
  · rename_i block _ _ _
    have:=dw_runT_ge p (Instr.takeDeferred block) w #[] n h
    generalize (Instr.takeDeferred block).runT p w #[] = x at this ⊢
    obtain ⟨r,es⟩:=x
    refine gsGe_after _ ?_
    try dsimp only
    split
    · exact this
    · trivial
  · exact dw_callDeferred_ge h _ _ _ _ _
  · split
    · trivial
    · split
      · trivial
      · split
        · exact h
        · split
          · split
            · exact h
            · split
              · rename_i hr
                exact dw_run_ok hr h
              · trivial
              · trivial
          · split
            · exact dw_endPrinting_ge h _ _ _
            · trivial
    · split
      · exact dw_doReturn_ge h _ _ _ _ _ _
      · rename_i fn _
        have:=dw_runT_ge p (results fn fr.tmps) w #[] n h
        generalize (results fn fr.tmps).runT p w #[] = x at this ⊢
        obtain ⟨r,es⟩:=x
        refine gsGe_after _ ?_
        try dsimp only
        split
        · exact dw_doReturn_ge this _ _ _ _ _ _
        · trivial
        · trivial
theorem dw_early_ge {n:Nat} {w:World} (h:n ≤ w.drawn) (p:Program) (fr:Frame) (cs:List Frame) (dy:Option Dying) (g:Nat):gsGe n (early p fr cs dy g w):=by
  have hn:∀ (W:World),n ≤ W.drawn → gsGe n (match W.heap[g]? with
    | some (.pending c elem) => .go { frame:=fr,callers:=cs,status:=.running,dying:=dy } { W with heap:=W.heap.setIfInBounds g (.cells c elem) }
    | _ => .ended (.stuck "early: the variable does not wait" (fr.pos p)) W) := fun W hW => by
    split
    · exact hW
    · trivial
  unfold early
  dsimp only
  refine iteInduction (motive:=gsGe n) (fun _ => hn w h) (fun _ => ?_)
  split
  · trivial
  · refine iteInduction (motive:=gsGe n) (fun _ => hn w h) (fun _ => ?_)
    refine iteInduction (motive:=gsGe n) (fun _ => hn w h) (fun _ => ?_)
    split
    · trivial
    · exact h
    · trivial
    · exact hn w h
    · refine iteInduction (motive:=gsGe n) (fun _ => h) (fun _ => ?_)
      refine iteInduction (motive:=gsGe n) (fun _ => hn w h) (fun _ => ?_)
      split
      · rename_i hr
        exact hn _ (dw_run_ok hr h)
      · rename_i hr
        exact dw_run_ok (s:=choose (.early g)) hr h
      · trivial
theorem dw_apply_ge {n:Nat} {w:World} (h:n ≤ w.drawn) (p:Program) (fr:Frame) (cs:List Frame) (dy:Option Dying) (s:Sem Next) (listen:Bool):gsGe n (stepG.apply p listen fr cs dy s w):=by
  unfold stepG.apply
  have h1:∀ x:Result Next × Array Event,(if listen then s.runT p w #[] else (s.run p w,#[])) = x → resGe n x.1:=fun x hx => by
    rw [← hx]
    split
    · exact dw_runT_ge p s w #[] n h
    · exact dw_run_ge p s w n h
  generalize (if listen then s.runT p w #[] else (s.run p w,#[])) = x at h1 ⊢
  have h2:=h1 x rfl
  obtain ⟨r,es⟩:=x
  dsimp only
  refine gsGe_after _ ?_
  cases r with
  | ok nx W =>
    have hW:n ≤ W.drawn:=h2
    cases nx <;> dsimp only <;> (repeat' split) <;> first | trivial | exact hW | exact dw_endThrow_ge hW _ _
  | halt ha W =>
    have hW:n ≤ W.drawn:=h2
    try dsimp only
    repeat' split
    all_goals first | trivial | exact hW | exact dw_endThrow_ge hW _ _ | exact dw_endFatal_ge hW _ _ _ _ _ | exact dw_early_ge hW _ _ _ _ _ | (rename_i hh; first | (cases hh; exact hW) | (cases hh; trivial) | (cases hh; exact dw_endThrow_ge hW _ _) | (cases hh; exact dw_endFatal_ge hW _ _ _ _ _) | (cases hh; exact dw_early_ge hW _ _ _ _ _))
theorem dw_exec_ge {n:Nat} {w:World} (h:n ≤ w.drawn) (p:Program) (main:Bool) (listen:Bool) (fr:Frame) (cs:List Frame) (dy:Option Dying):gsGe n (stepG.exec p main listen fr cs dy w):=by
  unfold stepG.exec
  dsimp only
  have hleave:∀ jump:Option Code,gsGe n (match fr.roundOf with
      | none => if jump matches none | some .ret then GStep.go { frame := { fr with mode := .returning }, callers := cs, status := .running, dying := dy } w else GStep.ended (.stuck "exit, goto: no such block or label" (fr.pos p)) w
      | some l =>
        GStep.after (seen p fr.fn ((Instr.endRound l jump).runT p w #[]).2) <| match ((Instr.endRound l jump).runT p w #[]).1 with
        | .ok v w => doReturn p main fr cs dy v w
        | .halt _ w => .ended (.stuck "range over a function: no such loop" (fr.pos p)) w) := by
    intro jump
    split
    · refine iteInduction (motive:=gsGe n) (fun _ => h) (fun _ => trivial)
    · rename_i l _
      have:=dw_runT_ge p (Instr.endRound l jump) w #[] n h
      generalize (Instr.endRound l jump).runT p w #[] = x at this ⊢
      obtain ⟨r,es⟩:=x
      refine gsGe_after _ ?_
      cases r with
      | ok v W => exact dw_doReturn_ge this _ _ _ _ _ _
      | halt _ _ => trivial
  split
  · exact hleave none
  · exact hleave (some .ret)
  · exact h
  · exact h
  · exact h
  · exact h
  · exact h
  · split
    · exact h
    · trivial
  · exact h
  · exact h
  · exact h
  · exact h
  · rename_i id k _
    cases exitTo id k with
    | none => exact hleave (some (.exit id))
    | some t => exact h
  · rename_i l k _
    cases gotoIn l k with
    | none => exact hleave (some (.goto l))
    | some t => exact h
  · rename_i f params assign body k _
    have:=dw_runT_ge p (Instr.enterLoop fr.fn fr.tmps params assign body fr.roundOf) w #[] n h
    generalize (Instr.enterLoop fr.fn fr.tmps params assign body fr.roundOf).runT p w #[] = x at this ⊢
    obtain ⟨r,es⟩:=x
    refine gsGe_after _ ?_
    cases r with
    | ok v W => exact dw_apply_ge this _ _ _ _ _ _
    | halt _ _ => trivial
  · trivial
  · exact dw_apply_ge h _ _ _ _ _ _
  · rename_i l k _
    have:=dw_runT_ge p (Instr.endLoop l) w #[] n h
    generalize (Instr.endLoop l).runT p w #[] = x at this ⊢
    obtain ⟨r,es⟩:=x
    refine gsGe_after _ ?_
    cases r with
    | ok v W => exact this
    | halt ha W =>
      try dsimp only
      split
      all_goals first | trivial | exact this | (rename_i hh; first | (cases hh; exact this) | (cases hh; trivial))
  · trivial
  · exact dw_apply_ge h _ _ _ _ _ _
  · rename_i row args _ _
    cases Extern.next row with
    | none => trivial
    | some e => exact dw_apply_ge h _ _ _ _ _ _
  · split
    · exact h
    · split
      · rename_i hr
        exact dw_run_ok (s:=choose _) hr h
      · trivial
  · exact h
  · split
    · unfold stepG.oper
      split
      · trivial
      · split
        · exact dw_apply_ge h _ _ _ _ _ _
        · exact dw_apply_ge h _ _ _ _ _ _
    · exact h
theorem dw_stepG_ge {n:Nat} {w:World} (h:n ≤ w.drawn) (p:Program) (main:Bool) (g:Goroutine) (listen:Bool):gsGe n (stepG p main g w listen):=by
  unfold stepG
  dsimp only
  split
  · exact dw_die_ge h _ _ _
  · exact dw_exec_ge h _ _ _ _ _ _
  · exact dw_unwind_ge h _ _ _ _ _
theorem dw_look_ge {n:Nat} {w:World} (h:n ≤ w.drawn) (p:Program) (gs:Array Goroutine) (rest:Rest):stGe n (look p gs rest w):=by
  unfold look
  split
  · dsimp only
    refine iteInduction (motive:=stGe n) (fun _ => trivial) (fun _ => ?_)
    split
    · trivial
    · split
      · rename_i hr
        have h9:=dw_run_ok hr h
        exact h9
      · trivial
      · trivial
  · trivial
theorem dw_waitingAt_drawn {rest:Rest} {cases:Array CommCase} {w w':World} (h:waitingAt rest cases w = some w'):w'.drawn = w.drawn:=by
  unfold waitingAt at h
  split at h
  · split at h
    · injection h with h; rw [← h]
    · cases h
  · injection h with h; rw [h]
theorem dw_communicate_ge {n:Nat} {w:World} (h:n ≤ w.drawn) (p:Program) (rest:Rest) (gs:Array Goroutine) (i:Nat) (g:Goroutine) (cases:Array CommCase) (blocking:Bool) (shape:CommShape):stGe n (communicate p rest gs i g cases blocking shape w).1:=by
  unfold communicate
  dsimp only
  refine iteInduction (motive:=fun (x:Stepped × Array MemOp) => stGe n x.1) (fun _ => trivial) (fun _ => ?_)
  refine iteInduction (motive:=fun (x:Stepped × Array MemOp) => stGe n x.1) (fun _ => ?_) (fun _ => ?_)
  · refine iteInduction (motive:=fun (x:Stepped × Array MemOp) => stGe n x.1) (fun _ => ?_) (fun _ => h)
    split
    · rename_i hw
      show n ≤ _
      rw [dw_waitingAt_drawn hw]; exact h
    · trivial
  · split
    · trivial
    · rename_i hr
      have h1:=dw_run_ok hr h
      split
      · split
        · rename_i hr2
          have := dw_run_ge p (runtimePanic (.plain "send on closed channel") : Sem Unit) _ n h1
          rw [hr2] at this
          exact this
        · trivial
      · exact h1
      · exact h1
      · split
        · exact h1
        · split
          · rename_i hr2
            have h9:=dw_run_ok (s:=choose _) hr2 h1
            exact h9
          · trivial
      · exact h1
      · exact h1
      · trivial
theorem dw_drain_drawn (w:World) (c:Nat):(drain w c).2.drawn = w.drawn:=by
  unfold drain
  split <;> rfl
theorem dw_retime_drawn (m:Machine) (k:Nat) (t:Timer) (a b:Nat):(retime m k t a b).2.world.drawn = m.world.drawn:=by
  unfold retime
  cases t.chan with
  | none => rfl
  | some c => exact dw_drain_drawn _ _
theorem dw_timerOp_drawn {m m':Machine} {op:TimerOp} {v:Value} (h:timerOp m op = .ok (v,m')):m'.world.drawn = m.world.drawn:=by
  have hnamed:∀ (M:Machine) (var:Addr) (f:Nat → Timer → Value × Machine),(∀ k t,(f k t).2.world.drawn = m.world.drawn) → timerOp.named M var f = .ok (v,m') → m'.world.drawn = m.world.drawn:=fun M var f hf hh => by
    unfold timerOp.named at hh
    split at hh
    · rename_i c _
      have:=Except.ok.inj hh
      have h2:=hf c (M.rest.timers.getD c default)
      rw [this] at h2
      exact h2
    · cases hh
  unfold timerOp at h
  split at h
  · split at h
    · injection h with h; injection h with h1 h2; rw [← h2]; rfl
    · split at h
      · split at h
        · cases h
        · injection h with h; injection h with h1 h2; rw [← h2]
      · cases h
  · exact hnamed _ _ _ (fun k t => dw_retime_drawn _ _ _ _ _) h
  · split at h
    · rename_i m2 ho
      have h3:m2.world.drawn = m.world.drawn:=by
        unfold timerOp.opened at ho
        split at ho
        · split at ho
          · injection ho with ho; rw [← ho]
          · cases ho
        · injection ho with ho; rw [ho]
      exact hnamed _ _ _ (fun k t => (dw_retime_drawn _ _ _ _ _).trans h3) h
    · cases h
  · injection h with h; injection h with h1 h2; rw [← h2]; rfl
theorem dw_runMT_ge (p:Program) (m:Machine) (i:Nat) (listen:Bool):stGe m.world.drawn (runT p m i listen).1:=by
  unfold runT
  dsimp only
  have h:=dw_stepG_ge (Nat.le_refl m.world.drawn) p (i == 0) (m.gs.swapAt! i { (default:Goroutine) with status:=.finished }).1 listen
  generalize stepG p (i == 0) (m.gs.swapAt! i { (default:Goroutine) with status:=.finished }).1 m.world listen = s at h ⊢
  have hthrow:∀ (w:World) (g:Goroutine) (msg:String) (gs:Array Goroutine),m.world.drawn ≤ w.drawn → stGe m.world.drawn (match endThrow g.frame msg w with
      | .go g w _ => .next { world:=w,gs:=gs.setIfInBounds i g,rest:=m.rest }
      | _ => .ended (.stuck "" "") w) := fun w g msg gs hw => hw
  cases s with
  | ended o w es => trivial
  | comm g cases blocking shape w es => exact dw_communicate_ge h _ _ _ _ _ _ _ _
  | go g w es => exact h
  | spawn g c w es => exact h
  | count g w es =>
    refine iteInduction (motive:=fun x => stGe m.world.drawn x) (fun _ => trivial) (fun _ => h)
  | alone g on w es => exact h
  | collect g w es => exact dw_look_ge h _ _ _
  | watch g w es => exact h
  | newcoro g c d w es => exact h
  | coroswitch g c exit w es =>
    dsimp only
    split
    · exact h
    · exact hthrow _ _ _ _ h
    · trivial
  | timer g op w es =>
    dsimp only
    split
    · rename_i ht
      have:=dw_timerOp_drawn ht
      show _ ≤ _
      exact Nat.le_trans h (Nat.le_of_eq this.symm)
    · exact hthrow _ _ _ _ h
    · trivial
    · trivial
def mvGe (n:Nat):Move → Prop
  | .goroutine m _ => n ≤ m.world.drawn
  | .machine s _ => stGe n s
theorem dw_serve_ge {n:Nat} (p:Program) (m:Machine) (k:Nat) (h:n ≤ m.world.drawn):stGe n (serve p m k):=by
  unfold serve
  split
  · trivial
  · exact h
  · dsimp only
    split
    · trivial
    · exact h
theorem dw_askOn_ge {n:Nat} (p:Program) (m:Machine) (h:n ≤ m.world.drawn):mvGe n (askOn p m):=by
  have hpick:∀ (M:Machine) (rs:List Nat),n ≤ M.world.drawn → mvGe n (match (choose (.sched rs.length)).run p M.world with
      | .halt _ w => .machine (.ended (.stuck "sched" "") w)
      | .ok k world =>
        if rs.length ≤ 1 then .goroutine { M with world } (rs.getD k 0) else
        match (choose (.extern "sched.slice" 65536)).run p world with
        | .halt _ w => .machine (.ended (.stuck "sched.slice" "") w)
        | .ok n world => .goroutine { M with world,rest:={ m.rest with slice:=if n = 0 then none else some (rs.getD k 0,n) } } (rs.getD k 0)):=by
    intro M rs hM
    split
    · trivial
    · rename_i hr
      have h1:=dw_run_ok (s:=choose _) hr hM
      split
      · exact h1
      · split
        · trivial
        · rename_i hr2
          exact dw_run_ok (s:=choose _) hr2 h1
  unfold askOn
  dsimp only
  split
  · trivial
  · rename_i k0 world hr
    have h1:=dw_run_ok hr h
    split
    · exact dw_serve_ge _ _ _ h1
    · split
      · split
        · exact h1
        · split
          · exact h1
          · split
            · trivial
            · trivial
      · split
        · exact hpick { m with world } _ h1
        · split
          · trivial
          · rename_i w2 hr2
            have h9:=dw_run_ok (s:=choose _) hr2 h1
            exact hpick { m with world:=w2 } _ h9
          · rename_i hr2
            have:=dw_run_ok (s:=choose _) hr2 h1
            exact this
          · rename_i k2 w2 hr2
            have h9:=dw_run_ok (s:=choose _) hr2 h1
            exact hpick ({ m with world:=w2 }.advanceTo _) _ h9
theorem dw_ask_ge {n:Nat} (p:Program) (m:Machine) (h:n ≤ m.world.drawn):mvGe n (ask p m):=by
  unfold ask
  split
  · split
    · trivial
    · rename_i hr
      have h1:=dw_run_ok (s:=choose _) hr h
      have h2:=dw_look_ge h1 p m.gs m.rest
      split
      · rename_i hl
        rw [hl] at h2
        exact dw_askOn_ge _ _ h2
      · exact h2
    · rename_i hr
      have h1:=dw_run_ok (s:=choose _) hr h
      exact dw_askOn_ge _ _ h1
  · exact dw_askOn_ge _ _ h
theorem dw_move_ge (p:Program) (m:Machine):mvGe m.world.drawn (move p m):=by
  unfold move
  split
  · split
    · exact Nat.le_refl m.world.drawn
    · trivial
  · split
    · split
      · exact Nat.le_refl m.world.drawn
      · exact dw_ask_ge _ _ (Nat.le_refl m.world.drawn)
    · exact dw_ask_ge _ _ (Nat.le_refl m.world.drawn)
theorem dw_step_ge (p:Program) (m:Machine):stGe m.world.drawn (step p m):=by
  have h:=dw_move_ge p m
  unfold step stepT
  cases hm:move p m with
  | goroutine m2 i =>
    rw [hm] at h
    have h2:=dw_runMT_ge p m2 i true
    show stGe _ (runT p m2 i true).1
    cases hx:(runT p m2 i true).1 with
    | next m3 => rw [hx] at h2; exact Nat.le_trans h h2
    | ended => trivial
  | machine s ops => rw [hm] at h; exact h
theorem dw_runN_ge (p:Program):∀ (k:Nat) (m m':Machine),runN p k m = .next m' → m.world.drawn ≤ m'.world.drawn
  | 0,m,m',h => by
    unfold runN at h
    injection h with h
    rw [h]; exact Nat.le_refl _
  | k + 1,m,m',h => by
    have h1:=dw_step_ge p m
    unfold runN at h
    cases hs:step p m with
    | next m2 =>
      rw [hs] at h h1
      exact Nat.le_trans h1 (dw_runN_ge p k m2 m' h)
    | ended o w => rw [hs] at h; cases h
theorem calls_drawn {P:Program} {f:FuncId} {args:Array Value} {w:World} {R:Ending → World → Prop} (h:Calls P f args w R):Calls P f args w fun e w' => R e w' ∧ (e ≠ .outgrown → w.drawn ≤ w'.drawn):=by
  intro cs
  obtain ⟨e,w',fr,hR,hc,h1,h2⟩:=h cs
  refine ⟨e,w',fr,⟨hR,fun he => ?_⟩,hc,h1,h2⟩
  have key:Steps P (lone (Frame.enter P f args .normal) cs w) (lone fr cs w') → w.drawn ≤ w'.drawn:=fun ⟨k,hk⟩ => dw_runN_ge P k _ _ hk
  cases e with
  | returned v => exact key hc
  | panicked ch => exact key hc
  | outgrown => exact absurd rfl he

end Go.Proofs.YtehjfaddhmdicaaGreatDoor.P
namespace Go.Proofs.YtehjfaddhmdicaaGreatDoor.P
open Go.RowKit Go.Proofs.YtehjfaddhmdicaaGreatDoorW.PrintWords Go.Proofs.YtehjfaddhmdicaaGreatDoorW.PrintLast Go.Proofs.YtehjfaddhmdicaaGreatDoorW.PrintMore
attribute [local go_sem] max2_int min2_int max_two min_two max_three min_three max_four min_four   -- for this text's walks alone
set_option linter.unusedVariables false
set_option linter.unusedSimpArgs false

open Lib in
theorem cb_neg:∀ a b:List UInt8,compareBytes b a = - compareBytes a b
  | [],[] => rfl
  | [],_ :: _ => rfl
  | _ :: _,[] => rfl
  | x :: a,y :: b => by
    have ih:=cb_neg a b
    unfold compareBytes
    by_cases h1:x < y
    · rw [if_neg (UInt8.lt_asymm h1),if_pos h1,if_pos h1]; rfl
    · rw [if_neg h1]
      by_cases h2:y < x
      · rw [if_pos h2,if_pos h2,if_neg h1]
      · rw [if_neg h2,if_neg h2,if_neg h1,ih]
theorem u8_eq {x y:UInt8} (h1:¬ x < y) (h2:¬ y < x):x = y:=by
  rw [UInt8.lt_iff_toNat_lt] at h1 h2
  exact UInt8.toNat_inj.1 (by omega)
open Lib in
theorem cb_zero:∀ a b:List UInt8,compareBytes a b = 0 → a = b
  | [],[],_ => rfl
  | [],_ :: _,h => by cases h
  | _ :: _,[],h => by cases h
  | x :: a,y :: b,h => by
    unfold compareBytes at h
    by_cases h1:x < y
    · rw [if_pos h1] at h; cases h
    · rw [if_neg h1] at h
      by_cases h2:y < x
      · rw [if_pos h2] at h; cases h
      · rw [if_neg h2] at h
        rw [u8_eq h1 h2,cb_zero a b h]
open Lib in
theorem cb_trans:∀ a b c:List UInt8,compareBytes a b ≤ 0 → compareBytes b c ≤ 0 → compareBytes a c ≤ 0
  | [],_,[],_,_ => by decide
  | [],_,_ :: _,_,_ => by show (-1:Int) ≤ 0; decide
  | _ :: _,[],_,h,_ => absurd h (by show ¬ (1:Int) ≤ 0; decide)
  | _ :: _,_ :: _,[],_,h => absurd h (by show ¬ (1:Int) ≤ 0; decide)
  | x :: a,y :: b,z :: c,h1,h2 => by
    have ih:=cb_trans a b c
    unfold compareBytes at h1 h2 ⊢
    simp only [UInt8.lt_iff_toNat_lt] at h1 h2 ⊢
    split at h1 <;> split at h2 <;> split <;> first
      | decide
      | (exfalso; omega)
      | (split at h1 <;> split at h2 <;> split <;> first
          | (exact ih h1 h2)
          | (exact absurd h1 (by decide))
          | (exact absurd h2 (by decide))
          | (exfalso; omega))
      | (split at h1 <;> split <;> first | (exact absurd h1 (by decide)) | (exfalso; omega) | decide)
      | (split at h2 <;> split <;> first | (exact absurd h2 (by decide)) | (exfalso; omega) | decide)
open Lib in
theorem bytesLess_cb:∀ a b:List UInt8,Op.bytesLess a b = decide (compareBytes a b < 0)
  | [],[] => rfl
  | [],_ :: _ => rfl
  | _ :: _,[] => rfl
  | x :: a,y :: b => by
    have ih:=bytesLess_cb a b
    unfold compareBytes Op.bytesLess
    by_cases h1:x < y
    · simp [h1]
    · by_cases h2:y < x
      · have h3:x ≠ y:=fun h => by rw [h] at h2; exact UInt8.lt_irrefl _ h2
        simp [h1,h2,h3]
      · have h3:x = y:=u8_eq h1 h2
        subst h3
        simp [h1,ih]

end Go.Proofs.YtehjfaddhmdicaaGreatDoor.P
namespace Go.Proofs.YtehjfaddhmdicaaGreatDoor.P
open Go.RowKit Go.Proofs.YtehjfaddhmdicaaGreatDoorW.PrintWords Go.Proofs.YtehjfaddhmdicaaGreatDoorW.PrintLast Go.Proofs.YtehjfaddhmdicaaGreatDoorW.PrintMore
attribute [local go_sem] max2_int min2_int max_two min_two max_three min_three max_four min_four   -- for this text's walks alone
set_option linter.unusedVariables false
set_option linter.unusedSimpArgs false

theorem below_of_eq {w w':World} (h:w' = w):Below w.heap.size w w':=by rw [h]; exact Below.refl _ _
set_option maxRecDepth 100000 in
set_option maxHeartbeats 8000000 in
theorem cmpFig_any (k:Nat) (a0 a1:Int) (A2:Option Addr) (c2:Nat) (l2:List Int) (A3:Option Addr) (c3:Nat) (l3:List Int) (b0 b1:Int) (B2:Option Addr) (d2:Nat) (m2:List Int) (B3:Option Addr) (d3:Nat) (m3:List Int) (tA tB:ByteArray) (w:World)
    (hr2:Kd.C (Kd.int .i64) w A2 l2.length l2) (hc2:l2.length ≤ c2) (hr3:Kd.C (Kd.int .i64) w A3 l3.length l3) (hc3:l3.length ≤ c3) (hs2:Kd.C (Kd.int .i64) w B2 m2.length m2) (hd2:m2.length ≤ d2) (hs3:Kd.C (Kd.int .i64) w B3 m3.length m3) (hd3:m3.length ≤ d3)
    (hA:impl_figureText.f k a0 a1 l2 l3 = some tA) (hB:impl_figureText.f k b0 b1 m2 m3 = some tB) :
    Calls Tryz.prog 57 #[.agg #[.int .i64 a0,.int .i64 a1,.slice A2 l2.length c2,.slice A3 l3.length c3],.agg #[.int .i64 b0,.int .i64 b1,.slice B2 m2.length d2,.slice B3 m3.length d3]] w fun e w' => e = .returned (.int .i64 (Lib.compareBytes tA.data.toList tB.data.toList)) ∧ Below w.heap.size w w':=by
  have HA:Aside0 (∀ W,Below w.heap.size w W → Calls Tryz.prog 77 #[.agg #[.int .i64 a0,.int .i64 a1,.slice A2 l2.length c2,.slice A3 l3.length c3]] W fun e w' => e = .returned (.string tA) ∧ Below W.heap.size W w'):=⟨fun W h => impl_figureText.calls k a0 a1 A2 c2 l2 A3 c3 l3 tA W (Kd.C_below hr2 h) hc2 (Kd.C_below hr3 h) hc3 hA⟩
  have HB:Aside0 (∀ W,Below w.heap.size w W → Calls Tryz.prog 77 #[.agg #[.int .i64 b0,.int .i64 b1,.slice B2 m2.length d2,.slice B3 m3.length d3]] W fun e w' => e = .returned (.string tB) ∧ Below W.heap.size W w'):=⟨fun W h => impl_figureText.calls k b0 b1 B2 d2 m2 B3 d3 m3 tB W (Kd.C_below hs2 h) hd2 (Kd.C_below hs3 h) hd3 hB⟩
  clear hr2 hc2 hr3 hc3 hs2 hd2 hs3 hd3 hA hB
  generalize l2.length = n2 at HA ⊢
  generalize l3.length = n3 at HA ⊢
  generalize m2.length = p2 at HB ⊢
  generalize m3.length = p3 at HB ⊢
  have tok1:True:=trivial
  go_enter Tryz.func57,Tryz.ntmps57
  go_wp2_with fail
  have Q0:((w.alloc (.cells #[.int .i64 a0,.int .i64 a1,.slice A2 n2 c2,.slice A3 n3 c3] 26)).alloc (.cells #[.int .i64 b0,.int .i64 b1,.slice B2 p2 d2,.slice B3 p3 d3] 26)).heap[w.heap.size]? = some (.cells #[.int .i64 a0,.int .i64 a1,.slice A2 n2 c2,.slice A3 n3 c3] 26 (0,0)):=blk_alloc (heap_alloc_new w _) _
  have Q1:((w.alloc (.cells #[.int .i64 a0,.int .i64 a1,.slice A2 n2 c2,.slice A3 n3 c3] 26)).alloc (.cells #[.int .i64 b0,.int .i64 b1,.slice B2 p2 d2,.slice B3 p3 d3] 26)).heap[w.heap.size + 1]? = some (.cells #[.int .i64 b0,.int .i64 b1,.slice B2 p2 d2,.slice B3 p3 d3] 26 (0,0)):=by
    have h:=heap_alloc_new (w.alloc (.cells #[.int .i64 a0,.int .i64 a1,.slice A2 n2 c2,.slice A3 n3 c3] 26)) (.cells #[.int .i64 b0,.int .i64 b1,.slice B2 p2 d2,.slice B3 p3 d3] 26)
    simpa using h
  have HW:Aside0 (Below w.heap.size w ((w.alloc (.cells #[.int .i64 a0,.int .i64 a1,.slice A2 n2 c2,.slice A3 n3 c3] 26)).alloc (.cells #[.int .i64 b0,.int .i64 b1,.slice B2 p2 d2,.slice B3 p3 d3] 26))):=⟨below_alloc (below_alloc (Below.refl _ _) _) _⟩
  generalize ((w.alloc (.cells #[.int .i64 a0,.int .i64 a1,.slice A2 n2 c2,.slice A3 n3 c3] 26)).alloc (.cells #[.int .i64 b0,.int .i64 b1,.slice B2 p2 d2,.slice B3 p3 d3] 26)) = w1 at Q0 Q1 HW ⊢
  have q0:w1.cell? ⟨w.heap.size,0,none⟩ = some (.int .i64 a0):=(bc_ Q0 0).trans rfl
  have q1:w1.cell? ⟨w.heap.size,1,none⟩ = some (.int .i64 a1):=(bc_ Q0 1).trans rfl
  have q2:w1.cell? ⟨w.heap.size,2,none⟩ = some (.slice A2 n2 c2):=(bc_ Q0 2).trans rfl
  have q3:w1.cell? ⟨w.heap.size,3,none⟩ = some (.slice A3 n3 c3):=(bc_ Q0 3).trans rfl
  have r0:w1.cell? ⟨w.heap.size + 1,0,none⟩ = some (.int .i64 b0):=(bc_ Q1 0).trans rfl
  have r1:w1.cell? ⟨w.heap.size + 1,1,none⟩ = some (.int .i64 b1):=(bc_ Q1 1).trans rfl
  have r2:w1.cell? ⟨w.heap.size + 1,2,none⟩ = some (.slice B2 p2 d2):=(bc_ Q1 2).trans rfl
  have r3:w1.cell? ⟨w.heap.size + 1,3,none⟩ = some (.slice B3 p3 d3):=(bc_ Q1 3).trans rfl
  have hlt0:=(Array.getElem?_eq_some_iff.1 Q0).1
  have hlt1:=(Array.getElem?_eq_some_iff.1 Q1).1
  clear Q0 Q1
  go_region_held3 (fun w' => w'.cell? ⟨w.heap.size,0,none⟩ = some (.int .i64 a0) ∧ w'.cell? ⟨w.heap.size,1,none⟩ = some (.int .i64 a1) ∧ w'.cell? ⟨w.heap.size,2,none⟩ = some (.slice A2 n2 c2) ∧ w'.cell? ⟨w.heap.size,3,none⟩ = some (.slice A3 n3 c3) ∧ w'.cell? ⟨w.heap.size + 1,0,none⟩ = some (.int .i64 b0) ∧ w'.cell? ⟨w.heap.size + 1,1,none⟩ = some (.int .i64 b1) ∧ w'.cell? ⟨w.heap.size + 1,2,none⟩ = some (.slice B2 p2 d2) ∧ w'.cell? ⟨w.heap.size + 1,3,none⟩ = some (.slice B3 p3 d3))
    (first | (exact ⟨q0,q1,q2,q3,r0,r1,r2,r3⟩) | (go_split_ands; exact ⟨pw_cell_below hbC (by assumption),pw_cell_below hbC (by assumption),pw_cell_below hbC (by assumption),pw_cell_below hbC (by assumption),pw_cell_below hbC (by assumption),pw_cell_below hbC (by assumption),pw_cell_below hbC (by assumption),pw_cell_below hbC (by assumption)⟩) | (go_split_ands; exact ⟨pw_cell_below hbB (by assumption),pw_cell_below hbB (by assumption),pw_cell_below hbB (by assumption),pw_cell_below hbB (by assumption),pw_cell_below hbB (by assumption),pw_cell_below hbB (by assumption),pw_cell_below hbB (by assumption),pw_cell_below hbB (by assumption)⟩) | (go_split_ands; exact ⟨pw_cell_below hbA (by assumption),pw_cell_below hbA (by assumption),pw_cell_below hbA (by assumption),pw_cell_below hbA (by assumption),pw_cell_below hbA (by assumption),pw_cell_below hbA (by assumption),pw_cell_below hbA (by assumption),pw_cell_below hbA (by assumption)⟩))
    ((first
      | (go_at_call 77; have _t:=tok1; refine (HA.out _ (below_drew HW.out)).mono ?_; rintro e wA ⟨rfl,hbA⟩; clear _t tok1; have tok2:True:=trivial)
      | (go_at_call 77; have _t:=tok2; refine (HB.out _ (below_step (below_drew HW.out) hbA)).mono ?_; rintro e wB ⟨rfl,hbB⟩; clear _t tok2; have tok3:True:=trivial)
      | (go_at_call 76; have _t:=tok3; refine (Tryz.strings_Compare tA tB _).mono ?_; rintro e wC ⟨rfl,hwC⟩; have hbC:=below_of_eq hwC; clear _t tok3 hwC)))
  have HE:=am_ (below_step (below_step (below_step (below_drew HW.out) hbA) hbB) hbC)
  clear q0 q1 q2 q3 r0 r1 r2 r3 hbA hbB hbC
  go_wp2_with fail
  go_ret
  exact ⟨rfl,HE.out⟩


theorem grow_of_below {W w':World} (hb:Below W.heap.size W w') (hd:W.drawn ≤ w'.drawn):∃ q os',w' = Go.Sort.grow (W.drewN q) os':=by
 refine ⟨w'.drawn - W.drawn,w'.heap.extract W.heap.size w'.heap.size,?_⟩
 have hh:w'.heap = W.heap ++ w'.heap.extract W.heap.size w'.heap.size:=by
  apply Array.ext_getElem?
  intro k
  have hs:=hb.size
  by_cases hk:k < W.heap.size
  ·rw [hb.block k hk,Array.getElem?_append_left hk]
  ·rw [Array.getElem?_append_right (by omega),Array.getElem?_extract]
   by_cases hk2:k < w'.heap.size
   ·rw [if_pos (by omega)]; congr 1; omega
   ·rw [if_neg (by omega),Array.getElem?_eq_none (by omega)]
 obtain ⟨h,t,d,o,u⟩:=w'
 obtain ⟨h0,t0,d0,o0,u0⟩:=W
 have e1:=hb.os
 have e2:=hb.tape
 have e3:=hb.output
 simp only at hh hd e1 e2 e3
 subst e1 e2 e3
 show World.mk _ _ _ _ _ = World.mk (h0 ++ _) _ (d0 + (d - d0)) _ _
 rw [← hh]
 congr 1
 omega
def pcF (inner:List Value) (n i:Nat):List Value:=(inner.drop (min i (n - 1) * 4)).take 4
def cfF (T:Nat → ByteArray) (n i j:Nat):Int:=Lib.compareBytes (T (min i (n - 1))).data.toList (T (min j (n - 1))).data.toList
theorem swoF (T:Nat → ByteArray) (n:Nat):Go.Sort.SWO (ltOf (cfF T n)) where
 irrefl x:=by
  unfold ltOf cfF
  have:=cb_neg (T (min x (n - 1))).data.toList (T (min x (n - 1))).data.toList
  exact decide_eq_false (by omega)
 trans x y z h1 h2:=by
  unfold ltOf cfF at *
  simp only [decide_eq_true_eq] at *
  have h3:=cb_trans _ _ _ (Int.le_of_lt h1) (Int.le_of_lt h2)
  rcases Int.lt_or_eq_of_le h3 with h4 | h4
  ·exact h4
  ·rw [cb_zero _ _ h4,cb_neg] at h1
   omega
 ntrans x y z h1 h2:=by
  unfold ltOf cfF at *
  simp only [decide_eq_false_iff_not] at *
  rw [cb_neg] at h1 h2 ⊢
  have h3:=cb_trans (T (min z (n - 1))).data.toList (T (min y (n - 1))).data.toList (T (min x (n - 1))).data.toList (by omega) (by omega)
  omega
set_option maxHeartbeats 2000000 in
theorem sortFig_any (k:Nat) (xs:List S26) (T:Nat → ByteArray) (base:Nat) (ok:Nat → Prop) (A:Option Addr) (c:Nat) (w:World)
  (HS:Kd.S kF 26 w base ok (.slice A xs.length c) xs) (hT:∀ i x,xs[i]? = some x → impl_figureText.f k x.f0 x.f1 x.f2 x.f3 = some (T i)) (hl:xs.length ≤ 2 ^ 40) :
  Calls Tryz.prog 56 #[.slice A xs.length c,.func (.func 57) #[] #[]] w fun e w' => e = .returned (.tuple #[]) ∧ ∃ is:List Nat,is.Perm (List.range xs.length) ∧ (is.Pairwise fun a b => ¬ Lib.compareBytes (T b).data.toList (T a).data.toList < 0) ∧
   Kd.S kF 26 w' base ok (.slice A xs.length c) (is.map fun i => xs.getD i ⟨0,0,[],[]⟩) ∧ Below base w w':=by
 rcases Nat.eq_zero_or_pos xs.length with h0 | hpos
 ·have hx:xs = []:=List.length_eq_zero_iff.1 h0
  subst hx
  refine (AnyF.slices_SortFunc_none (P:=Tryz.prog) (ρ:=Tryz.sortFig_ren) { Tryz.sortFig with } A c _ w).mono ?_
  rintro e w' ⟨rfl,rfl⟩
  exact ⟨rfl,[],List.Perm.refl _,List.Pairwise.nil,HS,Below.refl _ _⟩
 ·obtain ⟨f,h0,inner,ho,hr⟩:=HS
  have hzl:(xs.zipIdx).length = xs.length:=List.length_zipIdx
  rw [hzl] at ho
  generalize hn:xs.length = n at *
  obtain ⟨hil,⟨-,hb0⟩ | ⟨g,cap,cur,hv,hg,hh,hcap,hmx,hcs,htk⟩⟩:=ho
  ·omega
  injection hv with hA _ hc
  subst hA hc
  have hsz:(Kd.tag f kF).sz = 4:=rfl
  rw [hsz] at hil hcs htk
  have hglt:g < w.heap.size:=(Array.getElem?_eq_some_iff.1 hh).1
  have hcur:∀ j,j < n * 4 → cur[j]? = inner[j]?:=fun j hj => by
   rw [← htk,List.getElem?_take,if_pos hj,Array.getElem?_toList]
  have hM:∀ i (hi:i < n),kF.M w base (fun k => (ok k ∧ some k ≠ (Value.slice (some ⟨g,0,none⟩) n c).ownBlock) ∧ f k = i) (xs[i]'(by omega)) ((inner.drop (i * 4)).take 4):=fun i hi => by
   have h1:xs.zipIdx[i]? = some (xs[i]'(by omega),i):=Kd.zip_at (List.getElem?_eq_getElem (by omega))
   exact hr.2 i _ h1
  have hpc:∀ i,i < n → pcF inner n i = (inner.drop (i * 4)).take 4:=fun i hi => by unfold pcF; rw [Nat.min_eq_left (by omega)]
  have hpl:∀ i,(pcF inner n i).length = 4:=fun i => by
   unfold pcF
   have:min i (n - 1) < n:=by omega
   rw [List.length_take,List.length_drop,hil]; omega
  have hp1:∀ i,∀ v ∈ pcF inner n i,v.oneCell' = true:=fun i v hv => by
   have h2:=hM (min i (n - 1)) (by omega)
   exact kF.K_one (kF.K_of_M h2) v hv
  have hrs:(Array.range n).size = n:=Array.size_range
  have hgetr:∀ i,i < n → (Array.range n)[i]! = i:=fun i hi => by rw [getElem!_pos _ i (by rw [hrs]; exact hi)]; simp
  have hflat:∀ t,t < n * 4 → (pcF inner n (t / 4))[t % 4]! = inner[t]!:=fun t ht => by
   have h1:t / 4 < n:=by omega
   rw [hpc _ h1,getElem!_pos _ (t % 4) (by rw [List.length_take,List.length_drop,hil]; omega),getElem!_pos _ t (by omega),List.getElem_take,List.getElem_drop]
   congr 1
   omega
  have hH:Go.Sort.HoldsK (pcF inner n) 4 w g 0 (Array.range n):=fun j hj => by
   have hj4:j < n * 4:=by simpa using hj
   have e1:(Go.Sort.flatK (pcF inner n) 4 (Array.range n))[j]! = inner[j]!:=by
    rw [Go.Sort.get_flatK _ _ _ _ (by rw [hrs]; exact hj4),hgetr _ (by omega),hflat j hj4]
   rw [e1,Nat.zero_add]
   refine ⟨?_,bz_ hh j⟩
   rw [bc_ hh j,hcur j hj4,List.getElem?_eq_getElem (by omega),getElem!_pos _ j (by omega)]
   rfl
  have hcmp:CmpLays Tryz.prog 57 #[] (pcF inner n) 4 (cfF T n) g 0 (Array.range n).size w:=by
   intro m os dk hdk x y
   have hW:∀ k,k ≠ g → k < w.heap.size → (sortWorldK (pcF inner n) 4 w g 0 m dk os).heap[k]? = w.heap[k]?:=fun k hk hkl => by
    unfold sortWorldK Go.Sort.grow Go.Sort.putRowK Go.Sort.putRow Go.Sort.mapBlock Go.Sort.ahead
    show ((w.heap.modify g _) ++ os)[k]? = _
    rw [Array.getElem?_append_left (by simpa using hkl),Array.getElem?_modify,if_neg (fun h => hk h.symm)]
   have hread:∀ z:Nat,∃ (A2:Option Addr) (c2:Nat) (l2:List Int) (A3:Option Addr) (c3:Nat) (l3:List Int) (a0 a1:Int),pcF inner n z = [.int .i64 a0,.int .i64 a1,.slice A2 l2.length c2,.slice A3 l3.length c3] ∧ Kd.C (Kd.int .i64) (sortWorldK (pcF inner n) 4 w g 0 m dk os) A2 l2.length l2 ∧ l2.length ≤ c2 ∧ Kd.C (Kd.int .i64) (sortWorldK (pcF inner n) 4 w g 0 m dk os) A3 l3.length l3 ∧ l3.length ≤ c3 ∧ impl_figureText.f k a0 a1 l2 l3 = some (T (min z (n - 1))):=fun z => by
    have hz:min z (n - 1) < n:=by omega
    have h2:=hM _ hz
    have hTz:=hT (min z (n - 1)) _ (List.getElem?_eq_getElem (by omega))
    obtain ⟨v2,v3,hcs2,r2,r3,-⟩:=kF_openM h2
    have r2':=Kd.R_move (Kd.R_bound r2) (w1:=sortWorldK (pcF inner n) 4 w g 0 m dk os) (fun k hk => hW k (fun e => hk.1.1.2 (by rw [e]; rfl)) hk.2.2.1)
    have r3':=Kd.R_move (Kd.R_bound r3) (w1:=sortWorldK (pcF inner n) 4 w g 0 m dk os) (fun k hk => hW k (fun e => hk.1.1.2 (by rw [e]; rfl)) hk.2.2.1)
    obtain ⟨A2,c2,rfl⟩:=Kd.R_slice r2'
    obtain ⟨A3,c3,rfl⟩:=Kd.R_slice r3'
    exact ⟨A2,c2,_,A3,c3,_,_,_,hcs2,(Kd.R_reads' r2').2.2,(Kd.R_reads' r2').2.1,(Kd.R_reads' r3').2.2,(Kd.R_reads' r3').2.1,hTz⟩
   obtain ⟨A2,c2,l2,A3,c3,l3,a0,a1,e1,q1,q2,q3,q4,q5⟩:=hread x
   obtain ⟨B2,d2,m2,B3,d3,m3,b0,b1,e2,p1,p2,p3,p4,p5⟩:=hread y
   have hc:=calls_drawn (cmpFig_any k a0 a1 A2 c2 l2 A3 c3 l3 b0 b1 B2 d2 m2 B3 d3 m3 _ _ _ q1 q2 q3 q4 p1 p2 p3 p4 q5 p5)
   rw [e1,e2]
   refine hc.mono ?_
   rintro e w' ⟨⟨rfl,hb⟩,hd⟩
   exact ⟨rfl,grow_of_below hb (hd (fun h => by cases h))⟩
  have hcon:=AnyQ.slices_SortFunc (P:=Tryz.prog) Tryz.sortFig 4 Tryz.isAgg26 Tryz.sizeOf26 (pcF inner n) hpl hp1 (cfF T n) (swoF T n) 57 #[] g 0 c (Array.range n) w (Go.Proofs.enters_of Tryz.func57 (by kernel_rfl) rfl) hcmp hH hglt (by rw [hrs]; omega)
  rw [hrs] at hcon
  refine (show Calls Tryz.prog 56 _ _ _ from hcon).mono ?_
  rintro e w' ⟨rfl,d',nn,os,⟨hds,-,hpm⟩,hso,rfl⟩
  rw [hrs] at hds
  have hperm:d'.toList.Perm (List.range n):=by
   have e1:d'.extract 0 n = d':=by rw [← hds]; exact Array.extract_size
   have e2:(Array.range n).extract 0 n = Array.range n:=by
    have:=Array.extract_size (xs:=Array.range n)
    rwa [hrs] at this
   rw [e1,e2,Array.toList_range] at hpm
   exact hpm
  have hlt:∀ j,j < n → d'[j]! < n:=fun j hj => by
   have h1:d'[j]! ∈ d'.toList:=by rw [getElem!_pos _ j (by omega)]; exact Array.getElem_mem_toList _
   exact List.mem_range.1 (hperm.mem_iff.1 h1)
  have hnd:d'.toList.Nodup:=hperm.nodup_iff.2 List.nodup_range
  refine ⟨rfl,d'.toList,hperm,?_,?_,?_⟩
  ·rw [List.pairwise_iff_getElem]
   intro i j hi hj hij
   have hi':i < n:=by simpa [hds] using hi
   have hj':j < n:=by simpa [hds] using hj
   have h1:=hso i j (Nat.zero_le _) hij hj'
   unfold ltOf cfF at h1
   have h2:=of_decide_eq_false h1
   have a1:=hlt i hi'
   have a2:=hlt j hj'
   rw [Nat.min_eq_left (by omega),Nat.min_eq_left (by omega),getElem!_pos d' i (by omega),getElem!_pos d' j (by omega)] at h2
   exact h2
  ·have hheap:(sortWorldK (pcF inner n) 4 w g 0 nn d' os).heap[g]? = some (.cells (Go.Sort.putCells id 0 (Go.Sort.flatK (pcF inner n) 4 d') cur) 26 (0,0)):=by
    unfold sortWorldK Go.Sort.grow Go.Sort.putRowK Go.Sort.putRow Go.Sort.mapBlock Go.Sort.ahead
    show ((w.heap.modify g _) ++ os)[g]? = _
    rw [Array.getElem?_append_left (by simpa using hglt),Array.getElem?_modify,if_pos rfl,hh]
    rfl
   have hother:∀ k,k ≠ g → k < w.heap.size → (sortWorldK (pcF inner n) 4 w g 0 nn d' os).heap[k]? = w.heap[k]?:=fun k hk hkl => by
    unfold sortWorldK Go.Sort.grow Go.Sort.putRowK Go.Sort.putRow Go.Sort.mapBlock Go.Sort.ahead
    show ((w.heap.modify g _) ++ os)[k]? = _
    rw [Array.getElem?_append_left (by simpa using hkl),Array.getElem?_modify,if_neg (fun h => hk h.symm)]
   have hfs:(Go.Sort.flatK (pcF inner n) 4 d').size = n * 4:=by simp [hds]
   have hput:∀ j,j < n * 4 → (Go.Sort.putCells id 0 (Go.Sort.flatK (pcF inner n) 4 d') cur)[j]? = some ((Go.Sort.flatK (pcF inner n) 4 d')[j]!):=fun j hj => by
    have hjc:j < cur.size:=by rw [hcs]; exact Nat.lt_of_lt_of_le hj (Nat.mul_le_mul_right 4 hcap)
    unfold Go.Sort.putCells
    rw [Array.getElem?_mapIdx,Array.getElem?_eq_getElem hjc,Option.map_some,if_pos ⟨Nat.zero_le _,by rw [hfs]; omega⟩]
    rfl
   refine ⟨fun k => d'.toList.idxOf (f k),fun k hk => h0 k hk,(Go.Sort.flatK (pcF inner n) 4 d').toList,?_,?_⟩
   ·rw [List.length_zipIdx,List.length_map,Array.length_toList,hds]
    refine ⟨by rw [Array.length_toList,hfs]; rfl,.inr ⟨g,c,_,rfl,hg,hheap,hcap,hmx,by show _ = c * 4; rw [← hcs]; simp [Go.Sort.putCells],?_⟩⟩
    refine List.ext_getElem? fun j => ?_
    rw [List.getElem?_take]
    by_cases hj:j < n * 4
    ·rw [if_pos (show j < n * (Kd.tag (fun k => d'.toList.idxOf (f k)) kF).sz from hj),Array.getElem?_toList,hput j hj,Array.getElem?_toList,Array.getElem?_eq_getElem (by rw [hfs]; exact hj),getElem!_pos _ j (by rw [hfs]; exact hj)]
    ·rw [if_neg (show ¬ j < n * (Kd.tag (fun k => d'.toList.idxOf (f k)) kF).sz from hj),Array.getElem?_toList,Array.getElem?_eq_none (by rw [hfs]; omega)]
   ·refine ⟨by rw [Array.length_toList,hfs,List.length_zipIdx,List.length_map,Array.length_toList,hds]; rfl,fun j p hj => ?_⟩
    rw [List.getElem?_zipIdx,Nat.zero_add] at hj
    obtain ⟨x,hx,rfl⟩:=Option.map_eq_some_iff.1 hj
    have hjn:j < n:=by
     have:=(List.getElem?_eq_some_iff.1 hx).1
     rw [List.length_map,Array.length_toList,hds] at this
     exact this
    have hdl:=hlt j hjn
    have hdj:d'.toList[j]? = some d'[j]!:=by rw [Array.getElem?_toList,Array.getElem?_eq_getElem (by omega),getElem!_pos _ j (by omega)]
    rw [List.getElem?_map,hdj,Option.map_some] at hx
    have hx2:x = xs[d'[j]!]'(by omega):=by
     rw [← Option.some.inj hx,List.getD_eq_getElem?_getD,List.getElem?_eq_getElem (by omega)]; rfl
    have hpiece:((Go.Sort.flatK (pcF inner n) 4 d').toList.drop (j * 4)).take 4 = (inner.drop (d'[j]! * 4)).take 4:=by
     rw [← hpc _ hdl]
     refine List.ext_getElem? fun t => ?_
     rw [List.getElem?_take,List.getElem?_drop]
     by_cases ht:t < 4
     ·rw [if_pos ht,Array.getElem?_toList,Array.getElem?_eq_getElem (by rw [hfs]; omega),← getElem!_pos _ (j * 4 + t) (by rw [hfs]; omega),Go.Sort.get_flatK _ _ _ _ (by rw [hds]; omega),show (j * 4 + t) / 4 = j by omega,show (j * 4 + t) % 4 = t by omega,List.getElem?_eq_getElem (by rw [hpl]; exact ht),getElem!_pos _ t (by rw [hpl]; exact ht)]
     ·rw [if_neg ht,List.getElem?_eq_none (by rw [hpl]; omega)]
    have hMj:=hM _ hdl
    rw [← hx2,← hpiece] at hMj
    refine kF.M_mono (fun k hk => ?_) (kF.M_move (w1:=sortWorldK (pcF inner n) 4 w g 0 nn d' os) (fun k hk => hother k (fun e => hk.1.1.2 (by rw [e]; rfl)) hk.2.2.1) (kF.M_bound hMj))
    refine ⟨⟨hk.1.1.1,?_⟩,?_⟩
    ·exact hk.1.1.2
    ·show d'.toList.idxOf (f k) = j
     rw [hk.1.2]
     have hjl:j < d'.toList.length:=by rw [Array.length_toList,hds]; exact hjn
     have hge:d'.toList[j] = d'[j]!:=by
      have:=hdj
      rw [List.getElem?_eq_getElem hjl] at this
      exact Option.some.inj this
     rw [← hge]
     exact hnd.idxOf_getElem j hjl
  ·refine ⟨rfl,rfl,rfl,?_,fun k hk => ?_⟩
   ·show w.heap.size ≤ ((w.heap.modify g _) ++ os).size
    simp
   ·have hkg:k ≠ g:=by omega
    unfold sortWorldK Go.Sort.grow Go.Sort.putRowK Go.Sort.putRow Go.Sort.mapBlock Go.Sort.ahead
    show ((w.heap.modify g _) ++ os)[k]? = _
    rw [Array.getElem?_append_left (by simp; omega),Array.getElem?_modify,if_neg (fun h => hkg h.symm)]


theorem getD_range (l:List Nat):(List.range l.length).map (fun i => l.getD i 0) = l:=by
 refine List.ext_getElem? fun i => ?_
 rw [List.getElem?_map]
 by_cases h:i < l.length
 ·rw [List.getElem?_range h,Option.map_some,List.getD_eq_getElem?_getD,List.getElem?_eq_getElem h]; rfl
 ·rw [List.getElem?_eq_none (by simpa using h),List.getElem?_eq_none (by omega)]; rfl
theorem figApp_M {w2:World} {b B:Nat} {x:S26} {v2 v3:Value} (h2:Kd.R (Kd.int .i64) 3 w2 B (fun k_ => some k_ ≠ v3.ownBlock) v2 x.f2) (h3:Kd.R (Kd.int .i64) 3 w2 B (fun k_ => some k_ ≠ v2.ownBlock) v3 x.f3) (hb:b ≤ B) :
  kF.M w2 b (fun k => some k = v2.ownBlock ∨ some k = v3.ownBlock) x [.int .i64 x.f0,.int .i64 x.f1,v2,v3] :=
 kF_mkM w2 b _ x (Kd.R_lower (Kd.R_mono (Kd.R_tight rfl h2) (fun k hk => .inl hk)) hb) (Kd.R_lower (Kd.R_mono (Kd.R_tight rfl h3) (fun k hk => .inr hk)) hb) (fun k hk => h2.1 k hk.symm)
theorem figApp_ne {w2:World} {B:Nat} {x:S26} {v2 v3 u:Value} (h2:Kd.R (Kd.int .i64) 3 w2 B (fun k_ => some k_ ≠ v3.ownBlock) v2 x.f2) (h3:Kd.R (Kd.int .i64) 3 w2 B (fun k_ => some k_ ≠ v2.ownBlock) v3 x.f3) (hu:∀ k,u.ownBlock = some k → k < B) (k:Nat) (hk:some k = v2.ownBlock ∨ some k = v3.ownBlock):some k ≠ u.ownBlock:=fun h => by
 have h5:=hu k h.symm
 rcases hk with hk | hk
 ·have:=Kd.R_base h2 k hk.symm; omega
 ·have:=Kd.R_base h3 k hk.symm; omega
theorem figApp_not {w2:World} {B:Nat} {x:S26} {v2 v3:Value} (h2:Kd.R (Kd.int .i64) 3 w2 B (fun k_ => some k_ ≠ v3.ownBlock) v2 x.f2) (h3:Kd.R (Kd.int .i64) 3 w2 B (fun k_ => some k_ ≠ v2.ownBlock) v3 x.f3) (k:Nat) (hk:k < B):¬ (some k = v2.ownBlock ∨ some k = v3.ownBlock):=fun h => by
 rcases h with h | h
 ·have:=Kd.R_base h2 k h.symm; omega
 ·have:=Kd.R_base h3 k h.symm; omega
set_option maxRecDepth 100000 in
set_option maxHeartbeats 16000000 in
theorem figures_any (k:Nat) (gw gh:Int) (ms:List Nat) (F:Nat → S26) (T:Nat → ByteArray) (hF:∀ m ∈ ms,impl_grid_figure.f gw gh (m:Int) = some ((F m).f0,(F m).f1,(F m).f2,(F m).f3)) (hT:∀ m ∈ ms,impl_figureText.f k (F m).f0 (F m).f1 (F m).f2 (F m).f3 = some (T m))
  (A:Option Addr) (c:Nat) (w:World) (hr:Kd.C (Kd.int .u64) w A ms.length (ms.map fun n:Nat => (n:Int))) (hlen:ms.length ≤ 1000000000) (hT_:TB w) :
  Calls Tryz.prog 42 #[.agg #[.int .i64 gw,.int .i64 gh],.slice A ms.length c] w fun e w' => ∃ v:Value,e = .returned v ∧ ∃ ps:List Nat,ps.Perm ms ∧ (ps.Pairwise fun a b => ¬ Lib.compareBytes (T b).data.toList (T a).data.toList < 0) ∧ Kd.S kF 26 w' w.heap.size (fun _ => True) v (ps.map F) ∧ Below w.heap.size w w':=by
 have hi26:(Tryz.prog.info? 26).map (fun i => (i.zero,i.size,i.bytes)) = some (some (.agg #[.int .i64 0,.int .i64 0,.slice none 0 0,.slice none 0 0]),4,64):=by kernel_rfl
 have HF:=am_ hF
 have HT:=am_ hT
 have HTB:=am_ hT_
 have HR:=am_ hr
 clear hF hT hT_ hr
 generalize hn:ms.length = n at hlen
 have HN:=am_ hn
 clear hn
 have HR2:Aside0 (Kd.C (Kd.int .u64) w A n (ms.map fun n:Nat => (n:Int))):=⟨by have h:=HR.out; rw [HN.out] at h; exact h⟩
 clear HR
 have hml:Aside0 ((ms.map fun n:Nat => (n:Int)).length = n):=⟨by rw [List.length_map]; exact HN.out⟩
 go_enter Tryz.func42,Tryz.ntmps42
 go_wp2_with fail
 have HB0:Aside0 (Below w.heap.size w ((w.alloc (.cells #[.int .i64 gw,.int .i64 gh] 56)).alloc (.cells #[] 26))):=⟨below_alloc (below_alloc (Below.refl _ _) _) _⟩
 have HG0:Aside0 (((w.alloc (.cells #[.int .i64 gw,.int .i64 gh] 56)).alloc (.cells #[] 26)).heap[w.heap.size]? = some (.cells #[.int .i64 gw,.int .i64 gh] 56 (0,0))):=⟨blk_alloc (heap_alloc_new w _) _⟩
 have HS0:Aside0 (Kd.S kF 26 ((w.alloc (.cells #[.int .i64 gw,.int .i64 gh] 56)).alloc (.cells #[] 26)) w.heap.size (fun _ => True) (.slice (some ⟨w.heap.size + 1,0,none⟩) 0 0) ((ms.take 0).map F)):=⟨⟨fun _ => 0,by
  have h:=Kd.R_mono (R_lit0 (Kd.tag (fun _ => 0) kF) 26 (w.alloc (.cells #[.int .i64 gw,.int .i64 gh] 56)) w.heap.size (by simp)) (fun _ _ => trivial)
  simpa using h⟩⟩
 generalize ((w.alloc (.cells #[.int .i64 gw,.int .i64 gh] 56)).alloc (.cells #[] 26)) = w1 at HB0 HG0 HS0 ⊢
 go_loopg [5,11] (n + 1) (fun gg u5 u11 wr => ∃ i:Nat,i ≤ n ∧ n + 1 - i ≤ gg ∧ u11 = .int .i64 i ∧ Aside0 (Kd.S kF 26 wr w.heap.size (fun _ => True) u5 ((ms.take i).map F)) ∧ Aside0 (wr.heap[w.heap.size]? = some (.cells #[.int .i64 gw,.int .i64 gh] 56 (0,0))) ∧ Aside0 (Below w.heap.size w wr))
 case atStart => exact ⟨0,Nat.zero_le _,Nat.le_refl _,rfl,HS0,HG0,HB0⟩
 case round =>
  clear HS0 HG0 HB0
  obtain ⟨i,hin,hgg,rfl,HS,HG,HB⟩:=hrel
  by_cases hlt:i < n
  ·have hlz:(i:Int) < (n:Int):=by omega
   have hi:i < ms.length:=by rw [HN.out]; exact hlt
   obtain ⟨ad,eA,hcell⟩:=Kd.at_int (Kd.C_below HR2.out HB.out) (i:Int) (by omega) hlz
   have hrd:rd (ms.map fun n:Nat => (n:Int)) (i:Int) = ((ms[i]:Nat):Int):=by
    unfold rd
    rw [Int.toNat_natCast,List.getD_eq_getElem?_getD,List.getElem?_map,List.getElem?_eq_getElem hi]; rfl
   rw [hrd,Int.toNat_natCast] at hcell
   have hmem:ms[i] ∈ ms:=List.getElem_mem hi
   have HFm:=am_ (HF.out _ hmem)
   have HTK:Aside0 ((ms.take (i + 1)).map F = (ms.take i).map F ++ [F ms[i]]):=⟨by rw [List.take_succ_eq_append_getElem hi,List.map_append]; rfl⟩
   have HLT:Aside0 (((ms.take i).map F).length ≤ 1000000000):=⟨by rw [List.length_map,List.length_take]; omega⟩
   clear hrd hmem
   generalize ms[i] = m at hcell HFm HTK
   subst eA
   have q0:wr.cell? ⟨w.heap.size,0,none⟩ = some (.int .i64 gw):=(bc_ HG.out 0).trans rfl
   have q1:wr.cell? ⟨w.heap.size,1,none⟩ = some (.int .i64 gh):=(bc_ HG.out 1).trans rfl
   have e1:IntKind.i64.wrap ((i:Int) + 1) = (i:Int) + 1:=IntWalk.i64_in _ (by omega)
   generalize (ms.take i).map F = X at HS HTK HLT
   go_wp2_with (first
    | (go_at_call 55; refine (impl_grid_figure.calls gw gh (m:Int) _ _ _ _ _ (HTB.out.below HB.out) HFm.out).mono ?_; rintro e w2 ⟨v2,v3,rfl,r2,r3,hb⟩; have R2:=am_ r2; have R3:=am_ r3; have HB2:=am_ (below_step HB.out hb); have HG2:=am_ (blk_keep HG.out hb); have HX2:Aside0 (Kd.S kF 26 w2 w.heap.size (fun k => k < wr.heap.size) u5 X):=⟨Kd.S_below (Kd.S_mono (Kd.S_bound HS.out) (fun k hk => hk.2.2.1)) hb⟩; have PM:=am_ (figApp_M (x:=F m) r2 r3 HB.out.size); have PK:=am_ (figApp_ne (x:=F m) r2 r3 (Kd.S_lt HS.out)); have PO:=am_ (figApp_not (x:=F m) r2 r3); clear r2 r3 hb q0 q1)
    | (at_builtin; refine Kd.S_append kF (w0:=w) w.heap.size rfl _ _ _ _ _ 64 rfl Tryz.underlying33 hi26 rfl (by decide) (by decide) u5 X (F m) [.int .i64 (F m).f0,.int .i64 (F m).f1,v2,v3] (fun _ => True) (fun k => some k = v2.ownBlock ∨ some k = v3.ownBlock) rfl rfl ?xP ?xK (fun _ _ => trivial) ?xO HB2.out ?xB ?xL ?_; (case xP => exact PM.out); (case xK => exact fun k hk => ⟨trivial,PK.out k hk⟩); (case xO => exact Kd.S_mono HX2.out (fun k hk => ⟨trivial,PO.out k hk⟩)); (case xB => exact HB2.out.size); (case xL => have h_:=HLT.out; omega); intro v4 w4 hS hB hg hat; have HS4:=am_ hS; have HB4:=am_ hB; have HG4:Aside0 (w4.heap[w.heap.size]? = some (.cells #[.int .i64 gw,.int .i64 gh] 56 (0,0))):=⟨blk_grown HG2.out hg (Kd.S_ne HX2.out HG2.out (by decide))⟩; clear hS hB hg hat))
   go_roundg (n + 1 - (i + 1))
   case measure => omega
   case rel => exact ⟨i + 1,by omega,Nat.le_refl _,by go_num,⟨by rw [HTK.out]; exact HS4.out⟩,HG4,HB4⟩
  ·have hlz:¬ (i:Int) < (n:Int):=by omega
   obtain rfl:i = n:=by omega
   have hall:ms.take i = ms:=List.take_of_length_le (by rw [HN.out]; exact Nat.le_refl _)
   have HS9:Aside0 (Kd.S kF 26 wr w.heap.size (fun _ => True) u5 (ms.map F)):=⟨by have h:=HS.out; rw [hall] at h; exact h⟩
   obtain ⟨A5,c5,rfl⟩:=Kd.S_slice HS9.out
   have HSORT:Aside0 (Calls Tryz.prog 56 #[.slice A5 (ms.map F).length c5,.func (.func 57) #[] #[]] wr fun e w' => e = .returned (.tuple #[]) ∧ ∃ is:List Nat,is.Perm (List.range (ms.map F).length) ∧ (is.Pairwise fun a b => ¬ Lib.compareBytes (T (ms.getD b 0)).data.toList (T (ms.getD a 0)).data.toList < 0) ∧
     Kd.S kF 26 w' w.heap.size (fun _ => True) (.slice A5 (ms.map F).length c5) (is.map fun i => (ms.map F).getD i ⟨0,0,[],[]⟩) ∧ Below w.heap.size wr w'):=⟨sortFig_any k (ms.map F) (fun i => T (ms.getD i 0)) w.heap.size (fun _ => True) A5 c5 wr HS9.out (fun i x hx => by
    rw [List.getElem?_map] at hx
    obtain ⟨m,hm,rfl⟩:=Option.map_eq_some_iff.1 hx
    have e:ms.getD i 0 = m:=by rw [List.getD_eq_getElem?_getD,hm]; rfl
    rw [e]
    exact HT.out m (List.mem_of_getElem? hm)) (by rw [List.length_map,HN.out]; omega)⟩
   generalize hNN:(ms.map F).length = N at HSORT
   have HNN:=am_ hNN
   clear hNN
   have HBr:=HB
   clear HS HS9 HG HB hall
   go_wp2_with (go_at_call 56; refine HSORT.out.mono ?_; rintro e w3 ⟨rfl,is,hp,hpw,hS,hb⟩)
   have HE:=am_ (HBr.out.trans (hb.mono (Nat.le_refl _)))
   go_ret
   refine ⟨_,rfl,is.map fun i => ms.getD i 0,?_,?_,?_,HE.out⟩
   ·have h1:=hp.map (fun i => ms.getD i 0)
    rw [show N = ms.length by rw [← HNN.out,List.length_map],getD_range] at h1
    exact h1
   ·rw [List.pairwise_map]; exact hpw
   ·rw [List.map_map]
    rw [show (is.map (F ∘ fun i => ms.getD i 0)) = is.map fun i => (ms.map F).getD i ⟨0,0,[],[]⟩ from List.map_congr_left fun i hi => by
     have h1:i < ms.length:=by
      have h2:=List.mem_range.1 (hp.mem_iff.1 hi)
      rwa [← HNN.out,List.length_map] at h2
     show F (ms.getD i 0) = _
     rw [List.getD_eq_getElem?_getD,List.getD_eq_getElem?_getD,List.getElem?_map,List.getElem?_eq_getElem h1]
     rfl]
    exact hS


def shown_T4:Bool × List (List Nat × List Nat):=(true,[([],[]),([0],[0]),([1],[1]),([],[]),([],[]),([3,4,2],[3,4]),([2,5,5],[2,5]),([6,6,0,1,2,3,4,5,6],[6]),([7,0,1,2,3,4,5,6,7],[])])
def shown_B4:List Nat:=[0,1,3,0,0,31,63,127,255]
theorem shown_tab4:rtab .any (opsOf Tryz.f33 4) = shown_T4:=by kernel_rfl
theorem shown_bits4:waitsOk shown_T4.2 shown_B4 = true:=by kernel_rfl
theorem S_lower {α:Type} {k:Kd α} {e:TypeId} {w:World} {B B':Nat} {ok:Nat → Prop} {v:Value} {xs:List α} (h:Kd.S k e w B ok v xs) (hB:B' ≤ B):Kd.S k e w B' ok v xs:=by
 obtain ⟨f,hr⟩:=h
 exact ⟨f,Kd.R_lower hr hB⟩
set_option maxRecDepth 100000 in
set_option maxHeartbeats 16000000 in
theorem shown_no (K:Nat) (fW fH:Int) (A2 A3:Option Addr) (c2 c3:Nat) (l2 l3:List Int) (mt:Int) (mv:Bool) (sq:Int) (few:Bool) (s al:Nat) (L:List S100) (cnt nd:Nat → Int) (w:World)
  (hr2:Kd.C (Kd.int .i64) w A2 l2.length l2) (hc2:l2.length ≤ c2) (hr3:Kd.C (Kd.int .i64) w A3 l3.length l3) (hc3:l3.length ≤ c3) (hT:TB w) (hfew:impl_isFew.f K fW fH l2 l3 = some few) (hok:few = true → FigOK K fW fH l2 l3 s al L cnt nd) (h0:(countR few s al cnt nd mt mv sq false).2 = false ∨ 200 < (countR few s al cnt nd mt mv sq false).1) :
  Calls Tryz.prog 33 #[.agg #[.int .i64 fW,.int .i64 fH,.slice A2 l2.length c2,.slice A3 l3.length c3,.int .i64 mt,.bool mv],.int .i64 sq] w fun e w' => e = .returned (.tuple #[.slice none 0 0,.bool false]) ∧ Below w.heap.size w w':=by
 have HC:Aside0 (∃ (n:Int) (b:Bool),(b = false ∨ 200 < n) ∧ ∀ W,Below w.heap.size w W → Calls Tryz.prog 40 #[.agg #[.int .i64 fW,.int .i64 fH,.slice A2 l2.length c2,.slice A3 l3.length c3,.int .i64 mt,.bool mv],.int .i64 sq,.bool false] W fun e w' => e = .returned (.tuple #[.int .i64 n,.bool b]) ∧ Below W.heap.size W w'):=⟨_,_,h0,fun W hB =>
  count_any K fW fH A2 A3 c2 c3 l2 l3 mt mv sq false few s al L cnt nd W (Kd.C_below hr2 hB) hc2 (Kd.C_below hr3 hB) hc3 (hT.below hB) hfew hok⟩
 clear hr2 hc2 hr3 hc3 hT hfew hok h0
 generalize l2.length = n2 at HC ⊢
 generalize l3.length = n3 at HC ⊢
 obtain ⟨n,b,h0,HC⟩:=HC.out
 have HC:=am_ HC
 cases b with
 | false =>
  clear h0
  go_enter Tryz.func33,Tryz.ntmps33
  go_wp2_with ((go_at_call 40; refine (HC.out _ (below_alloc (Below.refl _ _) _)).mono ?_; rintro e w1 ⟨rfl,hb⟩; have HB:=am_ (below_step (below_alloc (Below.refl w.heap.size w) (.cells #[.int .i64 fW,.int .i64 fH,.slice A2 n2 c2,.slice A3 n3 c3,.int .i64 mt,.bool mv] 42)) hb); clear hb))
  go_ret2
  exact ⟨rfl,by first | exact HB.out | exact below_drew1 HB.out⟩
 | true =>
  have h2:200 < n:=by simpa using h0
  clear h0
  go_enter Tryz.func33,Tryz.ntmps33
  go_wp2_with ((go_at_call 40; refine (HC.out _ (below_alloc (Below.refl _ _) _)).mono ?_; rintro e w1 ⟨rfl,hb⟩; have HB:=am_ (below_step (below_alloc (Below.refl w.heap.size w) (.cells #[.int .i64 fW,.int .i64 fH,.slice A2 n2 c2,.slice A3 n3 c3,.int .i64 mt,.bool mv] 42)) hb); clear hb))
  go_ret2
  exact ⟨rfl,by first | exact HB.out | exact below_drew1 HB.out⟩
set_option maxRecDepth 100000 in
set_option maxHeartbeats 16000000 in
theorem shown_yes (K:Nat) (fW fH:Int) (A2 A3:Option Addr) (c2 c3:Nat) (l2 l3:List Int) (mn:Nat) (mv:Bool) (sq:Int) (s al:Nat) (L:List S100) (cnt nd:Nat → Int) (F:Nat → S26) (T:Nat → ByteArray) (R:List S26) (ws:List Nat) (w:World)
  (hr2:Kd.C (Kd.int .i64) w A2 l2.length l2) (hc2:l2.length ≤ c2) (hr3:Kd.C (Kd.int .i64) w A3 l3.length l3) (hc3:l3.length ≤ c3) (hT:TB w) (hfew:impl_isFew.f K fW fH l2 l3 = some true) (hok:FigOK K fW fH l2 l3 s al L cnt nd) (hm:rightM true (mn:Int) mv = true) (hq:numQ sq = true)
  (hws:((waysW mv mn al s).filter (withP cnt nd sq false)) = ws) (hwl:ws.length ≤ 200) (hF:∀ m ∈ ws,impl_grid_figure.f fW fH (m:Int) = some ((F m).f0,(F m).f1,(F m).f2,(F m).f3)) (hTx:∀ m ∈ ws,impl_figureText.f K (F m).f0 (F m).f1 (F m).f2 (F m).f3 = some (T m))
  (hR:∀ ps:List Nat,ps.Perm ws → (ps.Pairwise fun a b => ¬ Lib.compareBytes (T b).data.toList (T a).data.toList < 0) → ps.map F = R) :
  Calls Tryz.prog 33 #[.agg #[.int .i64 fW,.int .i64 fH,.slice A2 l2.length c2,.slice A3 l3.length c3,.int .i64 (mn:Int),.bool mv],.int .i64 sq] w fun e w' => ∃ v:Value,e = .returned (.tuple #[v,.bool true]) ∧ Kd.S kF 26 w' w.heap.size (fun _ => True) v R ∧ Below w.heap.size w w':=by
 have hm2:mn ≤ if mv then 2 else 4:=by
  unfold rightM mostM at hm
  cases mv <;> simp at hm ⊢ <;> omega
 have HC:Aside0 (∀ W,Below w.heap.size w W → Calls Tryz.prog 40 #[.agg #[.int .i64 fW,.int .i64 fH,.slice A2 l2.length c2,.slice A3 l3.length c3,.int .i64 (mn:Int),.bool mv],.int .i64 sq,.bool false] W fun e w' => e = .returned (.tuple #[.int .i64 (ws.length:Int),.bool true]) ∧ Below W.heap.size W w'):=⟨fun W hB => by
  refine (count_any K fW fH A2 A3 c2 c3 l2 l3 (mn:Int) mv sq false true s al L cnt nd W (Kd.C_below hr2 hB) hc2 (Kd.C_below hr3 hB) hc3 (hT.below hB) hfew (fun _ => hok)).mono ?_
  rintro e w' ⟨rfl,hb⟩
  unfold countR
  rw [if_pos ⟨hm,hq⟩,Int.toNat_natCast,hws]
  exact ⟨rfl,hb⟩⟩
 have HGR0:Aside0 (∀ W,Below w.heap.size w W → Calls Tryz.prog 41 #[.agg #[.int .i64 fW,.int .i64 fH,.slice A2 l2.length c2,.slice A3 l3.length c3]] W fun e w' => e = .returned (.agg #[.int .i64 fW,.int .i64 fH]) ∧ Below W.heap.size W w'):=⟨fun W hB => impl_Figure_grid.calls fW fH A2 c2 l2 A3 c3 l3 fW fH W (Kd.C_below hr2 hB) hc2 (Kd.C_below hr3 hB) hc3 rfl⟩
 have HWI0:Aside0 (∀ W,Below w.heap.size w W → Calls Tryz.prog 43 #[.agg #[.int .i64 fW,.int .i64 fH,.slice A2 l2.length c2,.slice A3 l3.length c3,.int .i64 (mn:Int),.bool mv],.int .i64 sq,.bool false] W fun e w' => ∃ v,e = .returned v ∧ Kd.R (Kd.int .u64) 72 w' W.heap.size (fun _ => True) v (setI ws) ∧ Below W.heap.size W w'):=⟨fun W hB => by
  have h:=with_any K fW fH A2 A3 c2 c3 l2 l3 mn s al mv sq false L cnt nd W (Kd.C_below hr2 hB) hc2 (Kd.C_below hr3 hB) hc3 (hT.below hB) hm2 hok.hs hok.hal hok.hset hok.ha hok.hsq hok.hcn hok.hnd
  rwa [hws] at h⟩
 have HFS0:Aside0 (∀ W (A:Option Addr) (c:Nat),Below w.heap.size w W → Kd.C (Kd.int .u64) W A (setI ws).length (setI ws) → Calls Tryz.prog 42 #[.agg #[.int .i64 fW,.int .i64 fH],.slice A ws.length c] W fun e w' => ∃ v:Value,e = .returned v ∧ Kd.S kF 26 w' W.heap.size (fun _ => True) v R ∧ Below W.heap.size W w'):=⟨fun W A c hB hr => (figures_any K fW fH ws F T hF hTx A c W (by
  have h:=hr
  unfold setI at h
  rw [List.length_map] at h
  exact h) (by omega) (hT.below hB)).mono (by
   rintro e w' ⟨v,rfl,ps,hp,hpw,hS,hb⟩
   rw [hR ps hp hpw] at hS
   exact ⟨v,rfl,hS,hb⟩)⟩
 have HNW:Aside0 ((setI ws).length = ws.length):=⟨by unfold setI; rw [List.length_map]⟩
 have hn200:¬ (ws.length:Int) > 200:=by omega
 clear hr2 hc2 hr3 hc3 hT hfew hok hm hq hws hwl hF hTx hR hm2
 generalize l2.length = n2 at HC HGR0 HWI0 ⊢
 generalize l3.length = n3 at HC HGR0 HWI0 ⊢
 generalize (mn:Int) = mt at HC HWI0 ⊢
 generalize ws.length = nw at HC HNW HFS0 hn200
 go_enter Tryz.func33,Tryz.ntmps33
 go_wp2_with ((go_at_call 40; refine (HC.out _ (below_alloc (Below.refl _ _) _)).mono ?_; rintro e w1 ⟨rfl,hb⟩; have BK1:=am_ (blk_below (heap_alloc_new w (.cells #[.int .i64 fW,.int .i64 fH,.slice A2 n2 c2,.slice A3 n3 c3,.int .i64 mt,.bool mv] 42)) hb); have HB1:=am_ (below_step (below_alloc (Below.refl w.heap.size w) (.cells #[.int .i64 fW,.int .i64 fH,.slice A2 n2 c2,.slice A3 n3 c3,.int .i64 mt,.bool mv] 42)) hb); clear hb))
 have BK:Aside0 (w1.drew.heap[w.heap.size]? = some (.cells #[.int .i64 fW,.int .i64 fH,.slice A2 n2 c2,.slice A3 n3 c3,.int .i64 mt,.bool mv] 42 (0,0))):=⟨blk_drew BK1.out⟩
 have HB:Aside0 (Below w.heap.size w w1.drew):=⟨below_drew1 HB1.out⟩
 have HGR:Aside0 (∀ W,Below w1.drew.heap.size w1.drew W → Calls Tryz.prog 41 #[.agg #[.int .i64 fW,.int .i64 fH,.slice A2 n2 c2,.slice A3 n3 c3]] W fun e w' => e = .returned (.agg #[.int .i64 fW,.int .i64 fH]) ∧ Below W.heap.size W w'):=⟨fun W hB => HGR0.out W (below_step HB.out hB)⟩
 have HWI:Aside0 (∀ W,Below w1.drew.heap.size w1.drew W → Calls Tryz.prog 43 #[.agg #[.int .i64 fW,.int .i64 fH,.slice A2 n2 c2,.slice A3 n3 c3,.int .i64 mt,.bool mv],.int .i64 sq,.bool false] W fun e w' => ∃ v,e = .returned v ∧ Kd.R (Kd.int .u64) 72 w' W.heap.size (fun _ => True) v (setI ws) ∧ Below W.heap.size W w'):=⟨fun W hB => HWI0.out W (below_step HB.out hB)⟩
 have HFS:Aside0 (∀ W (A:Option Addr) (c:Nat),Below w1.drew.heap.size w1.drew W → Kd.C (Kd.int .u64) W A (setI ws).length (setI ws) → Calls Tryz.prog 42 #[.agg #[.int .i64 fW,.int .i64 fH],.slice A nw c] W fun e w' => ∃ v:Value,e = .returned v ∧ Kd.S kF 26 w' W.heap.size (fun _ => True) v R ∧ Below W.heap.size W w'):=⟨fun W A c hB hr => HFS0.out W A c (below_step HB.out hB) hr⟩
 clear HGR0 HWI0 HFS0 BK1 HB1 HC hn200
 refine start_ (n:=9) (S:=fun w' => w'.cell? ⟨w.heap.size,0,none⟩ = some (.int .i64 fW) ∧ w'.cell? ⟨w.heap.size,1,none⟩ = some (.int .i64 fH) ∧ w'.cell? ⟨w.heap.size,2,none⟩ = some (.slice A2 n2 c2) ∧ w'.cell? ⟨w.heap.size,3,none⟩ = some (.slice A3 n3 c3) ∧ w'.cell? ⟨w.heap.size,4,none⟩ = some (.int .i64 mt) ∧ w'.cell? ⟨w.heap.size,5,none⟩ = some (.bool mv)) (ds:=[]) #[false,false,false,false,false,false,false,false,false] (by kernel_rfl) rfl rfl ⟨(bc_ BK.out 0).trans rfl,(bc_ BK.out 1).trans rfl,(bc_ BK.out 2).trans rfl,(bc_ BK.out 3).trans rfl,(bc_ BK.out 4).trans rfl,(bc_ BK.out 5).trans rfl⟩ (fun hHeld => ?_)
 refine with_tabW shown_tab4 shown_bits4 (fun HT_ HW_ => ?_)
 generalize w1.drew = W5 at BK HB HGR HWI HFS hHeld ⊢
 have hS:∀ w',Below W5.heap.size W5 w' → w'.cell? ⟨w.heap.size,0,none⟩ = some (.int .i64 fW) ∧ w'.cell? ⟨w.heap.size,1,none⟩ = some (.int .i64 fH) ∧ w'.cell? ⟨w.heap.size,2,none⟩ = some (.slice A2 n2 c2) ∧ w'.cell? ⟨w.heap.size,3,none⟩ = some (.slice A3 n3 c3) ∧ w'.cell? ⟨w.heap.size,4,none⟩ = some (.int .i64 mt) ∧ w'.cell? ⟨w.heap.size,5,none⟩ = some (.bool mv):=fun w' hb => ⟨(hb.cell (wl_ W5 _ (hHeld.1))).trans (hHeld.1),(hb.cell (wl_ W5 _ (hHeld.2.1))).trans (hHeld.2.1),(hb.cell (wl_ W5 _ (hHeld.2.2.1))).trans (hHeld.2.2.1),(hb.cell (wl_ W5 _ (hHeld.2.2.2.1))).trans (hHeld.2.2.2.1),(hb.cell (wl_ W5 _ (hHeld.2.2.2.2.1))).trans (hHeld.2.2.2.2.1),(hb.cell (wl_ W5 _ (hHeld.2.2.2.2.2))).trans (hHeld.2.2.2.2.2)⟩
 have HB5:Aside0 (Below W5.heap.size W5 W5):=⟨Below.refl _ _⟩
 refine pZ (i:=0) (N:=some 20) #[true,false,false,false,false,false,false,false,false] ?_
 refine pZ (i:=4) (N:=some 24) #[true,false,false,false,true,false,false,false,false] ?_
 refine tZ (i:=1) (N:=some 21) #[true,true,false,false,true,false,false,false,false] ?_
 refine tZ (i:=3) (N:=some 23) #[true,true,false,true,true,false,false,false,false] ?_
 refine one_ (i:=2) (N:=some 22) #[true,true,true,true,true,false,false,false,false] rfl rfl (one_of HT_.out (by kernel_rfl)) (by decide) (fun K hK => ?_)
 refine goes_ Tryz.func41 (by kernel_rfl) rfl #[.agg #[.int .i64 fW,.int .i64 fH,.slice A2 n2 c2,.slice A3 n3 c3]] (by rfl) rfl rfl (by (try simp only [List.map_toArray,List.map_cons,List.map_nil]); first | done | rfl) ?_
 with_reducible refine (HGR.out _ HB5.out).mono ?_
 rintro e v6 ⟨rfl,hb⟩
 refine ⟨_,rfl,?_⟩
 have n0_:=am_ (below_step HB5.out hb)
 clear HB5
 have HB5:=n0_
 clear n0_
 clear hb
 refine hK.out _ _ (hS _ HB5.out) (fun hHeld => ?_)
 clear hK K
 refine norm_ (a':=_) ap_ ?_
 refine one_ (i:=5) (N:=some 25) #[true,true,true,true,true,true,false,false,false] rfl rfl (one_of HT_.out (by kernel_rfl)) (by decide) (fun K hK => ?_)
 refine goes_ Tryz.func43 (by kernel_rfl) rfl #[.agg #[.int .i64 fW,.int .i64 fH,.slice A2 n2 c2,.slice A3 n3 c3,.int .i64 mt,.bool mv],.int .i64 sq,.bool false] (by rfl) rfl rfl (by (try simp only [List.map_toArray,List.map_cons,List.map_nil]); first | done | rfl) ?_
 with_reducible refine (HWI.out _ HB5.out).mono ?_
 rintro e v7 ⟨vw,rfl,hw,hb⟩
 refine ⟨_,rfl,?_⟩
 obtain ⟨Aw,cw,rfl⟩:=Kd.R_slice hw
 have HW:=am_ (Kd.R_reads' hw).2.2
 have n0_:=am_ (below_step HB5.out hb)
 clear HB5
 have HB5:=n0_
 clear n0_
 clear hb hw
 rw [HNW.out] at *
 refine hK.out _ _ (hS _ HB5.out) (fun hHeld => ?_)
 clear hK K
 refine norm_ (a':=_) ap_ ?_
 refine one_ (i:=6) (N:=some 26) #[true,true,true,true,true,true,true,false,false] rfl rfl (one_of HT_.out (by kernel_rfl)) (by decide) (fun K hK => ?_)
 refine goes_ Tryz.func42 (by kernel_rfl) rfl #[.agg #[.int .i64 fW,.int .i64 fH],.slice Aw nw cw] (by rfl) rfl rfl (by (try simp only [List.map_toArray,List.map_cons,List.map_nil]); first | done | rfl) ?_
 with_reducible refine (HFS.out _ Aw cw HB5.out HW.out).mono ?_
 rintro e v8 ⟨vf,rfl,hS8,hb⟩
 refine ⟨_,rfl,?_⟩
 have RS8:=am_ (S_lower hS8 HB5.out.size)
 have n0_:=am_ (below_step HB5.out hb)
 clear HB5
 have HB5:=n0_
 clear n0_
 clear hb hS8
 refine hK.out _ _ (hS _ HB5.out) (fun hHeld => ?_)
 clear hK K
 refine norm_ (a':=_) ap_ ?_
 refine pZ (i:=7) (N:=some 4) #[true,true,true,true,true,true,true,true,false] ?_
 refine pZ (i:=8) (N:=some 5) #[true,true,true,true,true,true,true,true,true] ?_
 refine done_ (done_of HT_.out (by kernel_rfl)) ?_
 try go_wp2
 go_ret2
 exact ⟨_,rfl,S_lower RS8.out HB.out.size,below_step HB.out HB5.out⟩


set_option maxRecDepth 100000 in
set_option maxHeartbeats 16000000 in
theorem impl_AllTakes_no (K:Nat) (fW fH:Int) (A2 A3:Option Addr) (c2 c3:Nat) (l2 l3:List Int) (mt sq:Int) (few:Bool) (s al:Nat) (L:List S100) (cnt nd:Nat → Int) (w:World)
    (hr2:Kd.C (Kd.int .i64) w A2 l2.length l2) (hc2:l2.length ≤ c2) (hr3:Kd.C (Kd.int .i64) w A3 l3.length l3) (hc3:l3.length ≤ c3) (hT:TB w) (hfew:impl_isFew.f K fW fH l2 l3 = some few) (hok:few = true → FigOK K fW fH l2 l3 s al L cnt nd) (h0:(countR few s al cnt nd mt false sq false).2 = false ∨ 200 < (countR few s al cnt nd mt false sq false).1) :
    Calls Tryz.prog 18 #[.agg #[.int .i64 fW,.int .i64 fH,.slice A2 l2.length c2,.slice A3 l3.length c3],.int .i64 mt,.int .i64 sq] w fun e w' => e = .returned (.tuple #[.slice none 0 0,.bool false]) ∧ Below w.heap.size w w':=by
  have HC:Aside0 (∀ W,Below w.heap.size w W → Calls Tryz.prog 33 #[.agg #[.int .i64 fW,.int .i64 fH,.slice A2 l2.length c2,.slice A3 l3.length c3,.int .i64 mt,.bool false],.int .i64 sq] W fun e w' => e = .returned (.tuple #[.slice none 0 0,.bool false]) ∧ Below W.heap.size W w'):=⟨fun W hB =>
    shown_no K fW fH A2 A3 c2 c3 l2 l3 mt false sq few s al L cnt nd W (Kd.C_below hr2 hB) hc2 (Kd.C_below hr3 hB) hc3 (hT.below hB) hfew hok h0⟩
  clear hr2 hc2 hr3 hc3 hT hfew hok h0
  generalize l2.length = n2 at HC ⊢
  generalize l3.length = n3 at HC ⊢
  go_enter Tryz.func18,Tryz.ntmps18
  go_wp2_with ((go_at_call 33; refine (HC.out _ (below_alloc (Below.refl _ _) _)).mono ?_; rintro e w1 ⟨rfl,hb⟩; have HB:=am_ (below_step (below_alloc (Below.refl w.heap.size w) (.cells #[.int .i64 fW,.int .i64 fH,.slice A2 n2 c2,.slice A3 n3 c3] 26)) hb); clear hb))
  go_ret2
  exact ⟨rfl,HB.out⟩
set_option maxRecDepth 100000 in
set_option maxHeartbeats 16000000 in
theorem impl_AllTakes_yes (K:Nat) (fW fH:Int) (A2 A3:Option Addr) (c2 c3:Nat) (l2 l3:List Int) (mn:Nat) (sq:Int) (s al:Nat) (L:List S100) (cnt nd:Nat → Int) (F:Nat → S26) (T:Nat → ByteArray) (R:List S26) (ws:List Nat) (w:World)
    (hr2:Kd.C (Kd.int .i64) w A2 l2.length l2) (hc2:l2.length ≤ c2) (hr3:Kd.C (Kd.int .i64) w A3 l3.length l3) (hc3:l3.length ≤ c3) (hT:TB w) (hfew:impl_isFew.f K fW fH l2 l3 = some true) (hok:FigOK K fW fH l2 l3 s al L cnt nd) (hm:rightM true (mn:Int) false = true) (hq:numQ sq = true)
    (hws:((waysW false mn al s).filter (withP cnt nd sq false)) = ws) (hwl:ws.length ≤ 200) (hF:∀ m ∈ ws,impl_grid_figure.f fW fH (m:Int) = some ((F m).f0,(F m).f1,(F m).f2,(F m).f3)) (hTx:∀ m ∈ ws,impl_figureText.f K (F m).f0 (F m).f1 (F m).f2 (F m).f3 = some (T m))
    (hR:∀ ps:List Nat,ps.Perm ws → (ps.Pairwise fun a b => ¬ Lib.compareBytes (T b).data.toList (T a).data.toList < 0) → ps.map F = R) :
    Calls Tryz.prog 18 #[.agg #[.int .i64 fW,.int .i64 fH,.slice A2 l2.length c2,.slice A3 l3.length c3],.int .i64 (mn:Int),.int .i64 sq] w fun e w' => ∃ v:Value,e = .returned (.tuple #[v,.bool true]) ∧ Kd.S kF 26 w' w.heap.size (fun _ => True) v R ∧ Below w.heap.size w w':=by
  have HC:Aside0 (∀ W,Below w.heap.size w W → Calls Tryz.prog 33 #[.agg #[.int .i64 fW,.int .i64 fH,.slice A2 l2.length c2,.slice A3 l3.length c3,.int .i64 (mn:Int),.bool false],.int .i64 sq] W fun e w' => ∃ v:Value,e = .returned (.tuple #[v,.bool true]) ∧ Kd.S kF 26 w' W.heap.size (fun _ => True) v R ∧ Below W.heap.size W w'):=⟨fun W hB =>
    shown_yes K fW fH A2 A3 c2 c3 l2 l3 mn false sq s al L cnt nd F T R ws W (Kd.C_below hr2 hB) hc2 (Kd.C_below hr3 hB) hc3 (hT.below hB) hfew hok hm hq hws hwl hF hTx hR⟩
  clear hr2 hc2 hr3 hc3 hT hfew hok hm hq hws hwl hF hTx hR
  generalize l2.length = n2 at HC ⊢
  generalize l3.length = n3 at HC ⊢
  generalize (mn:Int) = mt at HC ⊢
  go_enter Tryz.func18,Tryz.ntmps18
  go_wp2_with ((go_at_call 33; refine (HC.out _ (below_alloc (Below.refl _ _) _)).mono ?_; rintro e w1 ⟨v,rfl,hS,hb⟩; have RS:=am_ hS; have HB:=am_ (below_step (below_alloc (Below.refl w.heap.size w) (.cells #[.int .i64 fW,.int .i64 fH,.slice A2 n2 c2,.slice A3 n3 c3] 26)) hb); have HSZ:=am_ (below_alloc (Below.refl w.heap.size w) (.cells #[.int .i64 fW,.int .i64 fH,.slice A2 n2 c2,.slice A3 n3 c3] 26)).size; clear hb hS))
  go_ret2
  exact ⟨_,rfl,S_lower RS.out HSZ.out,HB.out⟩


mutual
def spec_sqFigure.l0:Nat → Int → Int → Int → Int → Int → Int → List Int → Option (Int × Int × List Int × List Int)
 | 0,_,_,_,_,_,_,_ => none
 | k + 1,x0,x1,x2,x8,x161000,x161001,x161002 => if x8 < (wrap64 (x0 * (wrap64 (x1 + 1)))) then ((spec_sqBit.f x0 x1 false x8).bind fun t161 => (if (Go.bits .and .i64 x2 t161) = 0 then (spec_sqFigure.l0 k x0 x1 x2 (wrap64 (x8 + 1)) x161000 x161001 x161002) else (if x161002.length < 17592186044416 then (spec_sqFigure.l0 k x0 x1 x2 (wrap64 (x8 + 1)) x161000 x161001 (x161002 ++ [x8])) else (none)))) else (spec_sqFigure.l1 k x0 x1 x2 0 x161000 x161001 x161002 ([]:List Int))
def spec_sqFigure.l1:Nat → Int → Int → Int → Int → Int → Int → List Int → List Int → Option (Int × Int × List Int × List Int)
 | 0,_,_,_,_,_,_,_,_ => none
 | k + 1,x0,x1,x2,x9,x161000,x161001,x161002,x161003 => if x9 < (wrap64 ((wrap64 (x0 + 1)) * x1)) then ((spec_sqBit.f x0 x1 true x9).bind fun t165 => (if (Go.bits .and .i64 x2 t165) = 0 then (spec_sqFigure.l1 k x0 x1 x2 (wrap64 (x9 + 1)) x161000 x161001 x161002 x161003) else (if x161003.length < 17592186044416 then (spec_sqFigure.l1 k x0 x1 x2 (wrap64 (x9 + 1)) x161000 x161001 x161002 (x161003 ++ [x9])) else (none)))) else (some (x161000,x161001,x161002,x161003))
end
def spec_sqFigure.f (k:Nat) (a0:Int) (a1:Int) (a2:Int):Option (Int × Int × List Int × List Int):=spec_sqFigure.l0 k a0 a1 a2 0 a0 a1 ([]:List Int)
theorem spec_sqFigure.mono_l:∀ k,(∀ y0 y1 y2 y3 y4 y5 y6,LeO (spec_sqFigure.l0 k y0 y1 y2 y3 y4 y5 y6) (spec_sqFigure.l0 (k + 1) y0 y1 y2 y3 y4 y5 y6)) ∧ (∀ y0 y1 y2 y3 y4 y5 y6 y7,LeO (spec_sqFigure.l1 k y0 y1 y2 y3 y4 y5 y6 y7) (spec_sqFigure.l1 (k + 1) y0 y1 y2 y3 y4 y5 y6 y7))
 | 0 => ⟨fun _ _ _ _ _ _ _ r h => by simp [spec_sqFigure.l0] at h,fun _ _ _ _ _ _ _ _ r h => by simp [spec_sqFigure.l1] at h⟩
 | k + 1 => by
  obtain ⟨ih0,ih1⟩:=spec_sqFigure.mono_l k
  refine ⟨?_,?_⟩
  ·intro y0 y1 y2 y3 y4 y5 y6
   unfold spec_sqFigure.l0
   repeat' first | (with_reducible first | exact ih0 _ _ _ _ _ _ _ | exact ih1 _ _ _ _ _ _ _ _ | exact LeO.refl _ | exact LeO.none _ | refine LeO.ite ?_ ?_ | refine LeO.bind ?_ (fun _ => ?_)) | exact ih0 _ _ _ _ _ _ _ | exact ih1 _ _ _ _ _ _ _ _
  ·intro y0 y1 y2 y3 y4 y5 y6 y7
   unfold spec_sqFigure.l1
   repeat' first | (with_reducible first | exact ih0 _ _ _ _ _ _ _ | exact ih1 _ _ _ _ _ _ _ _ | exact LeO.refl _ | exact LeO.none _ | refine LeO.ite ?_ ?_ | refine LeO.bind ?_ (fun _ => ?_)) | exact ih0 _ _ _ _ _ _ _ | exact ih1 _ _ _ _ _ _ _ _
theorem spec_sqFigure.mono:∀ a0 a1 a2 k,LeO (spec_sqFigure.f k a0 a1 a2) (spec_sqFigure.f (k + 1) a0 a1 a2):=by
 intro a0 a1 a2 k
 obtain ⟨ih0,ih1⟩:=spec_sqFigure.mono_l k
 unfold spec_sqFigure.f
 repeat' first | (with_reducible first | exact ih0 _ _ _ _ _ _ _ | exact ih1 _ _ _ _ _ _ _ _ | exact LeO.refl _ | exact LeO.none _ | refine LeO.ite ?_ ?_ | refine LeO.bind ?_ (fun _ => ?_)) | exact ih0 _ _ _ _ _ _ _ | exact ih1 _ _ _ _ _ _ _ _
set_option maxHeartbeats 8000000 in
set_option maxRecDepth 100000 in
theorem spec_sqFigure.calls (k:Nat) (a0:Int) (a1:Int) (a2:Int) (r1:Int) (r2:Int) (r3:List Int) (r4:List Int) (w:World) (h:spec_sqFigure.f k a0 a1 a2 = some (r1,r2,r3,r4)) :
  Calls Tryz.prog 37 #[.int .i64 a0,.int .i64 a1,.int .i64 a2] w fun e w' => ∃ v2_ v3_:Value,e = .returned (.agg #[.int .i64 r1,.int .i64 r2,v2_,v3_]) ∧ Kd.R (Kd.int .i64) 3 w' w.heap.size (fun k_ => some k_ ≠ (v3_:Value).ownBlock) v2_ r3 ∧ Kd.R (Kd.int .i64) 3 w' w.heap.size (fun k_ => some k_ ≠ (v2_:Value).ownBlock) v3_ r4 ∧ Below w.heap.size w w':=by
 have hu26:=Tryz.underlying26
 have HB:=am_ (Below.refl w.heap.size w)
 have H:(spec_sqFigure.l0 k a0 a1 a2 0 a0 a1 ([]:List Int)) = some (r1,r2,r3,r4):=h
 clear h
 have H':=am_ H
 clear H
 go_enter Tryz.func37,Tryz.ntmps37
 go_wp2_with (first | ((with_reducible refine gate_dst (N:=6) rfl ?_); refine boxE_ (N:=6) (cs:=#[.int .i64 0,.int .i64 0,.slice none 0 0,.slice none 0 0]) (t:=26) ?_; intro gb159 hg w4 hbox hb; have n0_:=am_ (below_step (bl0_ HB.out) hb); have n1_:=am_ (hbox); have n2_:=am_ ((bs0_ hg HB.out:w.heap.size ≤ gb159)); have n3_:=am_ ((bs0_ hg HB.out:w.heap.size ≤ gb159)); clear HB; have HB:=n0_; have BK159:=n1_; have GW159:=n2_; have GE159:=n3_; clear n0_ n1_ n2_ n3_; clear hb hbox hg) | ((with_reducible refine gate_dst (N:=7) rfl ?_); refine boxE_ (N:=7) (cs:=#[.int .i64 0,.int .i64 0,.slice none 0 0,.slice none 0 0]) (t:=26) ?_; intro gb160 hg w5 hbox hb; have n0_:=am_ (bb_ BK159.out hb); have n1_:=am_ (below_step (bl1_ HB.out GE159.out) hb); have n2_:=am_ (hbox); have n3_:=am_ ((bs1_ hg HB.out GE159.out:w.heap.size ≤ gb160)); have n4_:=am_ ((bs1_ hg HB.out GE159.out:w.heap.size ≤ gb160)); have n5_:=am_ ((nl_ hg BK159.out:gb159 ≠ gb160)); have n6_:=am_ ((ng_ hg BK159.out:gb160 ≠ gb159)); clear BK159; clear HB; have BK159:=n0_; have HB:=n1_; have BK160:=n2_; have GW160:=n3_; have GE160:=n4_; have NB159_160:=n5_; have NB160_159:=n6_; clear n0_ n1_ n2_ n3_ n4_ n5_ n6_; clear hb hbox hg; have hnb6:=NB160_159.out; have hnc6:=NB159_160.out; have hcz7_0:w5.cell? ⟨gb160,0,none⟩ = some (.int .i64 0):=(bc_ BK160.out 0).trans rfl; have hcz7_1:w5.cell? ⟨gb160,1,none⟩ = some (.int .i64 0):=(bc_ BK160.out 1).trans rfl; have hcz7_2:w5.cell? ⟨gb160,2,none⟩ = some (.slice none 0 0):=(bc_ BK160.out 2).trans rfl; have hcz7_3:w5.cell? ⟨gb160,3,none⟩ = some (.slice none 0 0):=(bc_ BK160.out 3).trans rfl; have hfz7_0:=bz_ BK160.out 0; have hfz7_1:=bz_ BK160.out 1; have hfz7_2:=bz_ BK160.out 2; have hfz7_3:=bz_ BK160.out 3))
 go_loopg [8] k (fun kq v8 w' => ∃ (x8_1:Int) (x161002_1:List Int) (u161002:Value),v8 = .int .i64 x8_1 ∧ Aside0 (spec_sqFigure.l0 kq a0 a1 a2 x8_1 a0 a1 x161002_1 = some (r1,r2,r3,r4)) ∧ Aside0 (kq ≤ k) ∧ Aside0 (Kd.R (Kd.int .i64) 3 w' w.heap.size (fun _ => True) u161002 x161002_1) ∧ Aside0 (w'.heap[gb159]? = some (.cells #[.int .i64 0,.int .i64 0,(.slice none 0 0),(.slice none 0 0)] 26 (0,0))) ∧ Aside0 (w'.heap[gb160]? = some (.cells #[.int .i64 a0,.int .i64 a1,u161002,(.slice none 0 0)] 26 (0,0))) ∧ Aside0 (Below w.heap.size w w'))
 case atStart => exact ⟨(0),(([]:List Int)),(.slice none 0 0),rs_,H',⟨Nat.le_refl _⟩,⟨by first | exact Kd.R_nil _ _ _ _ _ | exact Kd.N_nil _ _ _ _ _ | exact Kd.V_nil _ _ _ _ _ | exact Kd.Q_nil _ _ _ _ _ | exact Kd.S_nil _ _ _ _ _⟩,⟨bf4_ NB159_160.out NB159_160.out NB159_160.out NB159_160.out BK159.out⟩,⟨by (with_reducible repeat (first | refine blk_drewN ?_ _ | refine blk_drew ?_ | refine blk_alloc ?_ _)); refine blk_put (cs:=#[.int .i64 a0,.int .i64 a1,.slice none 0 0,.slice none 0 0]) ?_ 3 _ rfl; (with_reducible repeat (first | refine blk_drewN ?_ _ | refine blk_drew ?_ | refine blk_alloc ?_ _)); refine blk_put (cs:=#[.int .i64 a0,.int .i64 a1,.slice none 0 0,.slice none 0 0]) ?_ 2 _ rfl; (with_reducible repeat (first | refine blk_drewN ?_ _ | refine blk_drew ?_ | refine blk_alloc ?_ _)); refine blk_put (cs:=#[.int .i64 a0,.int .i64 0,.slice none 0 0,.slice none 0 0]) ?_ 1 _ rfl; (with_reducible repeat (first | refine blk_drewN ?_ _ | refine blk_drew ?_ | refine blk_alloc ?_ _)); refine blk_put (cs:=#[.int .i64 0,.int .i64 0,.slice none 0 0,.slice none 0 0]) ?_ 0 _ rfl; (with_reducible repeat (first | refine blk_drewN ?_ _ | refine blk_drew ?_ | refine blk_alloc ?_ _)); exact BK160.out⟩,⟨bl2_ HB.out GE159.out GE160.out⟩⟩
 case round =>
  clear H'
  try clear p2
  try clear c3
  try clear c6
  try clear hcz7_0
  try clear hcz7_1
  try clear hcz7_2
  try clear hcz7_3
  try clear hfz7_0
  try clear hfz7_1
  try clear hfz7_2
  try clear hfz7_3
  obtain ⟨x8_1,x161002_1,u161002,rfl,HA,HK1,HO_161002,BK159,BK160,HB⟩:=hrel
  cases gk with
  | zero => exact absurd HA.out (by simp [spec_sqFigure.l0])
  | succ k1 =>
   have H:=HA.out
   clear HA
   simp only [spec_sqFigure.l0] at H
   by_cases c8:x8_1 < (wrap64 (a0 * (wrap64 (a1 + 1))))
   ·rw [if_pos c8] at H
    have c8b0:decide (x8_1 < (wrap64 (a0 * (wrap64 (a1 + 1))))) = true:=decide_eq_true c8
    clear c8
    replace H:=bi_ H
    obtain ⟨t161,A90,H⟩:=H
    replace H:(if (Go.bits .and .i64 a2 t161) = 0 then (spec_sqFigure.l0 k1 a0 a1 a2 (wrap64 (x8_1 + 1)) a0 a1 x161002_1) else (if x161002_1.length < 17592186044416 then (spec_sqFigure.l0 k1 a0 a1 a2 (wrap64 (x8_1 + 1)) a0 a1 (x161002_1 ++ [x8_1])) else (none))) = some (r1,r2,r3,r4):=H
    have A9:=am_ A90
    clear A90
    by_cases c10:(Go.bits .and .i64 a2 t161) = 0
    ·rw [if_pos c10] at H
     have c10b0:((Go.bits .and .i64 a2 t161) == 0) = true:=beq_iff_eq.mpr c10
     have c10b1:((Go.bits .and .i64 a2 t161) != 0) = false:=bne_eq_false_iff_eq.mpr c10
     clear c10
     have H':=am_ H
     clear H
     go_wp2_with (first | ((with_reducible refine gate_callee (f:=51) rfl ?_); refine goesL_ (some 25) rfl rfl Tryz.func51 (by kernel_rfl) rfl #[.int .i64 a0,.int .i64 a1,.bool false,.int .i64 x8_1] rfl ob_ ?_; (with_reducible refine (spec_sqBit.calls a0 a1 false x8_1 t161 _ A9.out).mono ?_); rintro e w' ⟨rfl,⟨nd,rfl⟩⟩; refine ⟨_,rfl,?_⟩))
     go_roundg k1
     case measure => have:=HK1.out; omega
     case rel => exact ⟨(wrap64 (x8_1 + 1)),(x161002_1),(u161002),rs_,H',⟨by have:=HK1.out; omega⟩,⟨kr_ HO_161002.out⟩,⟨bk_ BK159.out⟩,⟨bk_ BK160.out⟩,⟨bl2_ HB.out GE159.out GE160.out⟩⟩
    ·rw [if_neg c10] at H
     have c10b0:((Go.bits .and .i64 a2 t161) == 0) = false:=beq_eq_false_iff_ne.mpr c10
     have c10b1:((Go.bits .and .i64 a2 t161) != 0) = true:=bne_iff_ne.mpr c10
     by_cases c11:x161002_1.length < 17592186044416
     ·rw [if_pos c11] at H
      have LMc11:=am_ c11
      clear c11
      obtain ⟨y162,hy162⟩:∃ y_:List Int,y_ = (x161002_1 ++ [x8_1]):=⟨_,rfl⟩
      replace H:(spec_sqFigure.l0 k1 a0 a1 a2 (wrap64 (x8_1 + 1)) a0 a1 y162) = some (r1,r2,r3,r4):=by first | (rw [hy162]; with_reducible exact H) | (have H2_:=(Option.bind_some _ _).symm.trans H; rw [hy162]; with_reducible exact H2_) | (have H2_:=(Option.bind_some _ _).symm.trans H; with_reducible exact H2_) | with_reducible exact H | (rw [hy162]; exact H) | exact H
      have Ny162:=am_ hy162
      clear hy162
      have H':=am_ H
      clear H
      go_wp2_with (first | ((with_reducible refine gate_callee (f:=51) rfl ?_); refine goesL_ (some 25) rfl rfl Tryz.func51 (by kernel_rfl) rfl #[.int .i64 a0,.int .i64 a1,.bool false,.int .i64 x8_1] rfl ob_ ?_; (with_reducible refine (spec_sqBit.calls a0 a1 false x8_1 t161 _ A9.out).mono ?_); rintro e w' ⟨rfl,⟨nd,rfl⟩⟩; refine ⟨_,rfl,?_⟩; (try (rw [drewN_self wr]; generalize hq_:World.drewN wr _ = wr; have n0_:Aside0 (Kd.R (Kd.int .i64) 3 wr w.heap.size (fun _ => True) u161002 x161002_1):=⟨by rw [← hq_]; exact (kr_ HO_161002.out)⟩; have n1_:Aside0 (wr.heap[gb159]? = some (.cells #[.int .i64 0,.int .i64 0,.slice none 0 0,.slice none 0 0] 26 (0,0))):=⟨by rw [← hq_]; exact (bk_ BK159.out)⟩; have n2_:Aside0 (wr.heap[gb160]? = some (.cells #[.int .i64 a0,.int .i64 a1,u161002,.slice none 0 0] 26 (0,0))):=⟨by rw [← hq_]; exact (bk_ BK160.out)⟩; have n3_:Aside0 (Below w.heap.size w wr):=⟨by rw [← hq_]; exact (bl2_ HB.out GE159.out GE160.out)⟩; clear HO_161002 BK159 BK160 HB hq_; have HO_161002:=n0_; have BK159:=n1_; have BK160:=n2_; have HB:=n3_; clear n0_ n1_ n2_ n3_)); have hnb12:=NB160_159.out; have hnc12:=NB159_160.out; have hcz13_0:wr.cell? ⟨gb160,0,none⟩ = some (.int .i64 a0):=(bc_ BK160.out 0).trans rfl; have hcz13_1:wr.cell? ⟨gb160,1,none⟩ = some (.int .i64 a1):=(bc_ BK160.out 1).trans rfl; have hcz13_2:wr.cell? ⟨gb160,2,none⟩ = some (u161002):=(bc_ BK160.out 2).trans rfl; have hcz13_3:wr.cell? ⟨gb160,3,none⟩ = some (.slice none 0 0):=(bc_ BK160.out 3).trans rfl; have hfz13_0:=bz_ BK160.out 0; have hfz13_1:=bz_ BK160.out 1; have hfz13_2:=bz_ BK160.out 2; have hfz13_3:=bz_ BK160.out 3) | ((with_reducible refine gate_builtin (b:=.append) (xs:=#[.tmp 29,.tmp 31]) rfl ?_); at_builtin; refine Kd.R_append (Kd.int .i64) (w0:=w) w.heap.size rfl (.tmp 29) (.tmp 31) 22 3 (.int .i64 0) 8 rfl Tryz.underlying22 info3 rfl (by decide) (by omega) u161002 x161002_1 x8_1 [.int .i64 x8_1] (fun _ => True) (fun _ => False) rfl rfl ?aP (fun _ hk => hk.elim) ?aF ?aO ?aB ?aS ?aL ?_; (case aP => exact rfl); (case aB => exact (bl2_ HB.out GE159.out GE160.out)); (case aF => exact (fun _ _ => trivial)); (case aO => exact (kr_ HO_161002.out)); (case aS => exact (below_size (bl2_ HB.out GE159.out GE160.out))); (case aL => have:=LMc11.out; omega); intro v163 w14 ho hb hg hat; rw [← Ny162.out] at ho; have n0_:=am_ (blk_grown (g:=gb159) (o:=.cells #[.int .i64 0,.int .i64 0,.slice none 0 0,.slice none 0 0] 26 (0,0)) (bk_ BK159.out) hg (Kd.R_ne HO_161002.out BK159.out (by decide))); have n1_:=am_ (blk_grown (g:=gb160) (o:=.cells #[.int .i64 a0,.int .i64 a1,u161002,.slice none 0 0] 26 (0,0)) (bk_ BK160.out) hg (Kd.R_ne HO_161002.out BK160.out (by decide))); have n2_:=am_ (hb); have n3_:=am_ (ho); clear BK159; clear BK160; clear HB; clear HO_161002; have BK159:=n0_; have BK160:=n1_; have HB:=n2_; have HO164:=n3_; clear n0_ n1_ n2_ n3_; clear ho hb hg hat; obtain ⟨Ao15,co15,eo15⟩:=Kd.R_slice HO164.out; subst eo15; have hcz16_0:w14.cell? ⟨gb160,0,none⟩ = some (.int .i64 a0):=(bc_ BK160.out 0).trans rfl; have hcz16_1:w14.cell? ⟨gb160,1,none⟩ = some (.int .i64 a1):=(bc_ BK160.out 1).trans rfl; have hcz16_2:w14.cell? ⟨gb160,2,none⟩ = some (u161002):=(bc_ BK160.out 2).trans rfl; have hcz16_3:w14.cell? ⟨gb160,3,none⟩ = some (.slice none 0 0):=(bc_ BK160.out 3).trans rfl; have hfz16_0:=bz_ BK160.out 0; have hfz16_1:=bz_ BK160.out 1; have hfz16_2:=bz_ BK160.out 2; have hfz16_3:=bz_ BK160.out 3))
      go_roundg k1
      case measure => have:=HK1.out; omega
      case rel => exact ⟨(wrap64 (x8_1 + 1)),(y162),(.slice Ao15 y162.length co15),rs_,H',⟨by have:=HK1.out; omega⟩,⟨by (with_reducible repeat (first | apply Kd.R_alloc | apply Kd.R_drewN | apply Kd.R_drew)); exact Kd.R_mono (Kd.R_far (p:=⟨gb160,2,none⟩) (Kd.R_types HO164.out BK160.out (by decide)) (fun _ hk => hk.2) (.slice Ao15 y162.length co15)) (fun _ hk => trivial)⟩,⟨bf1_ NB159_160.out BK159.out⟩,⟨by (with_reducible repeat (first | refine blk_drewN ?_ _ | refine blk_drew ?_ | refine blk_alloc ?_ _)); refine blk_put (cs:=#[.int .i64 a0,.int .i64 a1,u161002,.slice none 0 0]) ?_ 2 _ rfl; (with_reducible repeat (first | refine blk_drewN ?_ _ | refine blk_drew ?_ | refine blk_alloc ?_ _)); exact BK160.out⟩,⟨bl2_ HB.out GE159.out GE160.out⟩⟩
     ·rw [if_neg c11] at H
      exact absurd H (by simp)
   ·rw [if_neg c8] at H
    have c8b0:decide (x8_1 < (wrap64 (a0 * (wrap64 (a1 + 1))))) = false:=decide_eq_false c8
    clear c8
    have H':=am_ H
    clear H
    go_wp2
    go_loopg [9] k1 (fun kq v9 w' => ∃ (x9_2:Int) (x161003_2:List Int) (u161003:Value),v9 = .int .i64 x9_2 ∧ Aside0 (spec_sqFigure.l1 kq a0 a1 a2 x9_2 a0 a1 x161002_1 x161003_2 = some (r1,r2,r3,r4)) ∧ Aside0 (kq ≤ k1) ∧ Aside0 (Kd.R (Kd.int .i64) 3 w' w.heap.size (fun k_ => some k_ ≠ (u161003:Value).ownBlock) u161002 x161002_1) ∧ Aside0 (Kd.R (Kd.int .i64) 3 w' w.heap.size (fun k_ => some k_ ≠ (u161002:Value).ownBlock) u161003 x161003_2) ∧ Aside0 (w'.heap[gb159]? = some (.cells #[.int .i64 0,.int .i64 0,(.slice none 0 0),(.slice none 0 0)] 26 (0,0))) ∧ Aside0 (w'.heap[gb160]? = some (.cells #[.int .i64 a0,.int .i64 a1,u161002,u161003] 26 (0,0))) ∧ Aside0 (Below w.heap.size w w'))
    case atStart => exact ⟨(0),(([]:List Int)),(.slice none 0 0),rs_,H',⟨Nat.le_refl _⟩,⟨by (with_reducible repeat (first | apply Kd.R_alloc | apply Kd.R_drewN | apply Kd.R_drew)); exact Kd.R_mono HO_161002.out (fun _ hk => (by simp [Value.ownBlock]))⟩,⟨by first | exact Kd.R_nil _ _ _ _ _ | exact Kd.N_nil _ _ _ _ _ | exact Kd.V_nil _ _ _ _ _ | exact Kd.Q_nil _ _ _ _ _ | exact Kd.S_nil _ _ _ _ _⟩,⟨bk_ BK159.out⟩,⟨bk_ BK160.out⟩,⟨bl2_ HB.out GE159.out GE160.out⟩⟩
    case round =>
     clear H'
     try clear c1
     try clear p2
     try clear c3
     try clear c5
     try clear c6
     try clear p6
     try clear c8
     try clear c8b0
     try clear c10
     try clear c10b0
     try clear c10b1
     try clear c11
     try clear c12
     try clear hcz13_0
     try clear hcz13_1
     try clear hcz13_2
     try clear hcz13_3
     try clear hcz16_0
     try clear hcz16_1
     try clear hcz16_2
     try clear hcz16_3
     try clear hcz7_0
     try clear hcz7_1
     try clear hcz7_2
     try clear hcz7_3
     try clear hfz13_0
     try clear hfz13_1
     try clear hfz13_2
     try clear hfz13_3
     try clear hfz16_0
     try clear hfz16_1
     try clear hfz16_2
     try clear hfz16_3
     try clear hfz7_0
     try clear hfz7_1
     try clear hfz7_2
     try clear hfz7_3
     try clear p2
     obtain ⟨x9_2,x161003_2,u161003,rfl,HA,HK2,HO_161002,HO_161003,BK159,BK160,HB⟩:=hrel
     cases gk with
     | zero => exact absurd HA.out (by simp [spec_sqFigure.l1])
     | succ k2 =>
      have H:=HA.out
      clear HA
      simp only [spec_sqFigure.l1] at H
      by_cases c17:x9_2 < (wrap64 ((wrap64 (a0 + 1)) * a1))
      ·rw [if_pos c17] at H
       have c17b0:decide (x9_2 < (wrap64 ((wrap64 (a0 + 1)) * a1))) = true:=decide_eq_true c17
       clear c17
       replace H:=bi_ H
       obtain ⟨t165,A180,H⟩:=H
       replace H:(if (Go.bits .and .i64 a2 t165) = 0 then (spec_sqFigure.l1 k2 a0 a1 a2 (wrap64 (x9_2 + 1)) a0 a1 x161002_1 x161003_2) else (if x161003_2.length < 17592186044416 then (spec_sqFigure.l1 k2 a0 a1 a2 (wrap64 (x9_2 + 1)) a0 a1 x161002_1 (x161003_2 ++ [x9_2])) else (none))) = some (r1,r2,r3,r4):=H
       have A18:=am_ A180
       clear A180
       by_cases c19:(Go.bits .and .i64 a2 t165) = 0
       ·rw [if_pos c19] at H
        have c19b0:((Go.bits .and .i64 a2 t165) == 0) = true:=beq_iff_eq.mpr c19
        have c19b1:((Go.bits .and .i64 a2 t165) != 0) = false:=bne_eq_false_iff_eq.mpr c19
        clear c19
        have H':=am_ H
        clear H
        go_wp2_with (first | ((with_reducible refine gate_callee (f:=51) rfl ?_); refine goesL_ (some 46) rfl rfl Tryz.func51 (by kernel_rfl) rfl #[.int .i64 a0,.int .i64 a1,.bool true,.int .i64 x9_2] rfl ob_ ?_; (with_reducible refine (spec_sqBit.calls a0 a1 true x9_2 t165 _ A18.out).mono ?_); rintro e w' ⟨rfl,⟨nd,rfl⟩⟩; refine ⟨_,rfl,?_⟩))
        go_roundg k2
        case measure => have:=HK1.out; have:=HK2.out; omega
        case rel => exact ⟨(wrap64 (x9_2 + 1)),(x161003_2),(u161003),rs_,H',⟨by have:=HK1.out; have:=HK2.out; omega⟩,⟨kr_ HO_161002.out⟩,⟨kr_ HO_161003.out⟩,⟨bk_ BK159.out⟩,⟨bk_ BK160.out⟩,⟨bl2_ HB.out GE159.out GE160.out⟩⟩
       ·rw [if_neg c19] at H
        have c19b0:((Go.bits .and .i64 a2 t165) == 0) = false:=beq_eq_false_iff_ne.mpr c19
        have c19b1:((Go.bits .and .i64 a2 t165) != 0) = true:=bne_iff_ne.mpr c19
        by_cases c20:x161003_2.length < 17592186044416
        ·rw [if_pos c20] at H
         have LMc20:=am_ c20
         clear c20
         obtain ⟨y166,hy166⟩:∃ y_:List Int,y_ = (x161003_2 ++ [x9_2]):=⟨_,rfl⟩
         replace H:(spec_sqFigure.l1 k2 a0 a1 a2 (wrap64 (x9_2 + 1)) a0 a1 x161002_1 y166) = some (r1,r2,r3,r4):=by first | (rw [hy166]; with_reducible exact H) | (have H2_:=(Option.bind_some _ _).symm.trans H; rw [hy166]; with_reducible exact H2_) | (have H2_:=(Option.bind_some _ _).symm.trans H; with_reducible exact H2_) | with_reducible exact H | (rw [hy166]; exact H) | exact H
         have Ny166:=am_ hy166
         clear hy166
         have H':=am_ H
         clear H
         go_wp2_with (first | ((with_reducible refine gate_callee (f:=51) rfl ?_); refine goesL_ (some 46) rfl rfl Tryz.func51 (by kernel_rfl) rfl #[.int .i64 a0,.int .i64 a1,.bool true,.int .i64 x9_2] rfl ob_ ?_; (with_reducible refine (spec_sqBit.calls a0 a1 true x9_2 t165 _ A18.out).mono ?_); rintro e w' ⟨rfl,⟨nd,rfl⟩⟩; refine ⟨_,rfl,?_⟩; (try (rw [drewN_self wr]; generalize hq_:World.drewN wr _ = wr; have n0_:Aside0 (Kd.R (Kd.int .i64) 3 wr w.heap.size (fun k_ => some k_ ≠ (u161003:Value).ownBlock) u161002 x161002_1):=⟨by rw [← hq_]; exact (kr_ HO_161002.out)⟩; have n1_:Aside0 (Kd.R (Kd.int .i64) 3 wr w.heap.size (fun k_ => some k_ ≠ (u161002:Value).ownBlock) u161003 x161003_2):=⟨by rw [← hq_]; exact (kr_ HO_161003.out)⟩; have n2_:Aside0 (wr.heap[gb159]? = some (.cells #[.int .i64 0,.int .i64 0,.slice none 0 0,.slice none 0 0] 26 (0,0))):=⟨by rw [← hq_]; exact (bk_ BK159.out)⟩; have n3_:Aside0 (wr.heap[gb160]? = some (.cells #[.int .i64 a0,.int .i64 a1,u161002,u161003] 26 (0,0))):=⟨by rw [← hq_]; exact (bk_ BK160.out)⟩; have n4_:Aside0 (Below w.heap.size w wr):=⟨by rw [← hq_]; exact (bl2_ HB.out GE159.out GE160.out)⟩; clear HO_161002 HO_161003 BK159 BK160 HB hq_; have HO_161002:=n0_; have HO_161003:=n1_; have BK159:=n2_; have BK160:=n3_; have HB:=n4_; clear n0_ n1_ n2_ n3_ n4_)); have hnb21:=NB160_159.out; have hnc21:=NB159_160.out; have hcz22_0:wr.cell? ⟨gb160,0,none⟩ = some (.int .i64 a0):=(bc_ BK160.out 0).trans rfl; have hcz22_1:wr.cell? ⟨gb160,1,none⟩ = some (.int .i64 a1):=(bc_ BK160.out 1).trans rfl; have hcz22_2:wr.cell? ⟨gb160,2,none⟩ = some (u161002):=(bc_ BK160.out 2).trans rfl; have hcz22_3:wr.cell? ⟨gb160,3,none⟩ = some (u161003):=(bc_ BK160.out 3).trans rfl; have hfz22_0:=bz_ BK160.out 0; have hfz22_1:=bz_ BK160.out 1; have hfz22_2:=bz_ BK160.out 2; have hfz22_3:=bz_ BK160.out 3) | ((with_reducible refine gate_builtin (b:=.append) (xs:=#[.tmp 50,.tmp 52]) rfl ?_); at_builtin; refine Kd.R_append (Kd.int .i64) (w0:=w) w.heap.size rfl (.tmp 50) (.tmp 52) 22 3 (.int .i64 0) 8 rfl Tryz.underlying22 info3 rfl (by decide) (by omega) u161003 x161003_2 x9_2 [.int .i64 x9_2] (fun k_ => some k_ ≠ (u161002:Value).ownBlock) (fun _ => False) rfl rfl ?aP (fun _ hk => hk.elim) ?aF ?aO ?aB ?aS ?aL ?_; (case aP => exact rfl); (case aB => exact (bl2_ HB.out GE159.out GE160.out)); (case aF => exact (fun k_ hk => Kd.fresh' (Kd.R_lt (kr_ HO_161002.out)) k_ hk)); (case aO => exact (kr_ HO_161003.out)); (case aS => exact (below_size (bl2_ HB.out GE159.out GE160.out))); (case aL => have:=LMc20.out; omega); intro v167 w23 ho hb hg hat; rw [← Ny166.out] at ho; have n0_:=am_ (Kd.R_after (ok:=(fun _ => True)) (by (with_reducible repeat (first | apply Kd.R_alloc | apply Kd.R_drewN | apply Kd.R_drew)); exact Kd.R_mono HO_161002.out (fun _ hk => ⟨trivial,hk⟩)) hg hat); have n1_:=am_ (blk_grown (g:=gb159) (o:=.cells #[.int .i64 0,.int .i64 0,.slice none 0 0,.slice none 0 0] 26 (0,0)) (bk_ BK159.out) hg (Kd.R_ne HO_161003.out BK159.out (by decide))); have n2_:=am_ (blk_grown (g:=gb160) (o:=.cells #[.int .i64 a0,.int .i64 a1,u161002,u161003] 26 (0,0)) (bk_ BK160.out) hg (Kd.R_ne HO_161003.out BK160.out (by decide))); have n3_:=am_ (hb); have n4_:=am_ (ho); clear HO_161002; clear BK159; clear BK160; clear HB; clear HO_161003; have HO_161002:=n0_; have BK159:=n1_; have BK160:=n2_; have HB:=n3_; have HO168:=n4_; clear n0_ n1_ n2_ n3_ n4_; clear ho hb hg hat; obtain ⟨Ao24,co24,eo24⟩:=Kd.R_slice HO168.out; subst eo24; have hcz25_0:w23.cell? ⟨gb160,0,none⟩ = some (.int .i64 a0):=(bc_ BK160.out 0).trans rfl; have hcz25_1:w23.cell? ⟨gb160,1,none⟩ = some (.int .i64 a1):=(bc_ BK160.out 1).trans rfl; have hcz25_2:w23.cell? ⟨gb160,2,none⟩ = some (u161002):=(bc_ BK160.out 2).trans rfl; have hcz25_3:w23.cell? ⟨gb160,3,none⟩ = some (u161003):=(bc_ BK160.out 3).trans rfl; have hfz25_0:=bz_ BK160.out 0; have hfz25_1:=bz_ BK160.out 1; have hfz25_2:=bz_ BK160.out 2; have hfz25_3:=bz_ BK160.out 3))
         go_roundg k2
         case measure => have:=HK1.out; have:=HK2.out; omega
         case rel => exact ⟨(wrap64 (x9_2 + 1)),(y166),(.slice Ao24 y166.length co24),rs_,H',⟨by have:=HK1.out; have:=HK2.out; omega⟩,⟨by (with_reducible repeat (first | apply Kd.R_alloc | apply Kd.R_drewN | apply Kd.R_drew)); exact Kd.R_mono (Kd.R_far (p:=⟨gb160,3,none⟩) (Kd.R_types HO_161002.out BK160.out (by decide)) (fun _ hk => hk.2) (.slice Ao24 y166.length co24)) (fun _ hk => hk.1.2)⟩,⟨by (with_reducible repeat (first | apply Kd.R_alloc | apply Kd.R_drewN | apply Kd.R_drew)); exact Kd.R_mono (Kd.R_far (p:=⟨gb160,3,none⟩) (Kd.R_types HO168.out BK160.out (by decide)) (fun _ hk => hk.2) (.slice Ao24 y166.length co24)) (fun _ hk => hk.1)⟩,⟨bf1_ NB159_160.out BK159.out⟩,⟨by (with_reducible repeat (first | refine blk_drewN ?_ _ | refine blk_drew ?_ | refine blk_alloc ?_ _)); refine blk_put (cs:=#[.int .i64 a0,.int .i64 a1,u161002,u161003]) ?_ 3 _ rfl; (with_reducible repeat (first | refine blk_drewN ?_ _ | refine blk_drew ?_ | refine blk_alloc ?_ _)); exact BK160.out⟩,⟨bl2_ HB.out GE159.out GE160.out⟩⟩
        ·rw [if_neg c20] at H
         exact absurd H (by simp)
      ·rw [if_neg c17] at H
       have c17b0:decide (x9_2 < (wrap64 ((wrap64 (a0 + 1)) * a1))) = false:=decide_eq_false c17
       clear c17
       simp only [Option.some.injEq,Prod.mk.injEq] at H
       obtain ⟨rfl,rfl,rfl,rfl⟩:=H
       have hnb26:=NB160_159.out
       have hnc26:=NB159_160.out
       have hcz27_0:wr.cell? ⟨gb160,0,none⟩ = some (.int .i64 a0):=(bc_ BK160.out 0).trans rfl
       have hcz27_1:wr.cell? ⟨gb160,1,none⟩ = some (.int .i64 a1):=(bc_ BK160.out 1).trans rfl
       have hcz27_2:wr.cell? ⟨gb160,2,none⟩ = some (u161002):=(bc_ BK160.out 2).trans rfl
       have hcz27_3:wr.cell? ⟨gb160,3,none⟩ = some (u161003):=(bc_ BK160.out 3).trans rfl
       have hfz27_0:=bz_ BK160.out 0
       have hfz27_1:=bz_ BK160.out 1
       have hfz27_2:=bz_ BK160.out 2
       have hfz27_3:=bz_ BK160.out 3
       have hcz28_0:wr.cell? ⟨gb159,0,none⟩ = some (.int .i64 0):=(bc_ BK159.out 0).trans rfl
       have hcz28_1:wr.cell? ⟨gb159,1,none⟩ = some (.int .i64 0):=(bc_ BK159.out 1).trans rfl
       have hcz28_2:wr.cell? ⟨gb159,2,none⟩ = some (.slice none 0 0):=(bc_ BK159.out 2).trans rfl
       have hcz28_3:wr.cell? ⟨gb159,3,none⟩ = some (.slice none 0 0):=(bc_ BK159.out 3).trans rfl
       have hfz28_0:=bz_ BK159.out 0
       have hfz28_1:=bz_ BK159.out 1
       have hfz28_2:=bz_ BK159.out 2
       have hfz28_3:=bz_ BK159.out 3
       obtain ⟨Ao29,co29,eo29⟩:=Kd.R_slice HO_161002.out
       subst eo29
       obtain ⟨Ao30,co30,eo30⟩:=Kd.R_slice HO_161003.out
       subst eo30
       go_wp2
       refine bodyPost_ret (results_cell_row rfl _ _ gb159 26 #[.int .i64 a0,.int .i64 a1,.slice Ao29 x161002_1.length co29,.slice Ao30 x161003_2.length co30] (0,0) _ rfl (by (with_reducible repeat (first | refine blk_drewN ?_ _ | refine blk_drew ?_ | refine blk_alloc ?_ _)); refine blk_put (cs:=#[.int .i64 a0,.int .i64 a1,.slice Ao29 x161002_1.length co29,.slice none 0 0]) ?_ 3 _ rfl; (with_reducible repeat (first | refine blk_drewN ?_ _ | refine blk_drew ?_ | refine blk_alloc ?_ _)); refine blk_put (cs:=#[.int .i64 a0,.int .i64 a1,.slice none 0 0,.slice none 0 0]) ?_ 2 _ rfl; (with_reducible repeat (first | refine blk_drewN ?_ _ | refine blk_drew ?_ | refine blk_alloc ?_ _)); refine blk_put (cs:=#[.int .i64 a0,.int .i64 0,.slice none 0 0,.slice none 0 0]) ?_ 1 _ rfl; (with_reducible repeat (first | refine blk_drewN ?_ _ | refine blk_drew ?_ | refine blk_alloc ?_ _)); refine blk_put (cs:=#[.int .i64 0,.int .i64 0,.slice none 0 0,.slice none 0 0]) ?_ 0 _ rfl; (with_reducible repeat (first | refine blk_drewN ?_ _ | refine blk_drew ?_ | refine blk_alloc ?_ _)); exact BK159.out) Tryz.underlying26 rfl (by kernel_rfl)) rfl ?_
       exact ⟨_,_,er_,by (with_reducible repeat (first | apply Kd.R_alloc | apply Kd.R_drewN | apply Kd.R_drew)); exact Kd.R_mono (Kd.R_far (p:=⟨gb159,3,none⟩) (Kd.R_far (p:=⟨gb159,2,none⟩) (Kd.R_far (p:=⟨gb159,1,none⟩) (Kd.R_far (p:=⟨gb159,0,none⟩) (Kd.R_types HO_161002.out BK159.out (by decide)) (fun _ hk => hk.2) (.int .i64 a0)) (fun _ hk => hk.2) (.int .i64 a1)) (fun _ hk => hk.2) (.slice Ao29 x161002_1.length co29)) (fun _ hk => hk.2) (.slice Ao30 x161003_2.length co30)) (fun _ hk => hk.1),by (with_reducible repeat (first | apply Kd.R_alloc | apply Kd.R_drewN | apply Kd.R_drew)); exact Kd.R_mono (Kd.R_far (p:=⟨gb159,3,none⟩) (Kd.R_far (p:=⟨gb159,2,none⟩) (Kd.R_far (p:=⟨gb159,1,none⟩) (Kd.R_far (p:=⟨gb159,0,none⟩) (Kd.R_types HO_161003.out BK159.out (by decide)) (fun _ hk => hk.2) (.int .i64 a0)) (fun _ hk => hk.2) (.int .i64 a1)) (fun _ hk => hk.2) (.slice Ao29 x161002_1.length co29)) (fun _ hk => hk.2) (.slice Ao30 x161003_2.length co30)) (fun _ hk => hk.1),bl2_ HB.out GE159.out GE160.out⟩

end Go.Proofs.YtehjfaddhmdicaaGreatDoor.P
