/- For every input the law FnExactFirstToTake answers true: the program's FirstToTake tells what the reference's FirstToTake tells; no condition. (part 3 of the proof; the words of the kit's print tool and the texts of this seat, merged by a program) -/
import Derived.Laws.BytesArg
import Derived.Lib.Bytealg
import Derived.Lib.Join
import Derived.Maps.RangeWalk
import Derived.Shelf.Strings.OnBuilder
import Derived.Test.YtehjfaddhmdicaaDoorPshelc
import Derived.Test.YtehjfaddhmdicaaDoorPshelf
import Derived.Test.YtehjfaddhmdicaaDoorMFT2
namespace Go.Proofs.YtehjfaddhmdicaaDoor.P
open Go.RowKit Go.Proofs.YtehjfaddhmdicaaDoorW.PrintWords Go.Proofs.YtehjfaddhmdicaaDoorW.PrintLast Go.Proofs.YtehjfaddhmdicaaDoorW.PrintMore
attribute [local go_sem] max2_int min2_int max_two min_two max_three min_three max_four min_four   -- for this text's walks alone
set_option linter.unusedVariables false
set_option linter.unusedSimpArgs false

theorem ints_snoc (l:List Nat) (n:Nat):ints (l ++ [n]) = ints l ++ [(n:Int)]:=by unfold ints; rw [List.map_append]; rfl
set_option maxRecDepth 100000 in
set_option maxHeartbeats 16000000 in
theorem toTake_any (k:Nat) (a0_0 a0_1:Int) (A0_2:Option Addr) (c0_2:Nat) (l0_2:List Int) (A0_3:Option Addr) (c0_3:Nat) (l0_3:List Int) (qs:List S118) (w:World) (hr0_2:Kd.C (Kd.int .i64) w A0_2 l0_2.length l0_2) (hc0_2:l0_2.length ≤ c0_2) (hr0_3:Kd.C (Kd.int .i64) w A0_3 l0_3.length l0_3) (hc0_3:l0_3.length ≤ c0_3)
  (hQ:impl_Figure_squares.f k a0_0 a0_1 l0_2 l0_3 = some qs) (hq:∀ q ∈ qs,0 ≤ q.f3 ∧ q.f3 < 2 ^ 40) (hql:qs.length ≤ 1000000) (K:Nat) (hK:K ≤ 64) (hne:hitW (qs.map fun q => q.f3.toNat) K 0 ≠ []) (hmin:∀ j,j < K → hitW (qs.map fun q => q.f3.toNat) j 0 = []) (hT:TB w) :
  Calls Tryd.prog 47 #[.agg #[.int .i64 a0_0,.int .i64 a0_1,.slice A0_2 l0_2.length c0_2,.slice A0_3 l0_3.length c0_3]] w fun e w' => ∃ (v:Value) (l:List Nat),e = .returned v ∧ Kd.R (Kd.int .u64) 56 w' w.heap.size (fun _ => True) v (ints l) ∧ l.Perm (addS [] (hitW (qs.map fun q => q.f3.toNat) K 0)) ∧ Below w.heap.size w w':=by
 have hi5:(Tryd.prog.info? 56).map (fun i => (i.zero,i.size,i.bytes)) = some (some (.int .u64 0),1,8):=by kernel_rfl
 have HQ:Aside0 (∀ W,Below w.heap.size w W → Calls Tryd.prog 94 #[.agg #[.int .i64 a0_0,.int .i64 a0_1,.slice A0_2 l0_2.length c0_2,.slice A0_3 l0_3.length c0_3]] W fun e w' => ∃ v0_:Value,e = .returned (v0_) ∧ Kd.R k118 118 w' W.heap.size (fun _ => True) v0_ qs ∧ Below W.heap.size W w') :=
  ⟨fun W hB => impl_Figure_squares.calls k a0_0 a0_1 A0_2 c0_2 l0_2 A0_3 c0_3 l0_3 qs W (Kd.C_below hr0_2 hB) hc0_2 (Kd.C_below hr0_3 hB) hc0_3 hQ⟩
 generalize hLs:(qs.map fun q => q.f3.toNat) = Ls at hne hmin ⊢
 have HLs:=am_ hLs
 have HL40:Aside0 (∀ s ∈ Ls,s < 2 ^ 40):=⟨fun s hs => by
  rw [← hLs] at hs
  obtain ⟨q,hqm,rfl⟩:=List.mem_map.1 hs
  have:=hq q hqm
  omega⟩
 have HL:Aside0 (∀ s ∈ Ls,s < 2 ^ 60):=⟨fun s hs => Nat.lt_of_lt_of_le (HL40.out s hs) (Nat.pow_le_pow_right (by omega) (by omega))⟩
 have HLn:Aside0 (Ls.length = qs.length):=⟨by rw [← hLs,List.length_map]⟩
 have HT:=am_ hT
 have HQ2:=am_ hq
 have HNE:=am_ hne
 have HMIN:=am_ hmin
 clear hr0_2 hc0_2 hr0_3 hc0_3 hQ hq hT hne hmin hLs
 generalize l0_2.length = n2 at HQ ⊢
 generalize l0_3.length = n3 at HQ ⊢
 go_enter Tryd.func47,Tryd.ntmps47
 go_wp2_with (go_at_call 94; refine (HQ.out _ (below_alloc (below_alloc (Below.refl _ _) _) _)).mono ?_; rintro e w3 ⟨v3,rfl,hr3,hb3⟩; obtain ⟨A3,c3,rfl⟩:=Kd.R_slice hr3)
 have hz3:w.heap.size + 2 ≤ w3.heap.size:=by have h_:=hb3.size; simp at h_; omega
 have HB3:=am_ (below_step (below_alloc (below_alloc (Below.refl w.heap.size w) (.cells #[.int .i64 a0_0,.int .i64 a0_1,.slice A0_2 n2 c0_2,.slice A0_3 n3 c0_3] 36)) (.cells #[] 56)) hb3)
 have HQR:Aside0 (Kd.R k118 118 w3 0 (fun k => w.heap.size + 2 ≤ k ∧ k < w3.heap.size) (.slice A3 qs.length c3) qs):=⟨Kd.R_lower (Kd.R_mono (Kd.R_bound hr3) (fun k hk => ⟨by have h_:=hk.2.1; simp at h_; omega,hk.2.2.1⟩)) (Nat.zero_le _)⟩
 have R0:Aside0 (Kd.R (Kd.int .u64) 56 w3 w.heap.size (fun _ => True) (.slice (some ⟨w.heap.size + 1,0,none⟩) 0 0) (ints (Ls.take 0))):=⟨by
  have h:=Kd.R_below (Kd.R_mono (R_lit0 (Kd.int .u64) 56 (w.alloc (.cells #[.int .i64 a0_0,.int .i64 a0_1,.slice A0_2 n2 c0_2,.slice A0_3 n3 c0_3] 36)) w.heap.size (by simp)) (fun _ _ => trivial)) hb3
  simpa [ints] using h⟩
 clear hr3 hb3 HQ
 go_wp2_with fail
 go_loopg [3,12] (qs.length + 1) (fun gg u3 u12 wr => ∃ i:Nat,i ≤ qs.length ∧ qs.length + 1 - i ≤ gg ∧ u12 = .int .i64 i ∧ Aside0 (Kd.R (Kd.int .u64) 56 wr w.heap.size (fun _ => True) u3 (ints (Ls.take i))) ∧ Aside0 (∀ b,u3.ownBlock = some b → b = w.heap.size + 1 ∨ w3.heap.size ≤ b) ∧ Aside0 (Kd.R k118 118 wr 0 (fun k => w.heap.size + 2 ≤ k ∧ k < w3.heap.size) (.slice A3 qs.length c3) qs) ∧ Aside0 (Below w.heap.size w wr ∧ w3.heap.size ≤ wr.heap.size))
 case atStart => exact ⟨0,Nat.zero_le _,Nat.le_refl _,rfl,R0,⟨fun b hb => by injection hb with hb; exact .inl hb.symm⟩,HQR,⟨HB3.out,Nat.le_refl _⟩⟩
 case round =>
  clear R0 HQR
  obtain ⟨i,hiq,hgg,rfl,HO,HOB,HQR,HB⟩:=hrel
  by_cases hlt:i < qs.length
  ·have hlz:(i:Int) < (qs.length:Int):=by omega
   obtain ⟨ad,eA,hx,hx2,hx3,hx4⟩:=at_T118 (Kd.R_reads' HQR.out).2.2 (i:Int) (by omega) (by omega)
   have hrd:rd_T118 qs (i:Int) = qs[i]:=by
    unfold rd_T118; rw [Int.toNat_natCast,List.getD_eq_getElem?_getD,List.getElem?_eq_getElem hlt]; rfl
   rw [hrd,Int.toNat_natCast] at hx hx2 hx3 hx4
   have hqb:=HQ2.out qs[i] (List.getElem_mem hlt)
   have hnx:Aside0 (ints (Ls.take i) ++ [qs[i].f3] = ints (Ls.take (i + 1))):=⟨by
    have hlt2:i < Ls.length:=by rw [HLn.out]; exact hlt
    have e:Ls[i]'hlt2 = qs[i].f3.toNat:=by
     have:=HLs.out
     subst this
     simp
    rw [List.take_succ_eq_append_getElem hlt2,ints_snoc,e]
    congr 2
    omega⟩
   have hlen:Aside0 ((ints (Ls.take i)).length ≤ 1000000):=⟨by rw [ints_len,List.length_take]; omega⟩
   clear hrd hqb
   subst eA
   generalize qs[i] = q at hx hx2 hx3 hx4 hnx
   obtain ⟨q0,q1,q2,q3⟩:=q
   have e1:IntKind.i64.wrap ((i:Int) + 1) = (i:Int) + 1:=IntWalk.i64_in _ (by omega)
   have hzr:=HB.out.1.size
   have HLI:Aside0 (Kd.C (Kd.int .u64) ((wr.alloc (.cells #[.int .i64 q0,.int .i64 q1,.int .i64 q2,.int .u64 q3] 118)).alloc (.cells #[.int .u64 q3] 56)) (some ⟨wr.heap.size + 1,0,none⟩) 1 [q3]):=⟨by
    have h_:=lit1_C (Value.int .u64) (fun _ => rfl) 56 (wr.alloc (.cells #[.int .i64 q0,.int .i64 q1,.int .i64 q2,.int .u64 q3] 118)) q3
    rwa [show (wr.alloc (.cells #[.int .i64 q0,.int .i64 q1,.int .i64 q2,.int .u64 q3] 118)).heap.size = wr.heap.size + 1 from by simp] at h_⟩
   go_wp2_with (at_builtin; refine Kd.R_append_row (w0:=w) (h1:=fun _ => rfl) (Value.int .u64) (0:Int) w.heap.size rfl _ _ _ _ _ 8 rfl Tryd.underlying52 hi5 rfl (by decide) u3 (ints (Ls.take i)) [q3] _ 1 _ (fun _ => True) rfl rfl (fun _ _ => trivial) ?xA ?xB ?xC ?xD ?xE ?_; (case xA => exact Kd.R_alloc (Kd.R_alloc HO.out _) _); (case xB => exact HLI.out); (case xC => exact below_alloc (below_alloc HB.out.1 _) _); (case xD => have h_:=HB.out.1.size; simp; omega); (case xE => have h_:=hlen.out; simp; omega); intro v1 w1 ho hb hg hat; have HO1:=am_ ho; have HB1:=am_ hb; have HG1:=am_ hg; have HA1:=am_ hat; clear ho hb hg hat)
   have hW2:Below wr.heap.size wr ((wr.alloc (.cells #[.int .i64 q0,.int .i64 q1,.int .i64 q2,.int .u64 q3] 118)).alloc (.cells #[.int .u64 q3] 56)):=below_alloc (below_alloc (Below.refl _ _) _) _
   go_roundg (qs.length + 1 - (i + 1))
   case measure => omega
   case rel =>
    refine ⟨i + 1,by omega,Nat.le_refl _,by go_num,⟨by rw [← hnx.out]; exact HO1.out⟩,⟨fun b hb => ?_⟩,⟨Kd.R_move HQR.out (fun k hk => ?_)⟩,⟨HB1.out,?_⟩⟩
    ·rcases HA1.out with h | ⟨b',h,hb'⟩
     ·rw [h] at hb; exact HOB.out b hb
     ·rw [h] at hb
      injection hb with hb
      have:=HB.out.2
      simp at hb'
      omega
    ·refine (HG1.out.block k (Nat.lt_of_lt_of_le hk.2 (Nat.le_trans HB.out.2 hW2.size)) (fun h => ?_)).trans (hW2.block k (Nat.lt_of_lt_of_le hk.2 HB.out.2))
     have:=HOB.out k h.symm
     omega
    ·exact Nat.le_trans HB.out.2 (Nat.le_trans hW2.size HG1.out.size)
  ·have hie:i = qs.length:=by omega
   subst hie
   obtain ⟨A5,c5,rfl⟩:=Kd.R_slice HO.out
   have HO2:Aside0 (Kd.R (Kd.int .u64) 56 wr w.heap.size (fun _ => True) (.slice A5 (ints Ls).length c5) (ints Ls)):=⟨by
    have h:=HO.out
    rw [show Ls.take qs.length = Ls from by rw [← HLn.out,List.take_length]] at h
    exact h⟩
   rw [show (ints (Ls.take qs.length)).length = (ints Ls).length from by rw [← HLn.out,List.take_length]]
   have HH:Aside0 (Calls Tryd.prog 41 #[.slice A5 (ints Ls).length c5] (wr.alloc (.cells #[] 56)) fun e w' => ∃ bm,e = .returned (.map (some bm)) ∧ (wr.alloc (.cells #[] 56)).heap.size ≤ bm ∧ MapIs w' Tryd.prog 56 bm (addS [] (hitW Ls K 0)).length setV (inH (addS [] (hitW Ls K 0))) ∧ Below (wr.alloc (.cells #[] 56)).heap.size (wr.alloc (.cells #[] 56)) w'):=⟨hitting_any Ls HL.out K hK HNE.out HMIN.out w.heap.size A5 c5 _ (Kd.R_alloc HO2.out _) (HT.out.below (below_alloc HB.out.1 _))⟩
   have hSn:Aside0 ((addS [] (hitW Ls K 0)).Nodup):=⟨addS_nodup _ _ List.nodup_nil⟩
   have hSl:Aside0 (∀ x ∈ addS [] (hitW Ls K 0),x < 2 ^ 60):=⟨fun x hx => by
    rcases (addS_mem _ _ _).1 hx with h | h
    ·cases h
    ·exact hitW_lt HL.out K 0 (by decide) x h⟩
   have hSm:Aside0 ((addS [] (hitW Ls K 0)).length ≤ 2 ^ 40):=⟨nodup_len _ _ hSn.out (fun x hx => by
    rcases (addS_mem _ _ _).1 hx with h | h
    ·cases h
    ·exact hitW_ltN HL40.out K 0 (by decide) x h)⟩
   clear HO HO2 HQR HOB HNE HMIN HL HQ2 HT
   generalize hSS:addS [] (hitW Ls K 0) = S at HH hSn hSl hSm
   have HSS:=am_ hSS
   clear hSS
   generalize (ints Ls).length = nn at HH ⊢
   have hzr:=HB.out.1.size
   have e0:(wr.alloc (.cells #[] 56)).heap.size = wr.heap.size + 1:=by simp
   have R6:Aside0 (Kd.R (Kd.int .u64) 56 (wr.alloc (.cells #[] 56)) w.heap.size (fun _ => True) (.slice (some ⟨wr.heap.size,0,none⟩) 0 0) (ints [])):=⟨Kd.R_mono (R_lit0 (Kd.int .u64) 56 wr w.heap.size hzr) (fun _ _ => trivial)⟩
   go_wp2_with (go_at_call 41; refine HH.out.mono ?_; rintro e w5 ⟨bm,rfl,hbm,⟨D,hown,hsz,hkk⟩,hb5⟩; obtain ⟨w0,hrun,hrg0,hg0,hs0⟩:=hown.range setKeyed Tryd.underlying61)
   rw [e0] at hbm
   have hz5:=hb5.size
   rw [e0] at hz5
   have hbl:=hown.lt
   have HB0:Aside0 (Below w.heap.size w w0):=⟨(below_step (below_alloc HB.out.1 (.cells #[] 56)) hb5).grown hg0 (by have:=HB.out.1.size; omega) (fun j hj => by cases hj)⟩
   have R7:Aside0 (Kd.R (Kd.int .u64) 56 w0 w.heap.size (fun _ => True) (.slice (some ⟨wr.heap.size,0,none⟩) 0 0) (ints [])):=⟨Kd.R_mono (Kd.R_move (Kd.R_bound (Kd.R_below R6.out hb5)) (fun k hk => hg0.block k hk.2.2.1 (by simp))) (fun _ _ => trivial)⟩
   have C0:Aside0 (ColU (Maps.has D) S []):=⟨ColU.start hkk⟩
   have OB0:Aside0 (∀ b,(Value.slice (some ⟨wr.heap.size,0,none⟩) 0 0).ownBlock = some b → b ≠ bm ∧ b ≠ w5.heap.size):=⟨fun b hb => by
    obtain rfl:wr.heap.size = b:=Option.some.inj hb
    exact ⟨Nat.ne_of_lt hbm,Nat.ne_of_lt hz5⟩⟩
   clear R6 HH hkk hb5
   go_loopw [6] (fun u6 wq => ∃ (left:Lit → Bool) (cnt:Nat) (l:List Nat),wq.ranges Tryd.prog 56 heldR bm w5.heap.size S.length D left cnt ∧ Aside0 (ColU left S l) ∧ Aside0 (Kd.R (Kd.int .u64) 56 wq w.heap.size (fun _ => True) u6 (ints l)) ∧ Aside0 (∀ b,u6.ownBlock = some b → b ≠ bm ∧ b ≠ w5.heap.size) ∧ Aside0 (Below w.heap.size w wq))
    (fun _ wq => wq.rangeLeft bm w5.heap.size)
   case atStart => exact ⟨_,_,[],hrg0,C0,R7,OB0,HB0⟩
   case round =>
    clear C0 R7 HB0 hrg0 OB0
    obtain ⟨left,cnt,l,hrg,HC,HR,HOB,HBq⟩:=hrel
    rcases hrg.next setKeyed 0 with ⟨hc0,hl0,hrun⟩ | ⟨key,v,kl,yd,wq1,cnt1,hkey,hlx,hv,hat,hrun,hrg1,hlt1,hg1,hs1,hen⟩
    ·go_wp2
     go_ret
     exact ⟨_,l,rfl,HR.out,by rw [HSS.out]; exact HC.out.done hSn.out hSl.out hl0,HBq.out⟩
    ·obtain ⟨x,rfl,rfl,hxw⟩:=Maps.keyOf_int_inv Tryd.underlying56 hkey
     obtain ⟨n,rfl,hn⟩:=lit_u64_inv hxw
     obtain ⟨hnS,HC1⟩:=HC.out.step hn hlx
     have hbo:=hrg.lt
     have hlen:Aside0 ((ints l).length ≤ 2 ^ 40):=⟨by
      rw [ints_len]
      exact nodup_len _ _ HC.out.1 (fun x hx => by
       have hx2:x ∈ addS [] (hitW Ls K 0):=by rw [HSS.out]; exact HC.out.2.1 x hx
       rcases (addS_mem _ _ _).1 hx2 with h | h
       ·cases h
       ·exact hitW_ltN HL40.out K 0 (by decide) x h)⟩
     have hzq:=HBq.out.size
     have hr5:=hrg1.lt
     have HB1:Aside0 (Below w.heap.size w wq1):=⟨HBq.out.grown hg1 HBq.out.size (fun j hj => by have:=Option.some.inj hj; omega)⟩
     have HR1:Aside0 (Kd.R (Kd.int .u64) 56 wq1 w.heap.size (fun _ => True) u6 (ints l)):=⟨Kd.R_mono (Kd.R_move (Kd.R_of_own (enc:=Value.int .u64) (h1:=fun _ => rfl) (ok:=fun k => u6.ownBlock = some k) (Kd.own_of_R HR.out) (fun k hk => hk)) (fun k hk => hg1.block k ((Kd.R_bound HR.out).1 k hk).2.2.1 (fun e => (HOB.out k hk).2 (Option.some.inj e)))) (fun _ _ => trivial)⟩
     have HLI:Aside0 (Kd.C (Kd.int .u64) (wq1.alloc (.cells #[.int .u64 (n:Int)] 56)) (some ⟨wr.heap.size,0,none⟩) 1 [(n:Int)]):=⟨by
      have h_:=lit1_C (Value.int .u64) (fun _ => rfl) 56 wq1 (n:Int)
      rw [hs1] at h_
      exact h_⟩
     have hH1:=hrg1.ne
     have hbm1:=hrg1.owns.lt
     clear hkey hxw hat hv HR HC HBq
     go_wp2_with (at_builtin; refine Kd.R_append_row (w0:=w) (h1:=fun _ => rfl) (Value.int .u64) (0:Int) w.heap.size rfl _ _ _ _ _ 8 rfl Tryd.underlying52 hi5 rfl (by decide) u6 (ints l) [(n:Int)] _ 1 _ (fun _ => True) rfl rfl (fun _ _ => trivial) ?xA ?xB ?xC ?xD ?xE ?_; (case xA => exact Kd.R_alloc HR1.out _); (case xB => exact HLI.out); (case xC => exact below_alloc HB1.out _); (case xD => have h_:=HB1.out.size; simp; omega); (case xE => have h_:=hlen.out; simp; omega); intro v1 w2 ho hb hg hat2; have HO1:=am_ ho; have HB2:=am_ hb; have HG1:=am_ hg; have HA1:=am_ hat2; clear ho hb hg hat2)
     have hrg2:=(hrg1.alloc (.cells #[.int .u64 (n:Int)] 56)).kept HG1.out (fun e => (HOB.out bm e.symm).1 rfl) (fun e => (HOB.out _ e.symm).2 rfl)
     go_roundw
     case rel =>
      refine ⟨_,cnt1,l ++ [n],hrg2,⟨HC1⟩,⟨by rw [ints_snoc]; exact HO1.out⟩,⟨fun b hb => ?_⟩,HB2⟩
      rcases HA1.out with h | ⟨b',h,hb'⟩
      ·rw [h] at hb; exact HOB.out b hb
      ·rw [h] at hb
       injection hb with hb
       simp at hb'
       exact ⟨by omega,by omega⟩
     case measure => rw [hrg2.left_eq,hrg.left_eq]; exact hlt1


def impl_grid_figure.f (a0_0:Int) (a0_1:Int) (a1:Int):Option (Int × Int × List Int × List Int):=(impl_grid_levels.f a0_0 a0_1).bind fun t288 => (if 0 ≤ t288 then ((impl_set_listed.f (Go.bits .and .u64 a1 (IntKind.u64.wrap ((shl .u64 1 t288) - 1)))).bind fun t289 => ((impl_grid_levels.f a0_0 a0_1).bind fun t292 => (if 0 ≤ t292 then ((impl_set_listed.f (shr .u64 a1 t292)).bind fun t293 => (some (a0_0,a0_1,t289,t293))) else (none)))) else (none))
def impl_grid_figure.T2:Bool × List (List Nat × List Nat):=(true,[([],[]),([0],[0]),([],[]),([2],[2]),([],[]),([],[]),([4,5],[4,5]),([6],[6]),([],[]),([],[]),([9,7],[9]),([8,10],[8,10]),([11,10],[11]),([1,3,7,12],[1,3,7,12]),([13,12,0,1,2,3,4,5,6,7,8,9,10,11,12,13],[13])])
def impl_grid_figure.B2:List Nat:=[0,1,0,4,0,0,48,112,0,0,752,2032,4080,8191,16383]
theorem impl_grid_figure.tab2:rtab .any (opsOf Tryd.f56 2) = impl_grid_figure.T2:=by kernel_rfl
theorem impl_grid_figure.bits2:waitsOk impl_grid_figure.T2.2 impl_grid_figure.B2 = true:=by kernel_rfl
set_option maxHeartbeats 8000000 in
set_option maxRecDepth 100000 in
theorem impl_grid_figure.calls (a0_0:Int) (a0_1:Int) (a1:Int) (r1:Int) (r2:Int) (r3:List Int) (r4:List Int) (w:World) (hT_:TB w) (h:impl_grid_figure.f a0_0 a0_1 a1 = some (r1,r2,r3,r4)) :
  Calls Tryd.prog 56 #[.agg #[.int .i64 a0_0,.int .i64 a0_1],.int .u64 a1] w fun e w' => ∃ v2_ v3_:Value,e = .returned (.agg #[.int .i64 r1,.int .i64 r2,v2_,v3_]) ∧ Kd.R (Kd.int .i64) 3 w' w.heap.size (fun k_ => some k_ ≠ (v3_:Value).ownBlock) v2_ r3 ∧ Kd.R (Kd.int .i64) 3 w' w.heap.size (fun k_ => some k_ ≠ (v2_:Value).ownBlock) v3_ r4 ∧ Below w.heap.size w w':=by
 have hu75:=Tryd.underlying75
 have hu36:=Tryd.underlying36
 have HB:=am_ (Below.refl w.heap.size w)
 have HTB:=am_ hT_
 clear hT_
 have H:((impl_grid_levels.f a0_0 a0_1).bind fun t288 => (if 0 ≤ t288 then ((impl_set_listed.f (Go.bits .and .u64 a1 (IntKind.u64.wrap ((shl .u64 1 t288) - 1)))).bind fun t289 => ((impl_grid_levels.f a0_0 a0_1).bind fun t292 => (if 0 ≤ t292 then ((impl_set_listed.f (shr .u64 a1 t292)).bind fun t293 => (some (a0_0,a0_1,t289,t293))) else (none)))) else (none))) = some (r1,r2,r3,r4):=h
 clear h
 replace H:=bi_ H
 obtain ⟨t288,A30,H⟩:=H
 replace H:(if 0 ≤ t288 then ((impl_set_listed.f (Go.bits .and .u64 a1 (IntKind.u64.wrap ((shl .u64 1 t288) - 1)))).bind fun t289 => ((impl_grid_levels.f a0_0 a0_1).bind fun t292 => (if 0 ≤ t292 then ((impl_set_listed.f (shr .u64 a1 t292)).bind fun t293 => (some (a0_0,a0_1,t289,t293))) else (none)))) else (none)) = some (r1,r2,r3,r4):=H
 have A3:=am_ A30
 clear A30
 by_cases c4:0 ≤ t288
 ·rw [if_pos c4] at H
  have c4b0:=eq_true c4
  have c4b1:decide (0 ≤ t288) = true:=decide_eq_true c4
  clear c4
  obtain ⟨ji5,hji5⟩:∃ j_:Int,(shl .u64 1 t288) = j_:=⟨_,rfl⟩
  replace H:((impl_set_listed.f (Go.bits .and .u64 a1 (IntKind.u64.wrap ((ji5) - 1)))).bind fun t289 => ((impl_grid_levels.f a0_0 a0_1).bind fun t292 => (if 0 ≤ t292 then ((impl_set_listed.f (shr .u64 a1 t292)).bind fun t293 => (some (a0_0,a0_1,t289,t293))) else (none)))) = some (r1,r2,r3,r4):=by first | (rw [hji5] at H; exact H) | (simp only [hji5] at H ⊢; exact H)
  (try rw [hji5] at A3)
  have hji5_:(IntKind.u64.wrap (1 * 2 ^ min t288.toNat 64)) = ji5:=hji5
  have hji5z:t288 ≤ 64 → (IntKind.u64.wrap (1 * 2 ^ t288.toNat)) = ji5:=shl_small hji5
  have hji5u:(IntKind.u64.wrap (2 ^ min t288.toNat 64)) = ji5:=by have h_:=hji5_; rw [Int.one_mul] at h_; exact h_
  have hji5v:t288 ≤ 64 → (IntKind.u64.wrap (2 ^ t288.toNat)) = ji5:=fun hle_ => by have h_:=hji5z hle_; rw [Int.one_mul] at h_; exact h_
  replace H:=bi_ H
  obtain ⟨t289,A60,H⟩:=H
  replace H:((impl_grid_levels.f a0_0 a0_1).bind fun t292 => (if 0 ≤ t292 then ((impl_set_listed.f (shr .u64 a1 t292)).bind fun t293 => (some (a0_0,a0_1,t289,t293))) else (none))) = some (r1,r2,r3,r4):=H
  have A6:=am_ A60
  clear A60
  replace H:=bi_ H
  obtain ⟨t292,A70,H⟩:=H
  replace H:(if 0 ≤ t292 then ((impl_set_listed.f (shr .u64 a1 t292)).bind fun t293 => (some (a0_0,a0_1,t289,t293))) else (none)) = some (r1,r2,r3,r4):=H
  have A7:=am_ A70
  clear A70
  by_cases c8:0 ≤ t292
  ·rw [if_pos c8] at H
   have c8b0:=eq_true c8
   have c8b1:decide (0 ≤ t292) = true:=decide_eq_true c8
   clear c8
   obtain ⟨ji9,hji9⟩:∃ j_:Int,(shr .u64 a1 t292) = j_:=⟨_,rfl⟩
   replace H:((impl_set_listed.f (ji9)).bind fun t293 => (some (a0_0,a0_1,t289,t293))) = some (r1,r2,r3,r4):=by first | (rw [hji9] at H; exact H) | (simp only [hji9] at H ⊢; exact H)
   (try rw [hji9] at A3)
   (try rw [hji9] at A6)
   (try rw [hji9] at A7)
   have hji9_:(a1 / 2 ^ min t292.toNat 64) = ji9:=hji9
   have hji9z:t292 ≤ 64 → (a1 / 2 ^ t292.toNat) = ji9:=shr_small hji9
   replace H:=bi_ H
   obtain ⟨t293,A100,H⟩:=H
   replace H:(some (a0_0,a0_1,t289,t293)) = some (r1,r2,r3,r4):=H
   have A10:=am_ A100
   clear A100
   simp only [Option.some.injEq,Prod.mk.injEq] at H
   obtain ⟨rfl,rfl,rfl,rfl⟩:=H
   go_enter Tryd.func56,Tryd.ntmps56
   try go_wp2_with (first | ((with_reducible refine gate_dst (N:=2) rfl ?_); refine boxE_ (N:=2) (cs:=#[.int .i64 a0_0,.int .i64 a0_1]) (t:=75) ?_; intro gb286 hg w11 hbox hb; have n0_:=am_ (below_step (bl0_ HB.out) hb); have n1_:=am_ (hbox); have n2_:=am_ ((bs0_ hg HB.out:w.heap.size ≤ gb286)); have n3_:=am_ ((bs0_ hg HB.out:w.heap.size ≤ gb286)); clear HB; have HB:=n0_; have BK286:=n1_; have GW286:=n2_; have GE286:=n3_; clear n0_ n1_ n2_ n3_; clear hb hbox hg) | ((with_reducible refine gate_dst (N:=4) rfl ?_); refine boxE_ (N:=4) (cs:=#[.int .i64 0,.int .i64 0,.slice none 0 0,.slice none 0 0]) (t:=36) ?_; intro gb287 hg w12 hbox hb; have n0_:=am_ (bb_ BK286.out hb); have n1_:=am_ (below_step (bl1_ HB.out GE286.out) hb); have n2_:=am_ (hbox); have n3_:=am_ ((bs1_ hg HB.out GE286.out:w.heap.size ≤ gb287)); have n4_:=am_ ((bs1_ hg HB.out GE286.out:w.heap.size ≤ gb287)); have n5_:=am_ ((nl_ hg BK286.out:gb286 ≠ gb287)); have n6_:=am_ ((ng_ hg BK286.out:gb287 ≠ gb286)); clear BK286; clear HB; have BK286:=n0_; have HB:=n1_; have BK287:=n2_; have GW287:=n3_; have GE287:=n4_; have NB286_287:=n5_; have NB287_286:=n6_; clear n0_ n1_ n2_ n3_ n4_ n5_ n6_; clear hb hbox hg; have hnb13:=NB286_287.out; have hnc13:=NB287_286.out; have hcz14_0:w12.cell? ⟨gb286,0,none⟩ = some (.int .i64 a0_0):=(bc_ BK286.out 0).trans rfl; have hcz14_1:w12.cell? ⟨gb286,1,none⟩ = some (.int .i64 a0_1):=(bc_ BK286.out 1).trans rfl; have hfz14_0:=bz_ BK286.out 0; have hfz14_1:=bz_ BK286.out 1) | ((with_reducible refine gate_callee (f:=101) rfl ?_); refine goesL_ (some 7) rfl rfl Tryd.func101 (by kernel_rfl) rfl #[.agg #[.int .i64 a0_0,.int .i64 a0_1]] rfl ob_ ?_; (with_reducible refine (impl_grid_levels.calls a0_0 a0_1 t288 _ A3.out).mono ?_); rintro e w15 ⟨rfl,hb⟩; refine ⟨_,rfl,?_⟩; have n0_:=am_ (bb_ BK286.out hb); have n1_:=am_ (bb_ BK287.out hb); have n2_:=am_ (below_step (bl2_ HB.out GE286.out GE287.out) hb); clear BK286; clear BK287; clear HB; have BK286:=n0_; have BK287:=n1_; have HB:=n2_; clear n0_ n1_ n2_; (try clear hb); (try clear hb2); (try clear hk); (try clear hi)))
   have n0_:=am_ (blk_drew BK286.out)
   have n1_:=am_ (blk_drew BK287.out)
   have n2_:=am_ (below_drew1 HB.out)
   clear BK286
   clear BK287
   clear HB
   have BK286:=n0_
   have BK287:=n1_
   have HB:=n2_
   clear n0_ n1_ n2_
   refine start_ (n:=15) (S:=fun w' => w'.cell? ⟨gb286,0,none⟩ = some (.int .i64 a0_0) ∧ w'.cell? ⟨gb286,1,none⟩ = some (.int .i64 a0_1)) (ds:=[]) #[false,false,false,false,false,false,false,false,false,false,false,false,false,false,false] (by kernel_rfl) rfl rfl ⟨(bc_ BK286.out 0).trans rfl,(bc_ BK286.out 1).trans rfl⟩ (fun hHeld => ?_); refine with_tabW impl_grid_figure.tab2 impl_grid_figure.bits2 (fun HT_ HW_ => ?_)
   generalize w15.drew = w16 at BK286 BK287 HB hHeld ⊢
   refine pure_ (i:=0) (N:=some 10) (v:=?_) (a':=?_) #[true,false,false,false,false,false,false,false,false,false,false,false,false,false,false] rfl rfl (any_of HT_.out (by kernel_rfl)) (fun _ _ _ h => h) (Or.inl ⟨by rfl,?_⟩) ?_ ?_
   rotate_left
   ·intro w'
    go_simp
    with_reducible rfl
   rotate_left
   ·simp only [Act.put,List.setIfInBounds_toArray,List.set_cons_zero,List.set_cons_succ,i64_w,i32_w]
    rfl
   refine pure_ (i:=2) (N:=some 12) (v:=?_) (a':=?_) #[true,false,true,false,false,false,false,false,false,false,false,false,false,false,false] rfl rfl (any_of HT_.out (by kernel_rfl)) (fun _ _ _ h => h) (Or.inl ⟨by rfl,?_⟩) ?_ ?_
   rotate_left
   ·intro w'
    go_simp
    with_reducible rfl
   rotate_left
   ·simp only [Act.put,List.setIfInBounds_toArray,List.set_cons_zero,List.set_cons_succ,i64_w,i32_w]
    rfl
   refine pure_ (i:=4) (N:=some 14) (v:=?_) (a':=?_) #[true,false,true,false,true,false,false,false,false,false,false,false,false,false,false] rfl rfl (any_of HT_.out (by kernel_rfl)) (fun _ _ _ h => h) (Or.inl ⟨by rfl,?_⟩) ?_ ?_
   rotate_left
   ·intro w'
    go_simp
    with_reducible rfl
   rotate_left
   ·simp only [Act.put,List.setIfInBounds_toArray,List.set_cons_zero,List.set_cons_succ,i64_w,i32_w]
    rfl
   refine pure_ (i:=5) (N:=some 15) (v:=?_) (a':=?_) #[true,false,true,false,true,true,false,false,false,false,false,false,false,false,false] rfl rfl (any_of HT_.out (by kernel_rfl)) (fun _ _ _ h => h) (Or.inl ⟨by rfl,?_⟩) ?_ ?_
   rotate_left
   ·intro w'
    go_simp
    with_reducible rfl
   rotate_left
   ·simp only [Act.put,List.setIfInBounds_toArray,List.set_cons_zero,List.set_cons_succ,i64_w,i32_w]
    rfl
   refine pure_ (i:=6) (N:=some 16) (v:=?_) (a':=?_) #[true,false,true,false,true,true,true,false,false,false,false,false,false,false,false] rfl rfl (any_of HT_.out (by kernel_rfl)) (fun _ _ _ h => h) (Or.inl ⟨by rfl,?_⟩) ?_ ?_
   rotate_left
   ·intro w'
    go_simp
    with_reducible rfl
   rotate_left
   ·simp only [Act.put,List.setIfInBounds_toArray,List.set_cons_zero,List.set_cons_succ,i64_w,i32_w]
    rfl
   refine pure_ (i:=8) (N:=some 18) (v:=?_) (a':=?_) #[true,false,true,false,true,true,true,false,true,false,false,false,false,false,false] rfl rfl (any_of HT_.out (by kernel_rfl)) (fun _ _ _ h => h) (Or.inl ⟨by rfl,?_⟩) ?_ ?_
   rotate_left
   ·intro w'
    go_simp
    with_reducible rfl
   rotate_left
   ·simp only [Act.put,List.setIfInBounds_toArray,List.set_cons_zero,List.set_cons_succ,i64_w,i32_w]
    rfl
   refine take_ (i:=1) (N:=some 11) (v:=?_) (a':=?_) #[true,true,true,false,true,true,true,false,true,false,false,false,false,false,false] rfl rfl (take_ofW HT_.out HW_.out (by kernel_rfl)) (fun _ _ _ h => h) (Or.inl ⟨by rfl,?_⟩) hHeld ?_ ?_
   rotate_left
   ·rintro w' ⟨s0,s1⟩
    go_simp
    with_reducible rfl
   rotate_left
   ·simp only [Act.put,List.setIfInBounds_toArray,List.set_cons_zero,List.set_cons_succ,i64_w,i32_w]
    rfl
   refine take_ (i:=3) (N:=some 13) (v:=?_) (a':=?_) #[true,true,true,true,true,true,true,false,true,false,false,false,false,false,false] rfl rfl (take_ofW HT_.out HW_.out (by kernel_rfl)) (fun _ _ _ h => h) (Or.inl ⟨by rfl,?_⟩) hHeld ?_ ?_
   rotate_left
   ·rintro w' ⟨s0,s1⟩
    go_simp
    with_reducible rfl
   rotate_left
   ·simp only [Act.put,List.setIfInBounds_toArray,List.set_cons_zero,List.set_cons_succ,i64_w,i32_w]
    rfl
   refine take_ (i:=9) (N:=some 19) (v:=?_) (a':=?_) #[true,true,true,true,true,true,true,false,true,true,false,false,false,false,false] rfl rfl (take_ofW HT_.out HW_.out (by kernel_rfl)) (fun _ _ _ h => h) (Or.inl ⟨by rfl,?_⟩) hHeld ?_ ?_
   rotate_left
   ·rintro w' ⟨s0,s1⟩
    go_simp
    with_reducible rfl
   rotate_left
   ·simp only [Act.put,List.setIfInBounds_toArray,List.set_cons_zero,List.set_cons_succ,i64_w,i32_w]
    rfl
   refine one_ (i:=7) (N:=some 17) #[true,true,true,true,true,true,true,true,true,true,false,false,false,false,false] rfl rfl (one_of HT_.out (by kernel_rfl)) (by decide) (fun K hK => ?_)
   refine goes_ Tryd.func89 (by kernel_rfl) rfl #[.int .u64 (Go.bits .and .u64 a1 (IntKind.u64.wrap ((ji5) - 1)))] (by rfl) rfl rfl (by (try simp only [List.map_toArray,List.map_cons,List.map_nil]); first | done | (simp only [hji5]; rfl) | rfl | (simp only [List.length_drop,List.length_take]; rfl)) ?_
   with_reducible refine (impl_set_listed.calls (Go.bits .and .u64 a1 (IntKind.u64.wrap ((ji5) - 1))) t289 _ (TB.below HTB.out (bl2_ HB.out GE286.out GE287.out)) A6.out).mono ?_
   rintro e w17 ⟨v290,rfl,ho0,hb⟩
   refine ⟨_,rfl,?_⟩
   have n0_:=am_ (Kd.R_lower ho0 (below_size (bl2_ HB.out GE286.out GE287.out)))
   have n1_:=am_ (bb_ BK286.out hb)
   have n2_:=am_ (bb_ BK287.out hb)
   have n3_:=am_ (below_step (bl2_ HB.out GE286.out GE287.out) hb)
   clear BK286
   clear BK287
   clear HB
   have HO291:=n0_
   have BK286:=n1_
   have BK287:=n2_
   have HB:=n3_
   clear n0_ n1_ n2_ n3_
   (try clear hb)
   (try clear hb2)
   (try clear hk)
   (try clear hi)
   (try clear ho0)
   refine hK.out _ _ ⟨(bc_ BK286.out 0).trans rfl,(bc_ BK286.out 1).trans rfl⟩ (fun hHeld => ?_)
   clear hK K
   refine norm_ (a':=?_) ?_ ?_
   rotate_left
   ·show Act.put _ (some 17) _ = _
    simp only [Act.put,List.setIfInBounds_toArray,List.set_cons_zero,List.set_cons_succ,i64_w,i32_w]
    rfl
   refine one_ (i:=10) (N:=some 20) #[true,true,true,true,true,true,true,true,true,true,true,false,false,false,false] rfl rfl (one_of HT_.out (by kernel_rfl)) (by decide) (fun K hK => ?_)
   refine goes_ Tryd.func101 (by kernel_rfl) rfl #[.agg #[.int .i64 a0_0,.int .i64 a0_1]] (by rfl) rfl rfl ob_ ?_
   with_reducible refine (impl_grid_levels.calls a0_0 a0_1 t292 _ A7.out).mono ?_
   rintro e w18 ⟨rfl,hb⟩
   refine ⟨_,rfl,?_⟩
   have n0_:=am_ (Kd.R_below (kr_ HO291.out) hb)
   have n1_:=am_ (bb_ BK286.out hb)
   have n2_:=am_ (bb_ BK287.out hb)
   have n3_:=am_ (below_step (bl2_ HB.out GE286.out GE287.out) hb)
   clear HO291
   clear BK286
   clear BK287
   clear HB
   have HO291:=n0_
   have BK286:=n1_
   have BK287:=n2_
   have HB:=n3_
   clear n0_ n1_ n2_ n3_
   (try clear hb)
   (try clear hb2)
   (try clear hk)
   (try clear hi)
   refine hK.out _ _ ⟨(bc_ BK286.out 0).trans rfl,(bc_ BK286.out 1).trans rfl⟩ (fun hHeld => ?_)
   clear hK K
   refine norm_ (a':=?_) ?_ ?_
   rotate_left
   ·show Act.put _ (some 20) _ = _
    simp only [Act.put,List.setIfInBounds_toArray,List.set_cons_zero,List.set_cons_succ,i64_w,i32_w]
    rfl
   refine pure_ (i:=11) (N:=some 21) (v:=?_) (a':=?_) #[true,true,true,true,true,true,true,true,true,true,true,true,false,false,false] rfl rfl (any_of HT_.out (by kernel_rfl)) (fun _ _ _ h => h) (Or.inl ⟨by rfl,?_⟩) ?_ ?_
   rotate_left
   ·intro w'
    go_simp
    with_reducible rfl
   rotate_left
   ·simp only [Act.put,List.setIfInBounds_toArray,List.set_cons_zero,List.set_cons_succ,i64_w,i32_w]
    rfl
   refine one_ (i:=12) (N:=some 22) #[true,true,true,true,true,true,true,true,true,true,true,true,true,false,false] rfl rfl (one_of HT_.out (by kernel_rfl)) (by decide) (fun K hK => ?_)
   refine goes_ Tryd.func89 (by kernel_rfl) rfl #[.int .u64 ji9] (by rfl) rfl rfl (by (try simp only [List.map_toArray,List.map_cons,List.map_nil]); first | done | (simp only [hji9]; rfl) | rfl | (simp only [List.length_drop,List.length_take]; rfl)) ?_
   with_reducible refine (impl_set_listed.calls ji9 t293 _ (TB.below HTB.out (bl2_ HB.out GE286.out GE287.out)) A10.out).mono ?_
   rintro e w19 ⟨v294,rfl,ho0,hb⟩
   refine ⟨_,rfl,?_⟩
   have n0_:=am_ (Kd.R_elder' (kr_ HO291.out) (Kd.R_base ho0) hb)
   have n1_:=am_ (Kd.R_lower (Kd.R_new' ho0 (Kd.R_lt (kr_ HO291.out))) (below_size (bl2_ HB.out GE286.out GE287.out)))
   have n2_:=am_ (bb_ BK286.out hb)
   have n3_:=am_ (bb_ BK287.out hb)
   have n4_:=am_ (below_step (bl2_ HB.out GE286.out GE287.out) hb)
   clear HO291
   clear BK286
   clear BK287
   clear HB
   have HO291:=n0_
   have HO295:=n1_
   have BK286:=n2_
   have BK287:=n3_
   have HB:=n4_
   clear n0_ n1_ n2_ n3_ n4_
   (try clear hb)
   (try clear hb2)
   (try clear hk)
   (try clear hi)
   (try clear ho0)
   obtain ⟨Ao20,co20,eo20⟩:=Kd.R_slice HO295.out
   (first | subst eo20 | (injection eo20 with f1_ f2_ f3_; have f4_:=f1_.symm; have f5_:=f3_.symm; clear f1_ f2_ f3_; subst f4_; subst f5_))
   obtain ⟨Ao21,co21,eo21⟩:=Kd.R_slice HO291.out
   (first | subst eo21 | (injection eo21 with f1_ f2_ f3_; have f4_:=f1_.symm; have f5_:=f3_.symm; clear f1_ f2_ f3_; subst f4_; subst f5_))
   refine hK.out _ _ ⟨(bc_ BK286.out 0).trans rfl,(bc_ BK286.out 1).trans rfl⟩ (fun hHeld => ?_)
   clear hK K
   refine norm_ (a':=?_) ?_ ?_
   rotate_left
   ·show Act.put _ (some 22) _ = _
    simp only [Act.put,List.setIfInBounds_toArray,List.set_cons_zero,List.set_cons_succ,i64_w,i32_w]
    rfl
   refine pure_ (i:=13) (N:=some 23) (v:=?_) (a':=?_) #[true,true,true,true,true,true,true,true,true,true,true,true,true,true,false] rfl rfl (any_of HT_.out (by kernel_rfl)) (fun _ _ _ h => h) (Or.inl ⟨by rfl,?_⟩) ?_ ?_
   rotate_left
   ·intro w'
    go_simp
    with_reducible rfl
   rotate_left
   ·simp only [Act.put,List.setIfInBounds_toArray,List.set_cons_zero,List.set_cons_succ,i64_w,i32_w]
    rfl
   refine one_ (i:=14) (N:=none) #[true,true,true,true,true,true,true,true,true,true,true,true,true,true,true] rfl rfl (one_of HT_.out (by kernel_rfl)) (by decide) (fun K hK => ?_)
   have hs22:w19.cell? ⟨gb287,0,none⟩ = some (.int .i64 0):=(bc_ BK287.out 0).trans rfl
   have hfs22:=bz_ BK287.out 0
   have hns22_0:=NB286_287.out
   have hms22_0:=NB287_286.out
   have hs23:w19.cell? ⟨gb287,1,none⟩ = some (.int .i64 0):=(bc_ BK287.out 1).trans rfl
   have hfs23:=bz_ BK287.out 1
   have hns23_0:=NB286_287.out
   have hms23_0:=NB287_286.out
   have hs24:w19.cell? ⟨gb287,2,none⟩ = some (.slice none 0 0):=(bc_ BK287.out 2).trans rfl
   have hfs24:=bz_ BK287.out 2
   have hns24_0:=NB286_287.out
   have hms24_0:=NB287_286.out
   have hs25:w19.cell? ⟨gb287,3,none⟩ = some (.slice none 0 0):=(bc_ BK287.out 3).trans rfl
   have hfs25:=bz_ BK287.out 3
   have hns25_0:=NB286_287.out
   have hms25_0:=NB287_286.out
   refine skip_ (w1:=?_) (by rfl) rfl ?_ ?_
   rotate_left
   ·go_simp
    rfl
   refine hK.out _ _ ⟨((cell_far (p:=⟨gb287,_,none⟩) NB286_287.out _).trans (((cell_far (p:=⟨gb287,_,none⟩) NB286_287.out _).trans (((cell_far (p:=⟨gb287,_,none⟩) NB286_287.out _).trans (((cell_far (p:=⟨gb287,_,none⟩) NB286_287.out _).trans (hHeld.1)))))))),((cell_far (p:=⟨gb287,_,none⟩) NB286_287.out _).trans (((cell_far (p:=⟨gb287,_,none⟩) NB286_287.out _).trans (((cell_far (p:=⟨gb287,_,none⟩) NB286_287.out _).trans (((cell_far (p:=⟨gb287,_,none⟩) NB286_287.out _).trans (hHeld.2))))))))⟩ (fun hHeld => ?_)
   clear hK K
   refine done_ (done_of HT_.out (by kernel_rfl)) ?_
   try go_wp2
   refine bodyPost_ret (results_cell_row rfl _ _ gb287 36 #[.int .i64 a0_0,.int .i64 a0_1,.slice Ao21 t289.length co21,.slice Ao20 t293.length co20] (0,0) _ rfl (by (with_reducible repeat (first | refine blk_drewN ?_ _ | refine blk_drew ?_ | refine blk_alloc ?_ _)); refine blk_put (cs:=#[.int .i64 a0_0,.int .i64 a0_1,.slice Ao21 t289.length co21,.slice none 0 0]) ?_ 3 _ rfl; (with_reducible repeat (first | refine blk_drewN ?_ _ | refine blk_drew ?_ | refine blk_alloc ?_ _)); refine blk_put (cs:=#[.int .i64 a0_0,.int .i64 a0_1,.slice none 0 0,.slice none 0 0]) ?_ 2 _ rfl; (with_reducible repeat (first | refine blk_drewN ?_ _ | refine blk_drew ?_ | refine blk_alloc ?_ _)); refine blk_put (cs:=#[.int .i64 a0_0,.int .i64 0,.slice none 0 0,.slice none 0 0]) ?_ 1 _ rfl; (with_reducible repeat (first | refine blk_drewN ?_ _ | refine blk_drew ?_ | refine blk_alloc ?_ _)); refine blk_put (cs:=#[.int .i64 0,.int .i64 0,.slice none 0 0,.slice none 0 0]) ?_ 0 _ rfl; (with_reducible repeat (first | refine blk_drewN ?_ _ | refine blk_drew ?_ | refine blk_alloc ?_ _)); exact BK287.out) Tryd.underlying36 rfl (by kernel_rfl)) rfl ?_
   exact ⟨_,_,by first | rfl | (simp [errW_none,errW_some] <;> rfl) | (simp only [← hji5,← hji9]; first | rfl | (simp [errW_none,errW_some] <;> rfl)) | (simp [*,errW_none,errW_some] <;> rfl),by (with_reducible repeat (first | apply Kd.R_alloc | apply Kd.R_drewN | apply Kd.R_drew)); exact Kd.R_mono (Kd.R_far (p:=⟨gb287,3,none⟩) (Kd.R_far (p:=⟨gb287,2,none⟩) (Kd.R_far (p:=⟨gb287,1,none⟩) (Kd.R_far (p:=⟨gb287,0,none⟩) (Kd.R_types HO291.out BK287.out (by decide)) (fun _ hk => hk.2) (.int .i64 a0_0)) (fun _ hk => hk.2) (.int .i64 a0_1)) (fun _ hk => hk.2) (.slice Ao21 t289.length co21)) (fun _ hk => hk.2) (.slice Ao20 t293.length co20)) (fun _ hk => hk.1.2),by (with_reducible repeat (first | apply Kd.R_alloc | apply Kd.R_drewN | apply Kd.R_drew)); exact Kd.R_mono (Kd.R_far (p:=⟨gb287,3,none⟩) (Kd.R_far (p:=⟨gb287,2,none⟩) (Kd.R_far (p:=⟨gb287,1,none⟩) (Kd.R_far (p:=⟨gb287,0,none⟩) (Kd.R_types HO295.out BK287.out (by decide)) (fun _ hk => hk.2) (.int .i64 a0_0)) (fun _ hk => hk.2) (.int .i64 a0_1)) (fun _ hk => hk.2) (.slice Ao21 t289.length co21)) (fun _ hk => hk.2) (.slice Ao20 t293.length co20)) (fun _ hk => hk.1.2),bl2_ HB.out GE286.out GE287.out⟩
  ·rw [if_neg c8] at H
   exact absurd H (by simp)
 ·rw [if_neg c4] at H
  exact absurd H (by simp)

end Go.Proofs.YtehjfaddhmdicaaDoor.P
namespace Go.Proofs.YtehjfaddhmdicaaDoor.P
open Go.RowKit Go.Proofs.YtehjfaddhmdicaaDoorW.PrintWords Go.Proofs.YtehjfaddhmdicaaDoorW.PrintLast Go.Proofs.YtehjfaddhmdicaaDoorW.PrintMore
attribute [local go_sem] max2_int min2_int max_two min_two max_three min_three max_four min_four   -- for this text's walks alone
set_option linter.unusedVariables false
set_option linter.unusedSimpArgs false

open Lib in
theorem cb_neg:∀ a b:List UInt8,compareBytes b a = - compareBytes a b
  | [],[] => rfl
  | [],_ :: _ => rfl
  | _ :: _,[] => rfl
  | x :: a,y :: b => by
    have ih:=cb_neg a b
    unfold compareBytes
    by_cases h1:x < y
    · rw [if_neg (UInt8.lt_asymm h1),if_pos h1,if_pos h1]; rfl
    · rw [if_neg h1]
      by_cases h2:y < x
      · rw [if_pos h2,if_pos h2,if_neg h1]
      · rw [if_neg h2,if_neg h2,if_neg h1,ih]
theorem u8_eq {x y:UInt8} (h1:¬ x < y) (h2:¬ y < x):x = y:=by
  rw [UInt8.lt_iff_toNat_lt] at h1 h2
  exact UInt8.toNat_inj.1 (by omega)
open Lib in
theorem cb_zero:∀ a b:List UInt8,compareBytes a b = 0 → a = b
  | [],[],_ => rfl
  | [],_ :: _,h => by cases h
  | _ :: _,[],h => by cases h
  | x :: a,y :: b,h => by
    unfold compareBytes at h
    by_cases h1:x < y
    · rw [if_pos h1] at h; cases h
    · rw [if_neg h1] at h
      by_cases h2:y < x
      · rw [if_pos h2] at h; cases h
      · rw [if_neg h2] at h
        rw [u8_eq h1 h2,cb_zero a b h]
open Lib in
theorem cb_trans:∀ a b c:List UInt8,compareBytes a b ≤ 0 → compareBytes b c ≤ 0 → compareBytes a c ≤ 0
  | [],_,[],_,_ => by decide
  | [],_,_ :: _,_,_ => by show (-1:Int) ≤ 0; decide
  | _ :: _,[],_,h,_ => absurd h (by show ¬ (1:Int) ≤ 0; decide)
  | _ :: _,_ :: _,[],_,h => absurd h (by show ¬ (1:Int) ≤ 0; decide)
  | x :: a,y :: b,z :: c,h1,h2 => by
    have ih:=cb_trans a b c
    unfold compareBytes at h1 h2 ⊢
    simp only [UInt8.lt_iff_toNat_lt] at h1 h2 ⊢
    split at h1 <;> split at h2 <;> split <;> first
      | decide
      | (exfalso; omega)
      | (split at h1 <;> split at h2 <;> split <;> first
          | (exact ih h1 h2)
          | (exact absurd h1 (by decide))
          | (exact absurd h2 (by decide))
          | (exfalso; omega))
      | (split at h1 <;> split <;> first | (exact absurd h1 (by decide)) | (exfalso; omega) | decide)
      | (split at h2 <;> split <;> first | (exact absurd h2 (by decide)) | (exfalso; omega) | decide)
open Lib in
theorem bytesLess_cb:∀ a b:List UInt8,Op.bytesLess a b = decide (compareBytes a b < 0)
  | [],[] => rfl
  | [],_ :: _ => rfl
  | _ :: _,[] => rfl
  | x :: a,y :: b => by
    have ih:=bytesLess_cb a b
    unfold compareBytes Op.bytesLess
    by_cases h1:x < y
    · simp [h1]
    · by_cases h2:y < x
      · have h3:x ≠ y:=fun h => by rw [h] at h2; exact UInt8.lt_irrefl _ h2
        simp [h1,h2,h3]
      · have h3:x = y:=u8_eq h1 h2
        subst h3
        simp [h1,ih]

end Go.Proofs.YtehjfaddhmdicaaDoor.P
namespace Go.Proofs.YtehjfaddhmdicaaDoor.P
open Go.RowKit Go.Proofs.YtehjfaddhmdicaaDoorW.PrintWords Go.Proofs.YtehjfaddhmdicaaDoorW.PrintLast Go.Proofs.YtehjfaddhmdicaaDoorW.PrintMore
attribute [local go_sem] max2_int min2_int max_two min_two max_three min_three max_four min_four   -- for this text's walks alone
set_option linter.unusedVariables false
set_option linter.unusedSimpArgs false

def spec_fiEdge.f (a0_0:Int) (a0_1:Int) (l0_2:List Int) (l0_3:List Int) (a1:Bool) (a2:Int) (a3:Int):Option (Int × Bool):=if a1 = true then ((spec_l1In.f a2 0 a0_0).bind fun t255 => (if t255 = true then ((spec_l1In.f a3 0 (wrap64 (a0_1 - 1))).bind fun t256 => (some (wrap64 ((wrap64 (a3 * (wrap64 (a0_0 + 1)))) + a2),t256))) else (some (wrap64 ((wrap64 (a3 * (wrap64 (a0_0 + 1)))) + a2),false)))) else ((spec_l1In.f a2 0 (wrap64 (a0_0 - 1))).bind fun t257 => (if t257 = true then ((spec_l1In.f a3 0 a0_1).bind fun t258 => (some (wrap64 ((wrap64 (a3 * a0_0)) + a2),t258))) else (some (wrap64 ((wrap64 (a3 * a0_0)) + a2),false))))
set_option maxHeartbeats 8000000 in
set_option maxRecDepth 100000 in
theorem spec_fiEdge.calls (a0_0:Int) (a0_1:Int) (A0_2:Option Addr) (c0_2:Nat) (l0_2:List Int) (A0_3:Option Addr) (c0_3:Nat) (l0_3:List Int) (a1:Bool) (a2:Int) (a3:Int) (r1:Int) (r2:Bool) (w:World) (hr0_2:Kd.C (Kd.int .i64) w A0_2 l0_2.length l0_2) (hc0_2:l0_2.length ≤ c0_2) (hr0_3:Kd.C (Kd.int .i64) w A0_3 l0_3.length l0_3) (hc0_3:l0_3.length ≤ c0_3) (h:spec_fiEdge.f a0_0 a0_1 l0_2 l0_3 a1 a2 a3 = some (r1,r2)) :
  Calls Tryd.prog 150 #[.agg #[.int .i64 a0_0,.int .i64 a0_1,.slice A0_2 l0_2.length c0_2,.slice A0_3 l0_3.length c0_3],.bool a1,.int .i64 a2,.int .i64 a3] w fun e w' => e = .returned (.tuple #[.int .i64 r1,.bool r2]) ∧ Below w.heap.size w w':=by
 have hu36:=Tryd.underlying36
 have HR0_2:=am_ hr0_2
 have HC0_2:=am_ hc0_2
 clear hr0_2 hc0_2
 have HR0_3:=am_ hr0_3
 have HC0_3:=am_ hc0_3
 clear hr0_3 hc0_3
 have HB:=am_ (Below.refl w.heap.size w)
 have H:(if a1 = true then ((spec_l1In.f a2 0 a0_0).bind fun t255 => (if t255 = true then ((spec_l1In.f a3 0 (wrap64 (a0_1 - 1))).bind fun t256 => (some (wrap64 ((wrap64 (a3 * (wrap64 (a0_0 + 1)))) + a2),t256))) else (some (wrap64 ((wrap64 (a3 * (wrap64 (a0_0 + 1)))) + a2),false)))) else ((spec_l1In.f a2 0 (wrap64 (a0_0 - 1))).bind fun t257 => (if t257 = true then ((spec_l1In.f a3 0 a0_1).bind fun t258 => (some (wrap64 ((wrap64 (a3 * a0_0)) + a2),t258))) else (some (wrap64 ((wrap64 (a3 * a0_0)) + a2),false))))) = some (r1,r2):=h
 clear h
 by_cases c5:a1 = true
 ·subst c5
  have H1:((spec_l1In.f a2 0 a0_0).bind fun t255 => (if t255 = true then ((spec_l1In.f a3 0 (wrap64 (a0_1 - 1))).bind fun t256 => (some (wrap64 ((wrap64 (a3 * (wrap64 (a0_0 + 1)))) + a2),t256))) else (some (wrap64 ((wrap64 (a3 * (wrap64 (a0_0 + 1)))) + a2),false)))) = some (r1,r2):=by rw [if_pos rfl] at H; exact H
  clear H
  have H:=H1
  clear H1
  replace H:=bi_ H
  obtain ⟨t255,A60,H⟩:=H
  replace H:(if t255 = true then ((spec_l1In.f a3 0 (wrap64 (a0_1 - 1))).bind fun t256 => (some (wrap64 ((wrap64 (a3 * (wrap64 (a0_0 + 1)))) + a2),t256))) else (some (wrap64 ((wrap64 (a3 * (wrap64 (a0_0 + 1)))) + a2),false))) = some (r1,r2):=H
  have A6:=am_ A60
  clear A60
  by_cases c7:t255 = true
  ·subst c7
   have H1:((spec_l1In.f a3 0 (wrap64 (a0_1 - 1))).bind fun t256 => (some (wrap64 ((wrap64 (a3 * (wrap64 (a0_0 + 1)))) + a2),t256))) = some (r1,r2):=by rw [if_pos rfl] at H; exact H
   clear H
   have H:=H1
   clear H1
   replace H:=bi_ H
   obtain ⟨t256,A80,H⟩:=H
   replace H:(some (wrap64 ((wrap64 (a3 * (wrap64 (a0_0 + 1)))) + a2),t256)) = some (r1,r2):=H
   have A8:=am_ A80
   clear A80
   simp only [Option.some.injEq,Prod.mk.injEq] at H
   obtain ⟨rfl,rfl⟩:=H
   go_enter Tryd.func150,Tryd.ntmps150
   go_wp2_with (first | ((with_reducible refine gate_dst (N:=4) rfl ?_); refine boxE_ (N:=4) (cs:=#[.int .i64 a0_0,.int .i64 a0_1,.slice A0_2 l0_2.length c0_2,.slice A0_3 l0_3.length c0_3]) (t:=36) ?_; intro gb254 hg w9 hbox hb; have n0_:=am_ (below_step (bl0_ HB.out) hb); have n1_:=am_ (hbox); have n2_:=am_ ((bs0_ hg HB.out:w.heap.size ≤ gb254)); have n3_:=am_ ((bs0_ hg HB.out:w.heap.size ≤ gb254)); clear HB; have HB:=n0_; have BK254:=n1_; have GW254:=n2_; have GE254:=n3_; clear n0_ n1_ n2_ n3_; clear hb hbox hg; have hcz10_0:w9.cell? ⟨gb254,0,none⟩ = some (.int .i64 a0_0):=(bc_ BK254.out 0).trans rfl; have hcz10_1:w9.cell? ⟨gb254,1,none⟩ = some (.int .i64 a0_1):=(bc_ BK254.out 1).trans rfl; have hcz10_2:w9.cell? ⟨gb254,2,none⟩ = some (.slice A0_2 l0_2.length c0_2):=(bc_ BK254.out 2).trans rfl; have hcz10_3:w9.cell? ⟨gb254,3,none⟩ = some (.slice A0_3 l0_3.length c0_3):=(bc_ BK254.out 3).trans rfl; have hfz10_0:=bz_ BK254.out 0; have hfz10_1:=bz_ BK254.out 1; have hfz10_2:=bz_ BK254.out 2; have hfz10_3:=bz_ BK254.out 3) | (go_at_call 75; (with_reducible refine (spec_l1In.calls a2 0 a0_0 true _ A6.out).mono ?_); rintro e w' ⟨rfl,⟨nd,rfl⟩⟩; (try first | exact ⟨rfl,_,World.drewN_drewN _ _ _⟩ | exact ⟨rfl,_,Eq.trans (World.drewN_drewN _ _ _) (congrArg (World.drewN _) (Nat.add_assoc _ _ _))⟩)) | (go_at_call 75; (with_reducible refine (spec_l1In.calls a3 0 (wrap64 (a0_1 - 1)) t256 _ A8.out).mono ?_); rintro e w' ⟨rfl,⟨nd,rfl⟩⟩; (try first | exact ⟨rfl,_,World.drewN_drewN _ _ _⟩ | exact ⟨rfl,_,Eq.trans (World.drewN_drewN _ _ _) (congrArg (World.drewN _) (Nat.add_assoc _ _ _))⟩)))
   repeat (go_quiet (first | ((with_reducible refine gate_dst (N:=4) rfl ?_); refine boxE_ (N:=4) (cs:=#[.int .i64 a0_0,.int .i64 a0_1,.slice A0_2 l0_2.length c0_2,.slice A0_3 l0_3.length c0_3]) (t:=36) ?_; intro gb254 hg w9 hbox hb; have n0_:=am_ (below_step (bl0_ HB.out) hb); have n1_:=am_ (hbox); have n2_:=am_ ((bs0_ hg HB.out:w.heap.size ≤ gb254)); have n3_:=am_ ((bs0_ hg HB.out:w.heap.size ≤ gb254)); clear HB; have HB:=n0_; have BK254:=n1_; have GW254:=n2_; have GE254:=n3_; clear n0_ n1_ n2_ n3_; clear hb hbox hg; have hcz10_0:w9.cell? ⟨gb254,0,none⟩ = some (.int .i64 a0_0):=(bc_ BK254.out 0).trans rfl; have hcz10_1:w9.cell? ⟨gb254,1,none⟩ = some (.int .i64 a0_1):=(bc_ BK254.out 1).trans rfl; have hcz10_2:w9.cell? ⟨gb254,2,none⟩ = some (.slice A0_2 l0_2.length c0_2):=(bc_ BK254.out 2).trans rfl; have hcz10_3:w9.cell? ⟨gb254,3,none⟩ = some (.slice A0_3 l0_3.length c0_3):=(bc_ BK254.out 3).trans rfl; have hfz10_0:=bz_ BK254.out 0; have hfz10_1:=bz_ BK254.out 1; have hfz10_2:=bz_ BK254.out 2; have hfz10_3:=bz_ BK254.out 3) | (go_at_call 75; (with_reducible refine (spec_l1In.calls a2 0 a0_0 true _ A6.out).mono ?_); rintro e w' ⟨rfl,⟨nd,rfl⟩⟩; (try first | exact ⟨rfl,_,World.drewN_drewN _ _ _⟩ | exact ⟨rfl,_,Eq.trans (World.drewN_drewN _ _ _) (congrArg (World.drewN _) (Nat.add_assoc _ _ _))⟩)) | (go_at_call 75; (with_reducible refine (spec_l1In.calls a3 0 (wrap64 (a0_1 - 1)) t256 _ A8.out).mono ?_); rintro e w' ⟨rfl,⟨nd,rfl⟩⟩; (try first | exact ⟨rfl,_,World.drewN_drewN _ _ _⟩ | exact ⟨rfl,_,Eq.trans (World.drewN_drewN _ _ _) (congrArg (World.drewN _) (Nat.add_assoc _ _ _))⟩))); try go_wp2_with (first | ((with_reducible refine gate_dst (N:=4) rfl ?_); refine boxE_ (N:=4) (cs:=#[.int .i64 a0_0,.int .i64 a0_1,.slice A0_2 l0_2.length c0_2,.slice A0_3 l0_3.length c0_3]) (t:=36) ?_; intro gb254 hg w9 hbox hb; have n0_:=am_ (below_step (bl0_ HB.out) hb); have n1_:=am_ (hbox); have n2_:=am_ ((bs0_ hg HB.out:w.heap.size ≤ gb254)); have n3_:=am_ ((bs0_ hg HB.out:w.heap.size ≤ gb254)); clear HB; have HB:=n0_; have BK254:=n1_; have GW254:=n2_; have GE254:=n3_; clear n0_ n1_ n2_ n3_; clear hb hbox hg; have hcz10_0:w9.cell? ⟨gb254,0,none⟩ = some (.int .i64 a0_0):=(bc_ BK254.out 0).trans rfl; have hcz10_1:w9.cell? ⟨gb254,1,none⟩ = some (.int .i64 a0_1):=(bc_ BK254.out 1).trans rfl; have hcz10_2:w9.cell? ⟨gb254,2,none⟩ = some (.slice A0_2 l0_2.length c0_2):=(bc_ BK254.out 2).trans rfl; have hcz10_3:w9.cell? ⟨gb254,3,none⟩ = some (.slice A0_3 l0_3.length c0_3):=(bc_ BK254.out 3).trans rfl; have hfz10_0:=bz_ BK254.out 0; have hfz10_1:=bz_ BK254.out 1; have hfz10_2:=bz_ BK254.out 2; have hfz10_3:=bz_ BK254.out 3) | (go_at_call 75; (with_reducible refine (spec_l1In.calls a2 0 a0_0 true _ A6.out).mono ?_); rintro e w' ⟨rfl,⟨nd,rfl⟩⟩; (try first | exact ⟨rfl,_,World.drewN_drewN _ _ _⟩ | exact ⟨rfl,_,Eq.trans (World.drewN_drewN _ _ _) (congrArg (World.drewN _) (Nat.add_assoc _ _ _))⟩)) | (go_at_call 75; (with_reducible refine (spec_l1In.calls a3 0 (wrap64 (a0_1 - 1)) t256 _ A8.out).mono ?_); rintro e w' ⟨rfl,⟨nd,rfl⟩⟩; (try first | exact ⟨rfl,_,World.drewN_drewN _ _ _⟩ | exact ⟨rfl,_,Eq.trans (World.drewN_drewN _ _ _) (congrArg (World.drewN _) (Nat.add_assoc _ _ _))⟩))))
   go_ret2
   exact ⟨er_,bl1_ HB.out GE254.out⟩
  ·replace c7:=Bool.eq_false_iff.mpr c7
   subst c7
   have H1:(some (wrap64 ((wrap64 (a3 * (wrap64 (a0_0 + 1)))) + a2),false)) = some (r1,r2):=by rw [if_neg (show ¬ (false = true) by decide)] at H; exact H
   clear H
   have H:=H1
   clear H1
   simp only [Option.some.injEq,Prod.mk.injEq] at H
   obtain ⟨rfl,rfl⟩:=H
   go_enter Tryd.func150,Tryd.ntmps150
   go_wp2_with (first | ((with_reducible refine gate_dst (N:=4) rfl ?_); refine boxE_ (N:=4) (cs:=#[.int .i64 a0_0,.int .i64 a0_1,.slice A0_2 l0_2.length c0_2,.slice A0_3 l0_3.length c0_3]) (t:=36) ?_; intro gb254 hg w11 hbox hb; have n0_:=am_ (below_step (bl0_ HB.out) hb); have n1_:=am_ (hbox); have n2_:=am_ ((bs0_ hg HB.out:w.heap.size ≤ gb254)); have n3_:=am_ ((bs0_ hg HB.out:w.heap.size ≤ gb254)); clear HB; have HB:=n0_; have BK254:=n1_; have GW254:=n2_; have GE254:=n3_; clear n0_ n1_ n2_ n3_; clear hb hbox hg; have hcz12_0:w11.cell? ⟨gb254,0,none⟩ = some (.int .i64 a0_0):=(bc_ BK254.out 0).trans rfl; have hcz12_1:w11.cell? ⟨gb254,1,none⟩ = some (.int .i64 a0_1):=(bc_ BK254.out 1).trans rfl; have hcz12_2:w11.cell? ⟨gb254,2,none⟩ = some (.slice A0_2 l0_2.length c0_2):=(bc_ BK254.out 2).trans rfl; have hcz12_3:w11.cell? ⟨gb254,3,none⟩ = some (.slice A0_3 l0_3.length c0_3):=(bc_ BK254.out 3).trans rfl; have hfz12_0:=bz_ BK254.out 0; have hfz12_1:=bz_ BK254.out 1; have hfz12_2:=bz_ BK254.out 2; have hfz12_3:=bz_ BK254.out 3) | (go_at_call 75; (with_reducible refine (spec_l1In.calls a2 0 a0_0 false _ A6.out).mono ?_); rintro e w' ⟨rfl,⟨nd,rfl⟩⟩; (try first | exact ⟨rfl,_,World.drewN_drewN _ _ _⟩ | exact ⟨rfl,_,Eq.trans (World.drewN_drewN _ _ _) (congrArg (World.drewN _) (Nat.add_assoc _ _ _))⟩)))
   repeat (go_quiet (first | ((with_reducible refine gate_dst (N:=4) rfl ?_); refine boxE_ (N:=4) (cs:=#[.int .i64 a0_0,.int .i64 a0_1,.slice A0_2 l0_2.length c0_2,.slice A0_3 l0_3.length c0_3]) (t:=36) ?_; intro gb254 hg w11 hbox hb; have n0_:=am_ (below_step (bl0_ HB.out) hb); have n1_:=am_ (hbox); have n2_:=am_ ((bs0_ hg HB.out:w.heap.size ≤ gb254)); have n3_:=am_ ((bs0_ hg HB.out:w.heap.size ≤ gb254)); clear HB; have HB:=n0_; have BK254:=n1_; have GW254:=n2_; have GE254:=n3_; clear n0_ n1_ n2_ n3_; clear hb hbox hg; have hcz12_0:w11.cell? ⟨gb254,0,none⟩ = some (.int .i64 a0_0):=(bc_ BK254.out 0).trans rfl; have hcz12_1:w11.cell? ⟨gb254,1,none⟩ = some (.int .i64 a0_1):=(bc_ BK254.out 1).trans rfl; have hcz12_2:w11.cell? ⟨gb254,2,none⟩ = some (.slice A0_2 l0_2.length c0_2):=(bc_ BK254.out 2).trans rfl; have hcz12_3:w11.cell? ⟨gb254,3,none⟩ = some (.slice A0_3 l0_3.length c0_3):=(bc_ BK254.out 3).trans rfl; have hfz12_0:=bz_ BK254.out 0; have hfz12_1:=bz_ BK254.out 1; have hfz12_2:=bz_ BK254.out 2; have hfz12_3:=bz_ BK254.out 3) | (go_at_call 75; (with_reducible refine (spec_l1In.calls a2 0 a0_0 false _ A6.out).mono ?_); rintro e w' ⟨rfl,⟨nd,rfl⟩⟩; (try first | exact ⟨rfl,_,World.drewN_drewN _ _ _⟩ | exact ⟨rfl,_,Eq.trans (World.drewN_drewN _ _ _) (congrArg (World.drewN _) (Nat.add_assoc _ _ _))⟩))); try go_wp2_with (first | ((with_reducible refine gate_dst (N:=4) rfl ?_); refine boxE_ (N:=4) (cs:=#[.int .i64 a0_0,.int .i64 a0_1,.slice A0_2 l0_2.length c0_2,.slice A0_3 l0_3.length c0_3]) (t:=36) ?_; intro gb254 hg w11 hbox hb; have n0_:=am_ (below_step (bl0_ HB.out) hb); have n1_:=am_ (hbox); have n2_:=am_ ((bs0_ hg HB.out:w.heap.size ≤ gb254)); have n3_:=am_ ((bs0_ hg HB.out:w.heap.size ≤ gb254)); clear HB; have HB:=n0_; have BK254:=n1_; have GW254:=n2_; have GE254:=n3_; clear n0_ n1_ n2_ n3_; clear hb hbox hg; have hcz12_0:w11.cell? ⟨gb254,0,none⟩ = some (.int .i64 a0_0):=(bc_ BK254.out 0).trans rfl; have hcz12_1:w11.cell? ⟨gb254,1,none⟩ = some (.int .i64 a0_1):=(bc_ BK254.out 1).trans rfl; have hcz12_2:w11.cell? ⟨gb254,2,none⟩ = some (.slice A0_2 l0_2.length c0_2):=(bc_ BK254.out 2).trans rfl; have hcz12_3:w11.cell? ⟨gb254,3,none⟩ = some (.slice A0_3 l0_3.length c0_3):=(bc_ BK254.out 3).trans rfl; have hfz12_0:=bz_ BK254.out 0; have hfz12_1:=bz_ BK254.out 1; have hfz12_2:=bz_ BK254.out 2; have hfz12_3:=bz_ BK254.out 3) | (go_at_call 75; (with_reducible refine (spec_l1In.calls a2 0 a0_0 false _ A6.out).mono ?_); rintro e w' ⟨rfl,⟨nd,rfl⟩⟩; (try first | exact ⟨rfl,_,World.drewN_drewN _ _ _⟩ | exact ⟨rfl,_,Eq.trans (World.drewN_drewN _ _ _) (congrArg (World.drewN _) (Nat.add_assoc _ _ _))⟩))))
   go_ret2
   exact ⟨er_,bl1_ HB.out GE254.out⟩
 ·replace c5:=Bool.eq_false_iff.mpr c5
  subst c5
  have H1:((spec_l1In.f a2 0 (wrap64 (a0_0 - 1))).bind fun t257 => (if t257 = true then ((spec_l1In.f a3 0 a0_1).bind fun t258 => (some (wrap64 ((wrap64 (a3 * a0_0)) + a2),t258))) else (some (wrap64 ((wrap64 (a3 * a0_0)) + a2),false)))) = some (r1,r2):=by rw [if_neg (show ¬ (false = true) by decide)] at H; exact H
  clear H
  have H:=H1
  clear H1
  replace H:=bi_ H
  obtain ⟨t257,A130,H⟩:=H
  replace H:(if t257 = true then ((spec_l1In.f a3 0 a0_1).bind fun t258 => (some (wrap64 ((wrap64 (a3 * a0_0)) + a2),t258))) else (some (wrap64 ((wrap64 (a3 * a0_0)) + a2),false))) = some (r1,r2):=H
  have A13:=am_ A130
  clear A130
  by_cases c14:t257 = true
  ·subst c14
   have H1:((spec_l1In.f a3 0 a0_1).bind fun t258 => (some (wrap64 ((wrap64 (a3 * a0_0)) + a2),t258))) = some (r1,r2):=by rw [if_pos rfl] at H; exact H
   clear H
   have H:=H1
   clear H1
   replace H:=bi_ H
   obtain ⟨t258,A150,H⟩:=H
   replace H:(some (wrap64 ((wrap64 (a3 * a0_0)) + a2),t258)) = some (r1,r2):=H
   have A15:=am_ A150
   clear A150
   simp only [Option.some.injEq,Prod.mk.injEq] at H
   obtain ⟨rfl,rfl⟩:=H
   go_enter Tryd.func150,Tryd.ntmps150
   go_wp2_with (first | ((with_reducible refine gate_dst (N:=4) rfl ?_); refine boxE_ (N:=4) (cs:=#[.int .i64 a0_0,.int .i64 a0_1,.slice A0_2 l0_2.length c0_2,.slice A0_3 l0_3.length c0_3]) (t:=36) ?_; intro gb254 hg w16 hbox hb; have n0_:=am_ (below_step (bl0_ HB.out) hb); have n1_:=am_ (hbox); have n2_:=am_ ((bs0_ hg HB.out:w.heap.size ≤ gb254)); have n3_:=am_ ((bs0_ hg HB.out:w.heap.size ≤ gb254)); clear HB; have HB:=n0_; have BK254:=n1_; have GW254:=n2_; have GE254:=n3_; clear n0_ n1_ n2_ n3_; clear hb hbox hg; have hcz17_0:w16.cell? ⟨gb254,0,none⟩ = some (.int .i64 a0_0):=(bc_ BK254.out 0).trans rfl; have hcz17_1:w16.cell? ⟨gb254,1,none⟩ = some (.int .i64 a0_1):=(bc_ BK254.out 1).trans rfl; have hcz17_2:w16.cell? ⟨gb254,2,none⟩ = some (.slice A0_2 l0_2.length c0_2):=(bc_ BK254.out 2).trans rfl; have hcz17_3:w16.cell? ⟨gb254,3,none⟩ = some (.slice A0_3 l0_3.length c0_3):=(bc_ BK254.out 3).trans rfl; have hfz17_0:=bz_ BK254.out 0; have hfz17_1:=bz_ BK254.out 1; have hfz17_2:=bz_ BK254.out 2; have hfz17_3:=bz_ BK254.out 3) | (go_at_call 75; (with_reducible refine (spec_l1In.calls a2 0 (wrap64 (a0_0 - 1)) true _ A13.out).mono ?_); rintro e w' ⟨rfl,⟨nd,rfl⟩⟩; (try first | exact ⟨rfl,_,World.drewN_drewN _ _ _⟩ | exact ⟨rfl,_,Eq.trans (World.drewN_drewN _ _ _) (congrArg (World.drewN _) (Nat.add_assoc _ _ _))⟩)) | (go_at_call 75; (with_reducible refine (spec_l1In.calls a3 0 a0_1 t258 _ A15.out).mono ?_); rintro e w' ⟨rfl,⟨nd,rfl⟩⟩; (try first | exact ⟨rfl,_,World.drewN_drewN _ _ _⟩ | exact ⟨rfl,_,Eq.trans (World.drewN_drewN _ _ _) (congrArg (World.drewN _) (Nat.add_assoc _ _ _))⟩)))
   repeat (go_quiet (first | ((with_reducible refine gate_dst (N:=4) rfl ?_); refine boxE_ (N:=4) (cs:=#[.int .i64 a0_0,.int .i64 a0_1,.slice A0_2 l0_2.length c0_2,.slice A0_3 l0_3.length c0_3]) (t:=36) ?_; intro gb254 hg w16 hbox hb; have n0_:=am_ (below_step (bl0_ HB.out) hb); have n1_:=am_ (hbox); have n2_:=am_ ((bs0_ hg HB.out:w.heap.size ≤ gb254)); have n3_:=am_ ((bs0_ hg HB.out:w.heap.size ≤ gb254)); clear HB; have HB:=n0_; have BK254:=n1_; have GW254:=n2_; have GE254:=n3_; clear n0_ n1_ n2_ n3_; clear hb hbox hg; have hcz17_0:w16.cell? ⟨gb254,0,none⟩ = some (.int .i64 a0_0):=(bc_ BK254.out 0).trans rfl; have hcz17_1:w16.cell? ⟨gb254,1,none⟩ = some (.int .i64 a0_1):=(bc_ BK254.out 1).trans rfl; have hcz17_2:w16.cell? ⟨gb254,2,none⟩ = some (.slice A0_2 l0_2.length c0_2):=(bc_ BK254.out 2).trans rfl; have hcz17_3:w16.cell? ⟨gb254,3,none⟩ = some (.slice A0_3 l0_3.length c0_3):=(bc_ BK254.out 3).trans rfl; have hfz17_0:=bz_ BK254.out 0; have hfz17_1:=bz_ BK254.out 1; have hfz17_2:=bz_ BK254.out 2; have hfz17_3:=bz_ BK254.out 3) | (go_at_call 75; (with_reducible refine (spec_l1In.calls a2 0 (wrap64 (a0_0 - 1)) true _ A13.out).mono ?_); rintro e w' ⟨rfl,⟨nd,rfl⟩⟩; (try first | exact ⟨rfl,_,World.drewN_drewN _ _ _⟩ | exact ⟨rfl,_,Eq.trans (World.drewN_drewN _ _ _) (congrArg (World.drewN _) (Nat.add_assoc _ _ _))⟩)) | (go_at_call 75; (with_reducible refine (spec_l1In.calls a3 0 a0_1 t258 _ A15.out).mono ?_); rintro e w' ⟨rfl,⟨nd,rfl⟩⟩; (try first | exact ⟨rfl,_,World.drewN_drewN _ _ _⟩ | exact ⟨rfl,_,Eq.trans (World.drewN_drewN _ _ _) (congrArg (World.drewN _) (Nat.add_assoc _ _ _))⟩))); try go_wp2_with (first | ((with_reducible refine gate_dst (N:=4) rfl ?_); refine boxE_ (N:=4) (cs:=#[.int .i64 a0_0,.int .i64 a0_1,.slice A0_2 l0_2.length c0_2,.slice A0_3 l0_3.length c0_3]) (t:=36) ?_; intro gb254 hg w16 hbox hb; have n0_:=am_ (below_step (bl0_ HB.out) hb); have n1_:=am_ (hbox); have n2_:=am_ ((bs0_ hg HB.out:w.heap.size ≤ gb254)); have n3_:=am_ ((bs0_ hg HB.out:w.heap.size ≤ gb254)); clear HB; have HB:=n0_; have BK254:=n1_; have GW254:=n2_; have GE254:=n3_; clear n0_ n1_ n2_ n3_; clear hb hbox hg; have hcz17_0:w16.cell? ⟨gb254,0,none⟩ = some (.int .i64 a0_0):=(bc_ BK254.out 0).trans rfl; have hcz17_1:w16.cell? ⟨gb254,1,none⟩ = some (.int .i64 a0_1):=(bc_ BK254.out 1).trans rfl; have hcz17_2:w16.cell? ⟨gb254,2,none⟩ = some (.slice A0_2 l0_2.length c0_2):=(bc_ BK254.out 2).trans rfl; have hcz17_3:w16.cell? ⟨gb254,3,none⟩ = some (.slice A0_3 l0_3.length c0_3):=(bc_ BK254.out 3).trans rfl; have hfz17_0:=bz_ BK254.out 0; have hfz17_1:=bz_ BK254.out 1; have hfz17_2:=bz_ BK254.out 2; have hfz17_3:=bz_ BK254.out 3) | (go_at_call 75; (with_reducible refine (spec_l1In.calls a2 0 (wrap64 (a0_0 - 1)) true _ A13.out).mono ?_); rintro e w' ⟨rfl,⟨nd,rfl⟩⟩; (try first | exact ⟨rfl,_,World.drewN_drewN _ _ _⟩ | exact ⟨rfl,_,Eq.trans (World.drewN_drewN _ _ _) (congrArg (World.drewN _) (Nat.add_assoc _ _ _))⟩)) | (go_at_call 75; (with_reducible refine (spec_l1In.calls a3 0 a0_1 t258 _ A15.out).mono ?_); rintro e w' ⟨rfl,⟨nd,rfl⟩⟩; (try first | exact ⟨rfl,_,World.drewN_drewN _ _ _⟩ | exact ⟨rfl,_,Eq.trans (World.drewN_drewN _ _ _) (congrArg (World.drewN _) (Nat.add_assoc _ _ _))⟩))))
   go_ret2
   exact ⟨er_,bl1_ HB.out GE254.out⟩
  ·replace c14:=Bool.eq_false_iff.mpr c14
   subst c14
   have H1:(some (wrap64 ((wrap64 (a3 * a0_0)) + a2),false)) = some (r1,r2):=by rw [if_neg (show ¬ (false = true) by decide)] at H; exact H
   clear H
   have H:=H1
   clear H1
   simp only [Option.some.injEq,Prod.mk.injEq] at H
   obtain ⟨rfl,rfl⟩:=H
   go_enter Tryd.func150,Tryd.ntmps150
   go_wp2_with (first | ((with_reducible refine gate_dst (N:=4) rfl ?_); refine boxE_ (N:=4) (cs:=#[.int .i64 a0_0,.int .i64 a0_1,.slice A0_2 l0_2.length c0_2,.slice A0_3 l0_3.length c0_3]) (t:=36) ?_; intro gb254 hg w18 hbox hb; have n0_:=am_ (below_step (bl0_ HB.out) hb); have n1_:=am_ (hbox); have n2_:=am_ ((bs0_ hg HB.out:w.heap.size ≤ gb254)); have n3_:=am_ ((bs0_ hg HB.out:w.heap.size ≤ gb254)); clear HB; have HB:=n0_; have BK254:=n1_; have GW254:=n2_; have GE254:=n3_; clear n0_ n1_ n2_ n3_; clear hb hbox hg; have hcz19_0:w18.cell? ⟨gb254,0,none⟩ = some (.int .i64 a0_0):=(bc_ BK254.out 0).trans rfl; have hcz19_1:w18.cell? ⟨gb254,1,none⟩ = some (.int .i64 a0_1):=(bc_ BK254.out 1).trans rfl; have hcz19_2:w18.cell? ⟨gb254,2,none⟩ = some (.slice A0_2 l0_2.length c0_2):=(bc_ BK254.out 2).trans rfl; have hcz19_3:w18.cell? ⟨gb254,3,none⟩ = some (.slice A0_3 l0_3.length c0_3):=(bc_ BK254.out 3).trans rfl; have hfz19_0:=bz_ BK254.out 0; have hfz19_1:=bz_ BK254.out 1; have hfz19_2:=bz_ BK254.out 2; have hfz19_3:=bz_ BK254.out 3) | (go_at_call 75; (with_reducible refine (spec_l1In.calls a2 0 (wrap64 (a0_0 - 1)) false _ A13.out).mono ?_); rintro e w' ⟨rfl,⟨nd,rfl⟩⟩; (try first | exact ⟨rfl,_,World.drewN_drewN _ _ _⟩ | exact ⟨rfl,_,Eq.trans (World.drewN_drewN _ _ _) (congrArg (World.drewN _) (Nat.add_assoc _ _ _))⟩)))
   repeat (go_quiet (first | ((with_reducible refine gate_dst (N:=4) rfl ?_); refine boxE_ (N:=4) (cs:=#[.int .i64 a0_0,.int .i64 a0_1,.slice A0_2 l0_2.length c0_2,.slice A0_3 l0_3.length c0_3]) (t:=36) ?_; intro gb254 hg w18 hbox hb; have n0_:=am_ (below_step (bl0_ HB.out) hb); have n1_:=am_ (hbox); have n2_:=am_ ((bs0_ hg HB.out:w.heap.size ≤ gb254)); have n3_:=am_ ((bs0_ hg HB.out:w.heap.size ≤ gb254)); clear HB; have HB:=n0_; have BK254:=n1_; have GW254:=n2_; have GE254:=n3_; clear n0_ n1_ n2_ n3_; clear hb hbox hg; have hcz19_0:w18.cell? ⟨gb254,0,none⟩ = some (.int .i64 a0_0):=(bc_ BK254.out 0).trans rfl; have hcz19_1:w18.cell? ⟨gb254,1,none⟩ = some (.int .i64 a0_1):=(bc_ BK254.out 1).trans rfl; have hcz19_2:w18.cell? ⟨gb254,2,none⟩ = some (.slice A0_2 l0_2.length c0_2):=(bc_ BK254.out 2).trans rfl; have hcz19_3:w18.cell? ⟨gb254,3,none⟩ = some (.slice A0_3 l0_3.length c0_3):=(bc_ BK254.out 3).trans rfl; have hfz19_0:=bz_ BK254.out 0; have hfz19_1:=bz_ BK254.out 1; have hfz19_2:=bz_ BK254.out 2; have hfz19_3:=bz_ BK254.out 3) | (go_at_call 75; (with_reducible refine (spec_l1In.calls a2 0 (wrap64 (a0_0 - 1)) false _ A13.out).mono ?_); rintro e w' ⟨rfl,⟨nd,rfl⟩⟩; (try first | exact ⟨rfl,_,World.drewN_drewN _ _ _⟩ | exact ⟨rfl,_,Eq.trans (World.drewN_drewN _ _ _) (congrArg (World.drewN _) (Nat.add_assoc _ _ _))⟩))); try go_wp2_with (first | ((with_reducible refine gate_dst (N:=4) rfl ?_); refine boxE_ (N:=4) (cs:=#[.int .i64 a0_0,.int .i64 a0_1,.slice A0_2 l0_2.length c0_2,.slice A0_3 l0_3.length c0_3]) (t:=36) ?_; intro gb254 hg w18 hbox hb; have n0_:=am_ (below_step (bl0_ HB.out) hb); have n1_:=am_ (hbox); have n2_:=am_ ((bs0_ hg HB.out:w.heap.size ≤ gb254)); have n3_:=am_ ((bs0_ hg HB.out:w.heap.size ≤ gb254)); clear HB; have HB:=n0_; have BK254:=n1_; have GW254:=n2_; have GE254:=n3_; clear n0_ n1_ n2_ n3_; clear hb hbox hg; have hcz19_0:w18.cell? ⟨gb254,0,none⟩ = some (.int .i64 a0_0):=(bc_ BK254.out 0).trans rfl; have hcz19_1:w18.cell? ⟨gb254,1,none⟩ = some (.int .i64 a0_1):=(bc_ BK254.out 1).trans rfl; have hcz19_2:w18.cell? ⟨gb254,2,none⟩ = some (.slice A0_2 l0_2.length c0_2):=(bc_ BK254.out 2).trans rfl; have hcz19_3:w18.cell? ⟨gb254,3,none⟩ = some (.slice A0_3 l0_3.length c0_3):=(bc_ BK254.out 3).trans rfl; have hfz19_0:=bz_ BK254.out 0; have hfz19_1:=bz_ BK254.out 1; have hfz19_2:=bz_ BK254.out 2; have hfz19_3:=bz_ BK254.out 3) | (go_at_call 75; (with_reducible refine (spec_l1In.calls a2 0 (wrap64 (a0_0 - 1)) false _ A13.out).mono ?_); rintro e w' ⟨rfl,⟨nd,rfl⟩⟩; (try first | exact ⟨rfl,_,World.drewN_drewN _ _ _⟩ | exact ⟨rfl,_,Eq.trans (World.drewN_drewN _ _ _) (congrArg (World.drewN _) (Nat.add_assoc _ _ _))⟩))))
   go_ret2
   exact ⟨er_,bl1_ HB.out GE254.out⟩


def spec_l1Has.l0:Nat → Int → List Int → Int → Int → Option (Bool)
  | 0,_,_,_,_ => none
  | k + 1,x1,x7,x8,x9 => if x9 < x8 then (if 0 ≤ x9 then (if x9 < (x7.length:Int) then (if (rd x7 x9) = x1 then (some true) else (spec_l1Has.l0 k x1 x7 x8 (wrap64 (x9 + 1)))) else (none)) else (none)) else (some false)
def spec_l1Has.f (k:Nat) (l0:List Int) (a1:Int):Option (Bool):=spec_l1Has.l0 k a1 l0 (l0.length:Int) 0
theorem spec_l1Has.mono_l:∀ k,(∀ y0 y1 y2 y3,LeO (spec_l1Has.l0 k y0 y1 y2 y3) (spec_l1Has.l0 (k + 1) y0 y1 y2 y3))
  | 0 => fun _ _ _ _ r h => by simp [spec_l1Has.l0] at h
  | k + 1 => by
    have ih0:=spec_l1Has.mono_l k
    · intro y0 y1 y2 y3
      unfold spec_l1Has.l0
      repeat' first | (with_reducible first | exact ih0 _ _ _ _ | exact LeO.refl _ | exact LeO.none _ | refine LeO.ite ?_ ?_ | refine LeO.bind ?_ (fun _ => ?_)) | exact ih0 _ _ _ _
theorem spec_l1Has.mono:∀ a0 a1 k,LeO (spec_l1Has.f k a0 a1) (spec_l1Has.f (k + 1) a0 a1):=by
  intro a0 a1 k
  have ih0:=spec_l1Has.mono_l k
  unfold spec_l1Has.f
  repeat' first | (with_reducible first | exact ih0 _ _ _ _ | exact LeO.refl _ | exact LeO.none _ | refine LeO.ite ?_ ?_ | refine LeO.bind ?_ (fun _ => ?_)) | exact ih0 _ _ _ _
set_option maxHeartbeats 8000000 in
set_option maxRecDepth 100000 in
theorem spec_l1Has.calls (k:Nat) (A0:Option Addr) (c0:Nat) (l0:List Int) (a1:Int) (r:Bool) (w:World) (hr0:Kd.C (Kd.int .i64) w A0 l0.length l0) (hc0:l0.length ≤ c0) (h:spec_l1Has.f k l0 a1 = some r) :
    Calls Tryd.prog 151 #[.slice A0 l0.length c0,.int .i64 a1] w fun e w' => e = .returned (.bool r) ∧ Drawn0 w w':=by
  have HR0:=am_ hr0
  have HC0:=am_ hc0
  clear hr0 hc0
  have H:(spec_l1Has.l0 k a1 l0 (l0.length:Int) 0) = some r:=h
  clear h
  have H':=am_ H
  clear H
  go_enter Tryd.func151,Tryd.ntmps151
  go_wp2
  go_loopg [9] k (fun kq v9 w' => ∃ (x9_1:Int),v9 = .int .i64 x9_1 ∧ Aside0 (spec_l1Has.l0 kq a1 l0 (l0.length:Int) x9_1 = some r) ∧ Aside0 (kq ≤ k) ∧ Drawn0 w w')
  case atStart => exact ⟨(0),rs_,H',⟨Nat.le_refl _⟩,by repeat (first | exact Drawn0.refl _ | apply Drawn0.step)⟩
  case round =>
    clear H'
    try clear c1
    try clear p2
    obtain ⟨x9_1,rfl,HA,HK1,⟨m1,rfl⟩⟩:=hrel
    cases gk with
    | zero => exact absurd HA.out (by simp [spec_l1Has.l0])
    | succ k1 =>
      have H:=HA.out
      clear HA
      simp only [spec_l1Has.l0] at H
      by_cases c3:x9_1 < (l0.length:Int)
      · rw [if_pos c3] at H
        have c3b0:decide (x9_1 < (l0.length:Int)) = true:=decide_eq_true c3
        clear c3
        by_cases c4:0 ≤ x9_1
        · rw [if_pos c4] at H
          have c4b0:decide (0 ≤ x9_1) = true:=decide_eq_true c4
          clear c4
          by_cases c5:x9_1 < (l0.length:Int)
          · rw [if_pos c5] at H
            have c5b0:decide (x9_1 < (l0.length:Int)) = true:=decide_eq_true c5
            clear c5
            by_cases c6:(rd l0 x9_1) = a1
            · rw [if_pos c6] at H
              have c6b0:((rd l0 x9_1) == a1) = true:=beq_iff_eq.mpr c6
              have c6b1:((rd l0 x9_1) != a1) = false:=bne_eq_false_iff_eq.mpr c6
              clear c6
              obtain rfl:=Option.some.inj H
              have p259:0 ≤ (x9_1:Int):=of_decide_eq_true as_
              have q259:x9_1 < (l0.length:Int):=of_decide_eq_true as_
              obtain ⟨ad259,e259,hx259_0⟩:=Kd.at_int HR0.out x9_1 p259 q259
              cases e259
              replace p259:=eq_true p259
              replace q259:=eq_true q259
              go_wp2
              go_ret
              exact ⟨by first | rfl | (simp; done) | (simp [*]; done),by repeat (first | exact Drawn0.refl _ | apply Drawn0.step)⟩
            · rw [if_neg c6] at H
              have c6b0:((rd l0 x9_1) == a1) = false:=beq_eq_false_iff_ne.mpr c6
              have c6b1:((rd l0 x9_1) != a1) = true:=bne_iff_ne.mpr c6
              have H':=am_ H
              clear H
              have p259:0 ≤ (x9_1:Int):=of_decide_eq_true as_
              have q259:x9_1 < (l0.length:Int):=of_decide_eq_true as_
              obtain ⟨ad259,e259,hx259_0⟩:=Kd.at_int HR0.out x9_1 p259 q259
              cases e259
              replace p259:=eq_true p259
              replace q259:=eq_true q259
              go_wp2
              go_roundg k1
              case measure => have:=HK1.out; omega
              case rel => exact ⟨(wrap64 (x9_1 + 1)),rs_,H',⟨by have:=HK1.out; omega⟩,by repeat (first | exact Drawn0.refl _ | apply Drawn0.step)⟩
          · rw [if_neg c5] at H
            exact absurd H (by simp)
        · rw [if_neg c4] at H
          exact absurd H (by simp)
      · rw [if_neg c3] at H
        have c3b0:decide (x9_1 < (l0.length:Int)) = false:=decide_eq_false c3
        clear c3
        obtain rfl:=Option.some.inj H
        go_wp2
        go_ret
        exact ⟨by first | rfl | (simp; done) | (simp [*]; done),by repeat (first | exact Drawn0.refl _ | apply Drawn0.step)⟩


def spec_fiHas.f (k:Nat) (a0_0:Int) (a0_1:Int) (l0_2:List Int) (l0_3:List Int) (a1:Bool) (a2:Int) (a3:Int):Option (Bool):=(spec_fiEdge.f a0_0 a0_1 l0_2 l0_3 a1 a2 a3).bind fun bt261 => (if a1 = true then ((spec_l1Has.f k l0_3 bt261.1).bind fun t263 => (some t263)) else ((spec_l1Has.f k l0_2 bt261.1).bind fun t264 => (some t264)))
theorem spec_fiHas.mono:∀ a0 a1 a2 a3 a4 a5 a6 k,LeO (spec_fiHas.f k a0 a1 a2 a3 a4 a5 a6) (spec_fiHas.f (k + 1) a0 a1 a2 a3 a4 a5 a6):=by
 intro a0 a1 a2 a3 a4 a5 a6 k
 unfold spec_fiHas.f
 repeat' first | (with_reducible first | exact spec_l1Has.mono _ _ _ | exact LeO.refl _ | exact LeO.none _ | refine LeO.ite ?_ ?_ | refine LeO.bind ?_ (fun _ => ?_)) | exact spec_l1Has.mono _ _ _
set_option maxHeartbeats 8000000 in
set_option maxRecDepth 100000 in
theorem spec_fiHas.calls (k:Nat) (a0_0:Int) (a0_1:Int) (A0_2:Option Addr) (c0_2:Nat) (l0_2:List Int) (A0_3:Option Addr) (c0_3:Nat) (l0_3:List Int) (a1:Bool) (a2:Int) (a3:Int) (r:Bool) (w:World) (hr0_2:Kd.C (Kd.int .i64) w A0_2 l0_2.length l0_2) (hc0_2:l0_2.length ≤ c0_2) (hr0_3:Kd.C (Kd.int .i64) w A0_3 l0_3.length l0_3) (hc0_3:l0_3.length ≤ c0_3) (h:spec_fiHas.f k a0_0 a0_1 l0_2 l0_3 a1 a2 a3 = some r) :
  Calls Tryd.prog 122 #[.agg #[.int .i64 a0_0,.int .i64 a0_1,.slice A0_2 l0_2.length c0_2,.slice A0_3 l0_3.length c0_3],.bool a1,.int .i64 a2,.int .i64 a3] w fun e w' => e = .returned (.bool r) ∧ Below w.heap.size w w':=by
 have hu36:=Tryd.underlying36
 have HR0_2:=am_ hr0_2
 have HC0_2:=am_ hc0_2
 clear hr0_2 hc0_2
 have HR0_3:=am_ hr0_3
 have HC0_3:=am_ hc0_3
 clear hr0_3 hc0_3
 have HB:=am_ (Below.refl w.heap.size w)
 have H:((spec_fiEdge.f a0_0 a0_1 l0_2 l0_3 a1 a2 a3).bind fun bt261 => (if a1 = true then ((spec_l1Has.f k l0_3 bt261.1).bind fun t263 => (some t263)) else ((spec_l1Has.f k l0_2 bt261.1).bind fun t264 => (some t264)))) = some r:=h
 clear h
 replace H:=bi_ H
 obtain ⟨⟨t261,t262⟩,A50,H⟩:=H
 replace H:(if a1 = true then ((spec_l1Has.f k l0_3 t261).bind fun t263 => (some t263)) else ((spec_l1Has.f k l0_2 t261).bind fun t264 => (some t264))) = some r:=H
 have A5:=am_ A50
 clear A50
 by_cases c6:a1 = true
 ·subst c6
  have H1:((spec_l1Has.f k l0_3 t261).bind fun t263 => (some t263)) = some r:=by rw [if_pos rfl] at H; exact H
  clear H
  have H:=H1
  clear H1
  replace H:=bi_ H
  obtain ⟨t263,A70,H⟩:=H
  replace H:(some t263) = some r:=H
  have A7:=am_ A70
  clear A70
  obtain rfl:=Option.some.inj H
  go_enter Tryd.func122,Tryd.ntmps122
  go_wp2_with (first | ((with_reducible refine gate_dst (N:=4) rfl ?_); refine boxE_ (N:=4) (cs:=#[.int .i64 a0_0,.int .i64 a0_1,.slice A0_2 l0_2.length c0_2,.slice A0_3 l0_3.length c0_3]) (t:=36) ?_; intro gb260 hg w8 hbox hb; have n0_:=am_ (below_step (bl0_ HB.out) hb); have n1_:=am_ (hbox); have n2_:=am_ ((bs0_ hg HB.out:w.heap.size ≤ gb260)); have n3_:=am_ ((bs0_ hg HB.out:w.heap.size ≤ gb260)); clear HB; have HB:=n0_; have BK260:=n1_; have GW260:=n2_; have GE260:=n3_; clear n0_ n1_ n2_ n3_; clear hb hbox hg; have hcz9_0:w8.cell? ⟨gb260,0,none⟩ = some (.int .i64 a0_0):=(bc_ BK260.out 0).trans rfl; have hcz9_1:w8.cell? ⟨gb260,1,none⟩ = some (.int .i64 a0_1):=(bc_ BK260.out 1).trans rfl; have hcz9_2:w8.cell? ⟨gb260,2,none⟩ = some (.slice A0_2 l0_2.length c0_2):=(bc_ BK260.out 2).trans rfl; have hcz9_3:w8.cell? ⟨gb260,3,none⟩ = some (.slice A0_3 l0_3.length c0_3):=(bc_ BK260.out 3).trans rfl; have hfz9_0:=bz_ BK260.out 0; have hfz9_1:=bz_ BK260.out 1; have hfz9_2:=bz_ BK260.out 2; have hfz9_3:=bz_ BK260.out 3) | ((with_reducible refine gate_callee (f:=150) rfl ?_); refine goesL_ (some 16) rfl rfl Tryd.func150 (by kernel_rfl) rfl #[.agg #[.int .i64 a0_0,.int .i64 a0_1,.slice A0_2 l0_2.length c0_2,.slice A0_3 l0_3.length c0_3],.bool true,.int .i64 a2,.int .i64 a3] rfl ob_ ?_; (with_reducible refine (spec_fiEdge.calls a0_0 a0_1 _ _ l0_2 _ _ l0_3 true a2 a3 t261 t262 _ ?side1 ?side2 ?side3 ?side4 A5.out).mono ?_); (case side1 => exact kc_ (Kd.C_below HR0_2.out HB.out)); (case side2 => exact HC0_2.out); (case side3 => exact kc_ (Kd.C_below HR0_3.out HB.out)); (case side4 => exact HC0_3.out); rintro e w10 ⟨rfl,hb⟩; refine ⟨_,rfl,?_⟩; have n0_:=am_ (bb_ BK260.out hb); have n1_:=am_ (below_step (bl1_ HB.out GE260.out) hb); clear BK260; clear HB; have BK260:=n0_; have HB:=n1_; clear n0_ n1_; (try clear hb); (try clear hb2); (try clear hk); (try clear hi); have hcz11_0:w10.cell? ⟨gb260,0,none⟩ = some (.int .i64 a0_0):=(bc_ BK260.out 0).trans rfl; have hcz11_1:w10.cell? ⟨gb260,1,none⟩ = some (.int .i64 a0_1):=(bc_ BK260.out 1).trans rfl; have hcz11_2:w10.cell? ⟨gb260,2,none⟩ = some (.slice A0_2 l0_2.length c0_2):=(bc_ BK260.out 2).trans rfl; have hcz11_3:w10.cell? ⟨gb260,3,none⟩ = some (.slice A0_3 l0_3.length c0_3):=(bc_ BK260.out 3).trans rfl; have hfz11_0:=bz_ BK260.out 0; have hfz11_1:=bz_ BK260.out 1; have hfz11_2:=bz_ BK260.out 2; have hfz11_3:=bz_ BK260.out 3) | ((with_reducible refine gate_callee (f:=151) rfl ?_); refine goesL_ (some 23) rfl rfl Tryd.func151 (by kernel_rfl) rfl #[.slice A0_3 l0_3.length c0_3,.int .i64 t261] rfl ob_ ?_; (with_reducible refine (spec_l1Has.calls k _ _ l0_3 t261 t263 _ ?side1 ?side2 A7.out).mono ?_); (case side1 => exact kc_ (Kd.C_below HR0_3.out HB.out)); (case side2 => exact HC0_3.out); rintro e w' ⟨rfl,⟨nd,rfl⟩⟩; refine ⟨_,rfl,?_⟩))
  go_ret
  exact ⟨er_,bl1_ HB.out GE260.out⟩
 ·replace c6:=Bool.eq_false_iff.mpr c6
  subst c6
  have H1:((spec_l1Has.f k l0_2 t261).bind fun t264 => (some t264)) = some r:=by rw [if_neg (show ¬ (false = true) by decide)] at H; exact H
  clear H
  have H:=H1
  clear H1
  replace H:=bi_ H
  obtain ⟨t264,A120,H⟩:=H
  replace H:(some t264) = some r:=H
  have A12:=am_ A120
  clear A120
  obtain rfl:=Option.some.inj H
  go_enter Tryd.func122,Tryd.ntmps122
  go_wp2_with (first | ((with_reducible refine gate_dst (N:=4) rfl ?_); refine boxE_ (N:=4) (cs:=#[.int .i64 a0_0,.int .i64 a0_1,.slice A0_2 l0_2.length c0_2,.slice A0_3 l0_3.length c0_3]) (t:=36) ?_; intro gb260 hg w13 hbox hb; have n0_:=am_ (below_step (bl0_ HB.out) hb); have n1_:=am_ (hbox); have n2_:=am_ ((bs0_ hg HB.out:w.heap.size ≤ gb260)); have n3_:=am_ ((bs0_ hg HB.out:w.heap.size ≤ gb260)); clear HB; have HB:=n0_; have BK260:=n1_; have GW260:=n2_; have GE260:=n3_; clear n0_ n1_ n2_ n3_; clear hb hbox hg; have hcz14_0:w13.cell? ⟨gb260,0,none⟩ = some (.int .i64 a0_0):=(bc_ BK260.out 0).trans rfl; have hcz14_1:w13.cell? ⟨gb260,1,none⟩ = some (.int .i64 a0_1):=(bc_ BK260.out 1).trans rfl; have hcz14_2:w13.cell? ⟨gb260,2,none⟩ = some (.slice A0_2 l0_2.length c0_2):=(bc_ BK260.out 2).trans rfl; have hcz14_3:w13.cell? ⟨gb260,3,none⟩ = some (.slice A0_3 l0_3.length c0_3):=(bc_ BK260.out 3).trans rfl; have hfz14_0:=bz_ BK260.out 0; have hfz14_1:=bz_ BK260.out 1; have hfz14_2:=bz_ BK260.out 2; have hfz14_3:=bz_ BK260.out 3) | ((with_reducible refine gate_callee (f:=150) rfl ?_); refine goesL_ (some 16) rfl rfl Tryd.func150 (by kernel_rfl) rfl #[.agg #[.int .i64 a0_0,.int .i64 a0_1,.slice A0_2 l0_2.length c0_2,.slice A0_3 l0_3.length c0_3],.bool false,.int .i64 a2,.int .i64 a3] rfl ob_ ?_; (with_reducible refine (spec_fiEdge.calls a0_0 a0_1 _ _ l0_2 _ _ l0_3 false a2 a3 t261 t262 _ ?side1 ?side2 ?side3 ?side4 A5.out).mono ?_); (case side1 => exact kc_ (Kd.C_below HR0_2.out HB.out)); (case side2 => exact HC0_2.out); (case side3 => exact kc_ (Kd.C_below HR0_3.out HB.out)); (case side4 => exact HC0_3.out); rintro e w15 ⟨rfl,hb⟩; refine ⟨_,rfl,?_⟩; have n0_:=am_ (bb_ BK260.out hb); have n1_:=am_ (below_step (bl1_ HB.out GE260.out) hb); clear BK260; clear HB; have BK260:=n0_; have HB:=n1_; clear n0_ n1_; (try clear hb); (try clear hb2); (try clear hk); (try clear hi); have hcz16_0:w15.cell? ⟨gb260,0,none⟩ = some (.int .i64 a0_0):=(bc_ BK260.out 0).trans rfl; have hcz16_1:w15.cell? ⟨gb260,1,none⟩ = some (.int .i64 a0_1):=(bc_ BK260.out 1).trans rfl; have hcz16_2:w15.cell? ⟨gb260,2,none⟩ = some (.slice A0_2 l0_2.length c0_2):=(bc_ BK260.out 2).trans rfl; have hcz16_3:w15.cell? ⟨gb260,3,none⟩ = some (.slice A0_3 l0_3.length c0_3):=(bc_ BK260.out 3).trans rfl; have hfz16_0:=bz_ BK260.out 0; have hfz16_1:=bz_ BK260.out 1; have hfz16_2:=bz_ BK260.out 2; have hfz16_3:=bz_ BK260.out 3) | ((with_reducible refine gate_callee (f:=151) rfl ?_); refine goesL_ (some 27) rfl rfl Tryd.func151 (by kernel_rfl) rfl #[.slice A0_2 l0_2.length c0_2,.int .i64 t261] rfl ob_ ?_; (with_reducible refine (spec_l1Has.calls k _ _ l0_2 t261 t264 _ ?side1 ?side2 A12.out).mono ?_); (case side1 => exact kc_ (Kd.C_below HR0_2.out HB.out)); (case side2 => exact HC0_2.out); rintro e w' ⟨rfl,⟨nd,rfl⟩⟩; refine ⟨_,rfl,?_⟩))
  go_ret
  exact ⟨er_,bl1_ HB.out GE260.out⟩


structure GridOK (w h:Int):Prop where
  w1:1 ≤ w
  w4:w ≤ 4
  h1:1 ≤ h
  h4:h ≤ 4
theorem gridOK_of {w h:Int} {a u:List Int} (hf:figB w h a u = true):GridOK w h:=by
  unfold figB at hf
  simp only [Bool.and_eq_true] at hf
  obtain ⟨b1,b2,b3,b4⟩:=grid_bounds (by simp only [Bool.and_eq_true]; exact hf.1)
  exact ⟨b1,b2,b3,b4⟩
theorem prod_b {w y:Int} (h1:1 ≤ w) (h4:w ≤ 5) (hy:0 ≤ y) (hy4:y ≤ 4):0 ≤ y * w ∧ y * w ≤ 20:=by
  have:y = 0 ∨ y = 1 ∨ y = 2 ∨ y = 3 ∨ y = 4:=by omega
  rcases this with rfl | rfl | rfl | rfl | rfl <;> omega
theorem level_f {w h x y:Int} (g:GridOK w h) (hx:0 ≤ x) (hx4:x ≤ 4) (hy:0 ≤ y) (hy4:y ≤ 4):impl_grid_level.f w h x y = some ((2 ^ (y * w + x).toNat:Nat):Int):=by
  obtain ⟨p1,p2⟩:=prod_b g.w1 (by have:=g.w4; omega) hy hy4
  have e1:wrap64 (y * w) = y * w:=by unfold wrap64; omega
  have e2:wrap64 (y * w + x) = (((y * w + x).toNat:Nat):Int):=by unfold wrap64; omega
  unfold impl_grid_level.f
  rw [e1,e2,if_pos (Int.natCast_nonneg _),shl_u64 _ (by omega)]
theorem upright_f {w h x y:Int} (g:GridOK w h) (hx:0 ≤ x) (hx4:x ≤ 4) (hy:0 ≤ y) (hy4:y ≤ 4):impl_grid_upright.f w h x y = some ((2 ^ ((w * (h + 1)).toNat + (y * (w + 1) + x).toNat):Nat):Int):=by
  obtain ⟨p1,p2⟩:=prod_b (w:=w + 1) (by have:=g.w1; omega) (by have:=g.w4; omega) hy hy4
  obtain ⟨c1,c2,-,-⟩:=area_bounds g.w1 g.w4 g.h1 g.h4
  have w1:=g.w1
  have w4:=g.w4
  have h1:=g.h1
  have h4:=g.h4
  have e0:wrap64 (h + 1) = h + 1:=by unfold wrap64; omega
  have e1:wrap64 (w + 1) = w + 1:=by unfold wrap64; omega
  have e2:wrap64 (w * (h + 1)) = w * (h + 1):=by unfold wrap64; omega
  have e3:wrap64 (y * (w + 1)) = y * (w + 1):=by unfold wrap64; omega
  have e4:wrap64 (w * (h + 1) + y * (w + 1)) = w * (h + 1) + y * (w + 1):=by unfold wrap64; omega
  have e5:wrap64 (w * (h + 1) + y * (w + 1) + x) = (((w * (h + 1)).toNat + (y * (w + 1) + x).toNat:Nat):Int):=by unfold wrap64; omega
  unfold impl_grid_upright.f impl_grid_levels.f
  rw [Option.bind_some,e0,e1,e2,e3,e4,e5,if_pos (Int.natCast_nonneg _),shl_u64 _ (by omega)]
theorem l1Has_l0 (l:List Int) (n:Int) (hL:l.length ≤ 4000000):∀ (d k i:Nat),l.length - i = d → i ≤ l.length → d < k → spec_l1Has.l0 k n l (l.length:Int) (i:Int) = some (decide (n ∈ l.drop i)):=by
  intro d
  induction d with
  | zero =>
    intro k i h1 h3 h4
    obtain ⟨k,rfl⟩:∃ m,k = m + 1:=⟨k - 1,by omega⟩
    simp only [spec_l1Has.l0]
    rw [if_neg (by omega),List.drop_of_length_le (by omega)]
    rfl
  | succ d ih =>
    intro k i h1 h3 h4
    obtain ⟨k,rfl⟩:∃ m,k = m + 1:=⟨k - 1,by omega⟩
    have e2:wrap64 ((i:Int) + 1) = ((i + 1:Nat):Int):=by unfold wrap64; omega
    simp only [spec_l1Has.l0]
    rw [if_pos (by omega),if_pos (by omega),if_pos (by omega),rd_nat l i (by omega),e2,ih k (i + 1) (by omega) (by omega) (by omega),List.drop_eq_getElem_cons (show i < l.length by omega)]
    by_cases hn:l[i] = n
    · rw [if_pos hn,decide_eq_true (show n ∈ l[i] :: l.drop (i + 1) by rw [hn]; exact List.mem_cons_self)]
    · rw [if_neg hn]
      congr 1
      rw [decide_eq_decide,List.mem_cons]
      constructor
      · exact Or.inr
      · rintro (h | h)
        · exact absurd h.symm hn
        · exact h
theorem l1Has_f (l:List Int) (n:Int) (hL:l.length ≤ 4000000) (k:Nat) (hk:l.length < k):spec_l1Has.f k l n = some (decide (n ∈ l)):=by
  unfold spec_l1Has.f
  exact l1Has_l0 l n hL l.length k 0 (by omega) (by omega) hk
theorem fiHas_level {w h:Int} {a u:List Int} (g:GridOK w h) (hf:figB w h a u = true) (ha:a.length ≤ 1000000) (k:Nat) (hk:1000000 < k) (x y:Int) (hx0:0 ≤ x) (hx1:x < w) (hy0:0 ≤ y) (hy1:y ≤ h) :
    spec_fiHas.f k w h a u false x y = some ((figMask w h a u).testBit (y * w + x).toNat):=by
  have w1:=g.w1
  have w4:=g.w4
  have h1:=g.h1
  have h4:=g.h4
  obtain ⟨p1,p2⟩:=prod_b (w:=w) (y:=y) w1 (by omega) hy0 (by omega)
  have e0:wrap64 (w - 1) = w - 1:=by unfold wrap64; omega
  have e1:wrap64 (y * w) = y * w:=by unfold wrap64; omega
  have e2:wrap64 (y * w + x) = y * w + x:=by unfold wrap64; omega
  have hlt:((y * w + x).toNat:Int) < w * (h + 1):=by
    have c1:y = 0 ∨ y = 1 ∨ y = 2 ∨ y = 3 ∨ y = 4:=by omega
    have c2:h = 1 ∨ h = 2 ∨ h = 3 ∨ h = 4:=by omega
    clear e0 e1 e2 hf
    rcases c2 with rfl | rfl | rfl | rfl <;> rcases c1 with rfl | rfl | rfl | rfl | rfl <;> omega
  have ht:((y * w + x).toNat:Int) = y * w + x:=by omega
  unfold spec_fiHas.f spec_fiEdge.f
  rw [if_neg (by decide),l1In_f,Option.bind_some,e0,decide_eq_true hx0,decide_eq_true (show x ≤ w - 1 by omega),if_pos (show (true && true) = true from rfl),l1In_f,Option.bind_some,decide_eq_true hy0,decide_eq_true hy1,Option.bind_some,if_neg (show ¬ false = true by decide),e1,e2,l1Has_f a _ (by omega) k (by omega),Option.bind_some,figMask_level hf _ hlt,ht]
theorem fiHas_upright {w h:Int} {a u:List Int} (g:GridOK w h) (hf:figB w h a u = true) (hu:u.length ≤ 1000000) (k:Nat) (hk:1000000 < k) (x y:Int) (hx0:0 ≤ x) (hx1:x ≤ w) (hy0:0 ≤ y) (hy1:y < h) :
    spec_fiHas.f k w h a u true x y = some ((figMask w h a u).testBit ((w * (h + 1)).toNat + (y * (w + 1) + x).toNat)):=by
  have w1:=g.w1
  have w4:=g.w4
  have h1:=g.h1
  have h4:=g.h4
  obtain ⟨p1,p2⟩:=prod_b (w:=w + 1) (y:=y) (by omega) (by omega) hy0 (by omega)
  have e0:wrap64 (h - 1) = h - 1:=by unfold wrap64; omega
  have e3:wrap64 (w + 1) = w + 1:=by unfold wrap64; omega
  have e1:wrap64 (y * (w + 1)) = y * (w + 1):=by unfold wrap64; omega
  have e2:wrap64 (y * (w + 1) + x) = y * (w + 1) + x:=by unfold wrap64; omega
  have ht:((y * (w + 1) + x).toNat:Int) = y * (w + 1) + x:=by omega
  unfold spec_fiHas.f spec_fiEdge.f
  rw [if_pos rfl,l1In_f,Option.bind_some,e0,e3,decide_eq_true hx0,decide_eq_true hx1,if_pos (show (true && true) = true from rfl),l1In_f,Option.bind_some,Option.bind_some,if_pos rfl,e1,e2,l1Has_f u _ (by omega) k (by omega),Option.bind_some,figMask_upright hf,ht]
theorem and_two (e m:Nat):2 ^ e &&& m = if m.testBit e = true then 2 ^ e else 0:=by
  apply Nat.eq_of_testBit_eq
  intro i
  rw [Nat.testBit_and,Nat.testBit_two_pow]
  by_cases h:m.testBit e = true
  · rw [if_pos h,Nat.testBit_two_pow]
    by_cases hi:e = i
    · subst hi; simp [h]
    · simp [hi]
  · rw [if_neg h,Nat.zero_testBit]
    by_cases hi:e = i
    · subst hi; simpa using h
    · simp [hi]


def BA (l:List UInt8):ByteArray:=⟨l.toArray⟩
theorem BA_add (l:List UInt8) (c:UInt8):BA l ++ (⟨#[c]⟩:ByteArray) = BA (l ++ [c]):=by
  apply ByteArray.ext
  rw [ByteArray.data_append]
  unfold BA
  apply Array.ext'
  simp
theorem BA_size (l:List UInt8):(BA l).size = l.length:=by simp [BA,ByteArray.size]
theorem join_snoc (xs:List (List UInt8)) (x sep:List UInt8) (h:xs ≠ []):Lib.join (xs ++ [x]) sep = Lib.join xs sep ++ sep ++ x:=by
  cases xs with
  | nil => exact absurd rfl h
  | cons a r =>
    rw [List.cons_append,Lib.join_cons,Lib.join_cons]
    unfold Lib.joinTail
    rw [List.map_append,List.flatten_append]
    simp
def rowL (c:UInt8) (p:Nat → Bool) (n:Nat):List UInt8:=(List.range n).map fun x => if p x = true then c else 46
theorem rowL_succ (c:UInt8) (p:Nat → Bool) (n:Nat):rowL c p (n + 1) = rowL c p n ++ [if p n = true then c else 46]:=by unfold rowL; rw [List.range_succ,List.map_append]; rfl
theorem rowL_len (c:UInt8) (p:Nat → Bool) (n:Nat):(rowL c p n).length = n:=by unfold rowL; rw [List.length_map,List.length_range]
def levP (w m y x:Nat):Bool:=m.testBit (y * w + x)
def uprP (w h m y x:Nat):Bool:=m.testBit (w * (h + 1) + (y * (w + 1) + x))
def textRows (w h m:Nat):Nat → List (List UInt8)
  | 0 => []
  | y + 1 => if y < h then (textRows w h m y ++ [rowL 45 (levP w m y) w]) ++ [rowL 124 (uprP w h m y) (w + 1)] else textRows w h m y ++ [rowL 45 (levP w m y) w]
theorem textRows_len (w h m:Nat):∀ y,y ≤ h → (textRows w h m y).length = 2 * y
  | 0,_ => rfl
  | y + 1,hy => by
    have:=textRows_len w h m y (by omega)
    unfold textRows
    rw [if_pos (by omega),List.length_append,List.length_append,List.length_singleton,List.length_singleton]
    omega
theorem textRows_size (w h m:Nat):∀ y,∀ x ∈ textRows w h m y,x.length ≤ w + 1
  | 0,x,h => by cases h
  | y + 1,x,hx => by
    have ih:=textRows_size w h m y
    have e1:=rowL_len 45 (levP w m y) w
    have e2:=rowL_len 124 (uprP w h m y) (w + 1)
    unfold textRows at hx
    split at hx
    · rcases List.mem_append.1 hx with hx | hx
      · rcases List.mem_append.1 hx with hx | hx
        · exact ih x hx
        · rw [List.mem_singleton.1 hx]; omega
      · rw [List.mem_singleton.1 hx]; omega
    · rcases List.mem_append.1 hx with hx | hx
      · exact ih x hx
      · rw [List.mem_singleton.1 hx]; omega
def figText (w h m:Nat):ByteArray:=BA (Lib.join (textRows w h m (h + 1)) [47])
theorem and_edgeB {M e:Nat} (hM:M < 2 ^ 60) (he:e < 60):(Go.bits .and .u64 (M:Int) ((2 ^ e:Nat):Int) != 0) = M.testBit e:=by
  have h:=and_two e M
  rw [Nat.and_comm] at h
  rw [and_u64 _ _ hM (Nat.pow_lt_pow_right (by decide) he),h]
  have hp:=Nat.two_pow_pos e
  cases M.testBit e with
  | false => rfl
  | true =>
    rw [if_pos rfl,bne_iff_ne]
    omega
theorem small_edge {w h x y:Nat} (hw:w ≤ 4) (hh:h ≤ 4) (hx:x ≤ w) (hy:y ≤ h):y * w + x < 60 ∧ w * (h + 1) + (y * (w + 1) + x) < 60:=by
  have cw:w = 0 ∨ w = 1 ∨ w = 2 ∨ w = 3 ∨ w = 4:=by omega
  rcases cw with rfl | rfl | rfl | rfl | rfl <;> omega
theorem join_len (sep:List UInt8) (m:Nat):∀ (xs:List (List UInt8)),(∀ x ∈ xs,x.length ≤ m) → (Lib.join xs sep).length ≤ xs.length * (m + sep.length):=by
  have tail:∀ (r:List (List UInt8)),(∀ x ∈ r,x.length ≤ m) → (Lib.joinTail sep r).length ≤ r.length * (m + sep.length):=by
    intro r
    induction r with
    | nil => intro _; exact Nat.zero_le _
    | cons x r ih =>
      intro h
      have h1:=h x List.mem_cons_self
      have h2:=ih (fun y hy => h y (List.mem_cons_of_mem _ hy))
      unfold Lib.joinTail at h2 ⊢
      rw [List.map_cons,List.flatten_cons,List.length_append,List.length_append,List.length_cons,Nat.succ_mul]
      omega
  intro xs h
  cases xs with
  | nil => exact Nat.zero_le _
  | cons x r =>
    rw [Lib.join_cons,List.length_append,List.length_cons,Nat.succ_mul]
    have h1:=h x List.mem_cons_self
    have h2:=tail r (fun y hy => h y (List.mem_cons_of_mem _ hy))
    omega


def joinB (xs:List ByteArray) (sep:ByteArray):ByteArray:=⟨(Lib.join (xs.map (·.data.toList)) sep.data.toList).toArray⟩
theorem Join_any (xs:List ByteArray) (sep:ByteArray) (hn:xs.length ≤ 1000) (hl:(Lib.join (xs.map (·.data.toList)) sep.data.toList).length ≤ 140737488355328) (W:World) (base:Nat) (ok:Nat → Prop) (A:Option Addr) (c:Nat) (hR:Kd.R Kd.string 9 W base ok (.slice A xs.length c) xs) :
    Calls Tryd.prog 105 #[.slice A xs.length c,.string sep] W fun e w' => e = .returned (.string (joinB xs sep)) ∧ Below W.heap.size W w':=by
  rcases Nat.eq_zero_or_pos xs.length with h0 | h0
  · have hx:xs = []:=List.eq_nil_of_length_eq_zero h0
    subst hx
    refine (Tryd.strings_Join_none A c sep W).mono ?_
    rintro e w' ⟨rfl,rfl⟩
    exact ⟨rfl,Below.refl _ _⟩
  · obtain ⟨g,c',e,gb,gl,cl,HG⟩:=Kd.R_form hR h0
    injection e with e1 e2 e3
    subst e1
    have hr:=(Kd.R_reads' hR).2.2
    exact Tryd.strings_Join g 0 c xs sep W (fun j x hj => by
      obtain ⟨hjl,hjx⟩:=List.getElem?_eq_some_iff.1 hj
      obtain ⟨ad,ea,hx⟩:=Kd.at_string hr (j:Int) (by omega) (by omega)
      cases ea
      rw [Int.toNat_natCast] at hx
      have hq:rdOf ByteArray.empty xs (j:Int) = x:=by unfold rdOf; rw [Int.toNat_natCast,List.getD_eq_getElem?_getD,hj]; rfl
      rw [hq] at hx
      rw [Nat.zero_add]
      first | exact hx | simpa [add_plain] using hx) gl (by omega) (Kd.R_reads' hR).2.1 hl


theorem figE_level (gw gh x y r:Int) (g3 g7:Nat) (W:World) (h1:W.cell? ⟨g3,0,none⟩ = some (.int .i64 gw)) (h2:W.cell? ⟨g3,1,none⟩ = some (.int .i64 gh)) (h3:W.cell? ⟨g7,0,none⟩ = some (.int .i64 y)) (hr:impl_grid_level.f gw gh x y = some r) :
    Calls Tryd.prog 103 #[.int .i64 x,.pointer (some ⟨g3,0,none⟩),.pointer (some ⟨g7,0,none⟩)] W fun e w' => e = .returned (.int .u64 r) ∧ Below W.heap.size W w':=by
  have HR:=am_ hr
  clear hr
  go_enter Tryd.func103,Tryd.ntmps103
  go_wp2_with (go_at_call 54; refine (impl_grid_level.calls _ _ _ _ _ _ HR.out).mono ?_; rintro e w1 ⟨rfl,hb1⟩)
  go_ret
  exact ⟨rfl,hb1⟩
theorem figE_upright (gw gh x y r:Int) (g3 g7:Nat) (W:World) (h1:W.cell? ⟨g3,0,none⟩ = some (.int .i64 gw)) (h2:W.cell? ⟨g3,1,none⟩ = some (.int .i64 gh)) (h3:W.cell? ⟨g7,0,none⟩ = some (.int .i64 y)) (hr:impl_grid_upright.f gw gh x y = some r) :
    Calls Tryd.prog 104 #[.int .i64 x,.pointer (some ⟨g3,0,none⟩),.pointer (some ⟨g7,0,none⟩)] W fun e w' => e = .returned (.int .u64 r) ∧ Below W.heap.size W w':=by
  have HR:=am_ hr
  clear hr
  go_enter Tryd.func104,Tryd.ntmps104
  go_wp2_with (go_at_call 55; refine (impl_grid_upright.calls _ _ _ _ _ _ HR.out).mono ?_; rintro e w1 ⟨rfl,hb1⟩)
  go_ret
  exact ⟨rfl,hb1⟩
def FInv (Bo base:Nat) (acc:List ByteArray) (O:Nat → Prop) (W:World):Prop :=
  ∃ v,W.cell? ⟨Bo,0,none⟩ = some v ∧ W.frozen? ⟨Bo,0,none⟩ = false ∧ Kd.R Kd.string 9 W base (fun k => k ≠ Bo) v acc ∧ ∀ k,O k ↔ k = Bo ∨ some k = v.ownBlock
theorem lit1F (W:World) (s:ByteArray):Kd.C Kd.string (W.alloc (.cells #[.string s] 9)) (some ⟨W.heap.size,0,none⟩) 1 [s]:=by
  refine Kd.C_of_reads (enc:=Value.string) (d:=ByteArray.empty) (h1:=fun _ => rfl) ⟨rfl,by omega,fun _ => ⟨_,rfl,fun j hj => ?_⟩⟩
  obtain rfl:j = 0:=by omega
  exact World.cell?_alloc_at _ _ _ _ rfl
def rowF (sign:Int) (bt:Nat → Bool) (n:Nat):List Int:=(List.range n).map fun x => if bt x = true then sign else 46
theorem rowF_len (sign:Int) (bt:Nat → Bool) (n:Nat):(rowF sign bt n).length = n:=by unfold rowF; rw [List.length_map,List.length_range]
theorem rowF_yes (sign:Int) (bt:Nat → Bool) (n:Nat) (h:bt n = true):rowF sign bt n ++ [sign] = rowF sign bt (n + 1):=by unfold rowF; rw [List.range_succ,List.map_append,List.map_cons,List.map_nil,if_pos h]
theorem rowF_no (sign:Int) (bt:Nat → Bool) (n:Nat) (h:bt n = false):rowF sign bt n ++ [46] = rowF sign bt (n + 1):=by unfold rowF; rw [List.range_succ,List.map_append,List.map_cons,List.map_nil,if_neg (by rw [h]; decide)]
set_option maxRecDepth 100000 in
set_option maxHeartbeats 8000000 in
theorem figRow_any (Bo Bs base:Nat) (hbo:base ≤ Bo) (S sign:Int) (n:Nat) (hn:n ≤ 5) (bt:Nat → Bool) (ge:Nat) (cap:Array Value) (E:Nat → Int) (hE:∀ x,x < n → (Go.bits .and .u64 S (E x) != 0) = bt x)
    (eg:∀ args w,(callFunc ge args).run Tryd.prog w = .ok (.enter ge args) w) (acc:List ByteArray) (O:Nat → Prop) (w:World) (hlen:acc.length < 1000) (hI:FInv Bo base acc O w) (hS:w.cell? ⟨Bs,0,none⟩ = some (.int .u64 S))
    (hC:∀ W,Below w.heap.size w W → ∀ x:Nat,x < n → Calls Tryd.prog ge (#[.int .i64 (x:Int)] ++ cap) W fun e w' => e = .returned (.int .u64 (E x)) ∧ Below W.heap.size W w') :
    Calls Tryd.prog 102 #[.int .i64 (n:Int),.int .u8 sign,.func (.func ge) #[] cap,.pointer (some ⟨Bs,0,none⟩),.pointer (some ⟨Bo,0,none⟩)] w fun e w' => e = .returned (.tuple #[]) ∧ ∃ O',FInv Bo base (acc ++ [strOfNums (rowF sign bt n)]) O' w' ∧ FrameBut O w w' ∧ ∀ k,O' k → O k ∨ w.heap.size ≤ k:=by
  obtain ⟨v,c1,f1,hR,hO⟩:=hI
  have b1:Bo < w.heap.size:=wl_ w _ c1
  have hnv:some Bo ≠ v.ownBlock:=fun h => hR.1 Bo h.symm rfl
  have HR:=am_ hR
  have HO:=am_ hO
  have HL:=am_ hlen
  have HE:=am_ hE
  have HC:=am_ hC
  have HS:=am_ hS
  have HN:=am_ hn
  have HK1:=am_ c1
  have HK2:=am_ f1
  have HNV:=am_ hnv
  have HLT:=am_ b1
  have HBB:=am_ hbo
  have hi5:(Tryd.prog.info? 5).map (fun i => (i.zero,i.size,i.bytes)) = some (some (.int .u8 0),1,1):=by kernel_rfl
  have hi9:(Tryd.prog.info? 9).map (fun i => (i.zero,i.size,i.bytes)) = some (some (.string ByteArray.empty),1,16):=by kernel_rfl
  have R0:Aside0 (Kd.R (Kd.int .u8) 5 (w.alloc (.cells #[] 5)) w.heap.size (fun _ => True) (.slice (some ⟨w.heap.size,0,none⟩) 0 0) (rowF sign bt 0)):=⟨Kd.R_mono (R_lit0 (Kd.int .u8) 5 w w.heap.size (Nat.le_refl _)) (fun _ _ => trivial)⟩
  have B0:=am_ (below_alloc (Below.refl w.heap.size w) (.cells #[] 5))
  clear hR hO hlen hE hC hS hn c1 f1 b1 hnv hbo
  go_enter Tryd.func102,Tryd.ntmps102
  go_wp2_with fail
  go_loopg [8,12] n (fun gg u8 u12 wr => ∃ i:Nat,i ≤ n ∧ n - i ≤ gg ∧ u12 = .int .i64 i ∧ Aside0 (Kd.R (Kd.int .u8) 5 wr w.heap.size (fun _ => True) u8 (rowF sign bt i)) ∧ Aside0 (Below w.heap.size w wr))
  case atStart => exact ⟨0,Nat.zero_le _,by omega,rfl,R0,B0⟩
  case round =>
    clear R0 B0
    obtain ⟨i,hi,hgg,rfl,HU,HB⟩:=hrel
    by_cases hlt:i < n
    · have hltz:(i:Int) < (n:Int):=by omega
      have HCX:=am_ (fun W hW => HC.out W hW i hlt)
      have hEx:=HE.out i hlt
      have hB2:(Go.bits .and .u64 S (E i) == 0) = !bt i:=by rw [← hEx]; unfold bne; rw [Bool.not_not]
      have HLU:Aside0 ((rowF sign bt i).length < 10):=⟨by rw [rowF_len]; have:=HN.out; omega⟩
      have HY:=am_ (rowF_yes sign bt i)
      have HZ:=am_ (rowF_no sign bt i)
      have hsc:wr.cell? ⟨Bs,0,none⟩ = some (.int .u64 S):=pw_cell_below HB.out HS.out
      generalize E i = Ei at HCX hEx hB2
      go_wp2_with fail
      have tok0:True:=trivial
      go_region_held3 (fun w' => w'.cell? ⟨Bs,0,none⟩ = some (.int .u64 S))
        (first | (exact hsc) | (exact pw_cell_below hbA (by assumption)))
        ((go_at_fn ge; have _t:=tok0; refine (HCX.out _ ?xB).mono ?_; (case xB => first | exact HB.out | exact below_drew1 HB.out); rintro e wA ⟨rfl,hbA⟩; clear _t tok0))
      have HBA:Aside0 (Below w.heap.size w wA):=⟨below_step (below_drew1 HB.out) hbA⟩
      have HUA:Aside0 (Kd.R (Kd.int .u8) 5 wA w.heap.size (fun _ => True) u8 (rowF sign bt i)):=⟨Kd.R_below (Kd.R_drew HU.out) hbA⟩
      clear hbA hsc HB HU HCX hEx hB2
      cases hbt:bt i with
      | true =>
        have HY2:=am_ (HY.out hbt)
        clear hbt HY HZ
        go_wp2_with ((at_builtin; refine Kd.R_append_row (w0:=w) (h1:=fun _ => rfl) (Value.int .u8) (0:Int) w.heap.size rfl _ _ _ _ _ 1 rfl Tryd.underlying127 hi5 rfl (by decide) u8 (rowF sign bt i) [sign] _ 1 _ (fun _ => True) rfl rfl (fun _ _ => trivial) ?xA ?xB ?xC ?xD ?xE ?_; (case xA => exact Kd.R_alloc HUA.out _); (case xB => exact lit1_C (Value.int .u8) (fun _ => rfl) 5 wA _); (case xC => exact below_alloc HBA.out _); (case xD => have h_:=HBA.out.size; (try simp); omega); (case xE => have h_:=HLU.out; (try simp only [List.length_append,List.length_cons,List.length_nil]); omega); intro v1 w1 ho hb hg hat; rw [HY2.out] at ho; have HO1:=am_ ho; have HB1:=am_ hb; clear ho hb hg hat))
        go_roundg (n - (i + 1))
        case measure => omega
        case rel => exact ⟨i + 1,by omega,by omega,by have hn5:=HN.out; exact congrArg _ (show wrap64 ((i:Int) + 1) = ((i + 1:Nat):Int) by unfold wrap64; omega),HO1,HB1⟩
      | false =>
        have HY2:=am_ (HZ.out hbt)
        clear hbt HY HZ
        go_wp2_with ((at_builtin; refine Kd.R_append_row (w0:=w) (h1:=fun _ => rfl) (Value.int .u8) (0:Int) w.heap.size rfl _ _ _ _ _ 1 rfl Tryd.underlying127 hi5 rfl (by decide) u8 (rowF sign bt i) [46] _ 1 _ (fun _ => True) rfl rfl (fun _ _ => trivial) ?xA ?xB ?xC ?xD ?xE ?_; (case xA => exact Kd.R_alloc HUA.out _); (case xB => exact lit1_C (Value.int .u8) (fun _ => rfl) 5 wA _); (case xC => exact below_alloc HBA.out _); (case xD => have h_:=HBA.out.size; (try simp); omega); (case xE => have h_:=HLU.out; (try simp only [List.length_append,List.length_cons,List.length_nil]); omega); intro v1 w1 ho hb hg hat; rw [HY2.out] at ho; have HO1:=am_ ho; have HB1:=am_ hb; clear ho hb hg hat))
        go_roundg (n - (i + 1))
        case measure => omega
        case rel => exact ⟨i + 1,by omega,by omega,by have hn5:=HN.out; exact congrArg _ (show wrap64 ((i:Int) + 1) = ((i + 1:Nat):Int) by unfold wrap64; omega),HO1,HB1⟩
    · have hltz:¬ (i:Int) < (n:Int):=by omega
      obtain rfl:i = n:=by omega
      obtain ⟨A8,c8,rfl⟩:=Kd.R_slice HU.out
      have hcv:(convert 127 9 (.slice A8 (rowF sign bt i).length c8)).run Tryd.prog wr = .ok (.string (strOfNums (rowF sign bt i))) wr:=own_string Tryd.underlying127 Tryd.underlying5 Tryd.underlying9 (Kd.own_of_R HU.out)
      generalize hstr:strOfNums (rowF sign bt i) = str at hcv
      have hco:wr.cell? ⟨Bo,0,none⟩ = some v:=pw_cell_below HB.out HK1.out
      have hfo:wr.frozen? ⟨Bo,0,none⟩ = false:=(World.frozen?_of_block (w:=w) (a:=⟨Bo,0,none⟩) (HB.out.block Bo HLT.out)).trans HK2.out
      have HRw:=am_ (Kd.R_below HR.out (HB.out))
      have HBB2:Aside0 (base ≤ w.heap.size):=⟨by have:=HBB.out; have:=HLT.out; omega⟩
      have HBo:Aside0 (Bo < wr.heap.size):=⟨by have:=HB.out.size; have:=HLT.out; omega⟩
      have HLN:Aside0 ((acc ++ [str]).length = acc.length + 1):=⟨by simp⟩
      have HBA:Aside0 (∀ o,Bo < (wr.alloc o).heap.size):=⟨fun o => by simp; have:=HBo.out; omega⟩
      clear HU
      go_wp2_with ((at_builtin; refine Kd.R_append_row (w0:=w) (h1:=fun _ => rfl) Value.string ByteArray.empty base rfl _ _ _ _ _ 16 rfl Tryd.underlying72 hi9 rfl (by decide) v acc [str] _ 1 _ (fun k => k ≠ Bo) rfl rfl ?xF ?xA ?xB ?xC ?xD ?xE ?_; (case xF => exact fun k hk => by have h_:=HBo.out; simp at hk; omega); (case xA => exact Kd.R_alloc HRw.out _); (case xB => exact lit1F wr str); (case xC => exact (below_alloc HB.out _).mono HBB2.out); (case xD => have h_:=HB.out.size; simp; have:=HBB2.out; omega); (case xE => have h_:=HL.out; (try simp); omega); intro v1 w1 ho hb hg hat; obtain ⟨A1,d1,rfl⟩:=Kd.R_slice ho; have cx:w1.cell? ⟨Bo,0,none⟩ = some v:=YtehjfaddhmdicaaDoorW.PrintWords.cell_grown hg ((World.cell?_alloc_lt _ _ _ HBo.out).trans hco) HNV.out; have fx:w1.frozen? ⟨Bo,0,none⟩ = false:=(World.frozen?_of_block (a:=⟨Bo,0,none⟩) (hg.block Bo (HBA.out _) HNV.out)).trans ((World.frozen?_of_block (w:=wr) (a:=⟨Bo,0,none⟩) (Below.heap_alloc _ _ _ HBo.out)).trans hfo); have HO1:=am_ ho; have HB1:=am_ hb; have HG1:=am_ hg; have HA1:=am_ hat; clear ho hb hg hat))
      refine bodyPost_end (v:=.tuple #[]) (by simp [results,Tryd.results102,go_sem]) rfl ⟨rfl,fun k => k = Bo ∨ some k = (Value.slice A1 (acc ++ [str]).length d1).ownBlock,⟨_,?_,?_,?_,fun k => Iff.rfl⟩,?_,fun k hk => ?_⟩
      · rw [HLN.out]; apply World.cell?_setCell_same; exact cx
      · rw [World.frozen?_setCell]; exact fx
      · first | exact Kd.R_far (p:=⟨Bo,0,none⟩) HO1.out (fun k hk => hk) _ | (rw [hstr]; exact Kd.R_far (p:=⟨Bo,0,none⟩) HO1.out (fun k hk => hk) _)
      · exact ((((FrameBut.of_below HB.out).alloc _).grown HG1.out (fun k hk => .inl ((HO.out k).2 (.inr hk.symm)))).setCell (.inl ((HO.out Bo).2 (.inl rfl))) _)
      · rcases hk with hk | hk
        · exact .inl ((HO.out k).2 (.inl hk))
        · rcases HA1.out with h | ⟨b,h,hb⟩
          · exact .inl ((HO.out k).2 (.inr (hk.trans h)))
          · rw [h] at hk
            cases hk
            have h_:=HB.out.size
            exact .inr (by simp at hb; omega)
def figT_T1:Bool × List (List Nat × List Nat):=(true,[([],[]),([0],[0]),([],[]),([2,1],[2]),([],[]),([],[]),([],[]),([],[]),([5,1,3,0,1,5,6,7],[1,5]),([6,3,8,0,1,2,3,5,6,7,8],[3,6]),([7,4,9,0,1,2,3,4,5,6,7,8,9],[4,7])])
def figT_B1:List Nat:=[0,1,0,7,0,0,0,0,239,495,1023]
theorem figT_tab1:rtab .any (opsOf Tryd.f57 1) = figT_T1:=by kernel_rfl
theorem figT_bits1:waitsOk figT_T1.2 figT_B1 = true:=by kernel_rfl
theorem FInv.move {Bo base:Nat} {acc:List ByteArray} {O:Nat → Prop} {W W':World} (hI:FInv Bo base acc O W) (hk:∀ k,O k → W'.heap[k]? = W.heap[k]?):FInv Bo base acc O W':=by
  obtain ⟨v,c1,f1,hR,hO⟩:=hI
  have hm:=hk Bo ((hO Bo).2 (.inl rfl))
  exact ⟨v,(World.cell?_of_block (w:=W) (a:=⟨Bo,0,none⟩) hm).trans c1,(World.frozen?_of_block (w:=W) (a:=⟨Bo,0,none⟩) hm).trans f1,Kd.R_mono (Kd.R_move (Kd.R_tight rfl hR) (fun k h => hk k ((hO k).2 (.inr h)))) (fun k h => hR.1 k h.symm),hO⟩
theorem FInv.lt {Bo base:Nat} {acc:List ByteArray} {O:Nat → Prop} {W:World} (hI:FInv Bo base acc O W):∀ k,O k → k < W.heap.size:=by
  intro k hk
  obtain ⟨v,c1,f1,hR,hO⟩:=hI
  rcases (hO k).1 hk with rfl | h
  · exact wl_ W _ c1
  · exact Kd.R_lt hR k h.symm
theorem FInv.ge {Bo base:Nat} {acc:List ByteArray} {O:Nat → Prop} {W:World} (hI:FInv Bo base acc O W) (hb:base ≤ Bo):∀ k,O k → base ≤ k:=by
  intro k hk
  obtain ⟨v,c1,f1,hR,hO⟩:=hI
  rcases (hO k).1 hk with rfl | h
  · exact hb
  · exact Kd.R_base hR k h.symm
def levB (gw gh:Nat) (S:Int) (y x:Nat):Bool:=Go.bits .and .u64 S ((impl_grid_level.f (gw:Int) (gh:Int) (x:Int) (y:Int)).getD 0) != 0
def uprB (gw gh:Nat) (S:Int) (y x:Nat):Bool:=Go.bits .and .u64 S ((impl_grid_upright.f (gw:Int) (gh:Int) (x:Int) (y:Int)).getD 0) != 0
def levR (gw gh:Nat) (S:Int) (y:Nat):ByteArray:=strOfNums (rowF 45 (levB gw gh S y) gw)
def uprR (gw gh:Nat) (S:Int) (y:Nat):ByteArray:=strOfNums (rowF 124 (uprB gw gh S y) (gw + 1))
def figRows (gw gh:Nat) (S:Int):Nat → List ByteArray
  | 0 => []
  | y + 1 => if y < gh then (figRows gw gh S y ++ [levR gw gh S y]) ++ [uprR gw gh S y] else figRows gw gh S y ++ [levR gw gh S y]
theorem figRows_len (gw gh:Nat) (S:Int):∀ y,(figRows gw gh S y).length ≤ 2 * y
  | 0 => Nat.le_refl _
  | y + 1 => by
    have:=figRows_len gw gh S y
    unfold figRows
    split
    · simp only [List.length_append,List.length_singleton]; omega
    · simp only [List.length_append,List.length_singleton]; omega
def FSt (w:World) (g5:Nat) (K:Nat → Nat → Value → Prop) (acc:List ByteArray) (W:World):Prop:=(∃ O,FInv g5 w.heap.size acc O W ∧ ∀ b i v,K b i v → W.cell? ⟨b,i,none⟩ = some v ∧ ¬ O b) ∧ Below w.heap.size w W
theorem FSt.cell {w:World} {g5:Nat} {K:Nat → Nat → Value → Prop} {acc:List ByteArray} {W:World} (h:FSt w g5 K acc W) {b i:Nat} {v:Value} (hk:K b i v):W.cell? ⟨b,i,none⟩ = some v:=by
  obtain ⟨⟨O,-,hK⟩,-⟩:=h
  exact (hK b i v hk).1
theorem FSt.weak {w:World} {g5:Nat} {K K':Nat → Nat → Value → Prop} {acc:List ByteArray} {W:World} (h:FSt w g5 K acc W) (hk:∀ b i v,K' b i v → K b i v):FSt w g5 K' acc W:=by
  obtain ⟨⟨O,hI,hK⟩,hB⟩:=h
  exact ⟨⟨O,hI,fun b i v q => hK b i v (hk b i v q)⟩,hB⟩
theorem FSt.grow {w:World} {g5:Nat} {K:Nat → Nat → Value → Prop} {acc:List ByteArray} {W:World} (h:FSt w g5 K acc W) (t:TypeId) (u:Value):FSt w g5 (fun b i v => K b i v ∨ (b = W.heap.size ∧ i = 0 ∧ v = u)) acc (W.alloc (.cells #[u] t (0,0))):=by
  obtain ⟨⟨O,hI,hK⟩,hB⟩:=h
  have F:FrameBut (fun _ => False) W (W.alloc (.cells #[u] t (0,0))):=(FrameBut.refl _ W).alloc _
  refine ⟨⟨O,hI.move (fun k hk => F.block k (hI.lt k hk) id),fun b i v q => ?_⟩,hB.trans (F.toBelow hB.size (fun _ _ => id))⟩
  rcases q with q | ⟨rfl,rfl,rfl⟩
  · exact ⟨F.cell (hK b i v q).1 id,(hK b i v q).2⟩
  · exact ⟨(bc_ (blk_new W _) 0).trans rfl,fun q => absurd (hI.lt _ q) (Nat.lt_irrefl _)⟩
theorem FSt.row {w:World} {g5:Nat} {K:Nat → Nat → Value → Prop} {acc:List ByteArray} {W:World} (h:FSt w g5 K acc W) (hg5:w.heap.size ≤ g5) (Bs:Nat) (S sign:Int) (hS:K Bs 0 (.int .u64 S)) (n:Nat) (hn:n ≤ 5) (bt:Nat → Bool) (ge:Nat) (cap:Array Value) (E:Nat → Int) (hE:∀ x,x < n → (Go.bits .and .u64 S (E x) != 0) = bt x)
    (eg:∀ args w,(callFunc ge args).run Tryd.prog w = .ok (.enter ge args) w) (hlen:acc.length < 1000)
    (hC:∀ W',(∀ b i v,K b i v → W'.cell? ⟨b,i,none⟩ = some v) → ∀ x:Nat,x < n → Calls Tryd.prog ge (#[.int .i64 (x:Int)] ++ cap) W' fun e w' => e = .returned (.int .u64 (E x)) ∧ Below W'.heap.size W' w') :
    Calls Tryd.prog 102 #[.int .i64 (n:Int),.int .u8 sign,.func (.func ge) #[] cap,.pointer (some ⟨Bs,0,none⟩),.pointer (some ⟨g5,0,none⟩)] W fun e w' => e = .returned (.tuple #[]) ∧ FSt w g5 K (acc ++ [strOfNums (rowF sign bt n)]) w':=by
  obtain ⟨⟨O,hI,hK⟩,hB⟩:=h
  refine (figRow_any g5 Bs w.heap.size hg5 S sign n hn bt ge cap E hE eg acc O W hlen hI (hK _ _ _ hS).1 (fun W' hW => hC W' (fun b i v q => pw_cell_below hW (hK b i v q).1))).mono ?_
  rintro e w' ⟨rfl,O',hI',hF,hO'⟩
  refine ⟨rfl,⟨O',hI',fun b i v q => ⟨hF.cell (hK b i v q).1 (hK b i v q).2,fun q2 => ?_⟩⟩,hB.trans (hF.toBelow hB.size (fun k hk q => ?_))⟩
  · rcases hO' _ q2 with q3 | q3
    · exact (hK b i v q).2 q3
    · exact absurd (wl_ W _ (hK b i v q).1) (Nat.not_lt.2 q3)
  · have:=hI.ge hg5 k q
    omega
def K34 (g3 g4:Nat) (gw gh:Nat) (S:Int) (b i:Nat) (v:Value):Prop:=(b = g3 ∧ i = 0 ∧ v = .int .i64 (gw:Int)) ∨ (b = g3 ∧ i = 1 ∧ v = .int .i64 (gh:Int)) ∨ (b = g4 ∧ i = 0 ∧ v = .int .u64 S)
set_option maxRecDepth 100000 in
set_option maxHeartbeats 16000000 in
theorem figText_main (gw gh:Nat) (hgw:gw ≤ 4) (hgh:gh ≤ 4) (A2 A3:Option Addr) (c2 c3:Nat) (l2 l3:List Int) (S:Int) (w:World)
    (hGR:∀ W',Below w.heap.size w W' → Calls Tryd.prog 71 #[.agg #[.int .i64 gw,.int .i64 gh,.slice A2 l2.length c2,.slice A3 l3.length c3]] W' fun e w' => e = .returned (.agg #[.int .i64 gw,.int .i64 gh]) ∧ Below W'.heap.size W' w')
    (hSE:∀ W',Below w.heap.size w W' → Calls Tryd.prog 72 #[.agg #[.int .i64 gw,.int .i64 gh,.slice A2 l2.length c2,.slice A3 l3.length c3]] W' fun e w' => e = .returned (.int .u64 S) ∧ Below W'.heap.size W' w')
    (hLV:∀ x y:Nat,x < gw → y ≤ gh → impl_grid_level.f (gw:Int) (gh:Int) (x:Int) (y:Int) = some ((impl_grid_level.f (gw:Int) (gh:Int) (x:Int) (y:Int)).getD 0))
    (hUV:∀ x y:Nat,x ≤ gw → y < gh → impl_grid_upright.f (gw:Int) (gh:Int) (x:Int) (y:Int) = some ((impl_grid_upright.f (gw:Int) (gh:Int) (x:Int) (y:Int)).getD 0))
    (J:List ByteArray → ByteArray) (hJ:∀ (W:World) (base:Nat) (ok:Nat → Prop) (A:Option Addr) (c:Nat),Kd.R Kd.string 9 W base ok (.slice A (figRows gw gh S (gh + 1)).length c) (figRows gw gh S (gh + 1)) → Calls Tryd.prog 105 #[.slice A (figRows gw gh S (gh + 1)).length c,.string ⟨#[47]⟩] W fun e w' => e = .returned (.string (J (figRows gw gh S (gh + 1)))) ∧ Below W.heap.size W w') :
    Calls Tryd.prog 57 #[.agg #[.int .i64 gw,.int .i64 gh,.slice A2 l2.length c2,.slice A3 l3.length c3]] w fun e w' => e = .returned (.string (J (figRows gw gh S (gh + 1)))) ∧ Below w.heap.size w w':=by
  have HLV:=am_ hLV
  have HUV:=am_ hUV
  have HJ:=am_ hJ
  clear hLV hUV hJ
  have HGR0:=am_ hGR
  have HSE0:=am_ hSE
  have eg1:∀ args w,(callFunc 102 args).run Tryd.prog w = .ok (.enter 102 args) w:=Go.Proofs.enters_of Tryd.func102 (by kernel_rfl) rfl
  have eg2:∀ args w,(callFunc 103 args).run Tryd.prog w = .ok (.enter 103 args) w:=Go.Proofs.enters_of Tryd.func103 (by kernel_rfl) rfl
  have eg3:∀ args w,(callFunc 104 args).run Tryd.prog w = .ok (.enter 104 args) w:=Go.Proofs.enters_of Tryd.func104 (by kernel_rfl) rfl
  have hmf:∀ (fn:Fn) (first cap:Array Value) (w:World),(Instr.makeFunc fn first cap).run Tryd.prog w = .ok (.func fn first cap) w:=fun _ _ _ _ => rfl
  clear hGR hSE
  go_enter Tryd.func57,Tryd.ntmps57
  go_wp2_with fail
  have HX0:Aside0 ((w.alloc (.cells #[.int .i64 gw,.int .i64 gh,.slice A2 l2.length c2,.slice A3 l3.length c3] 36 (0,0))).cell? ⟨w.heap.size,0,none⟩ = some (.int .i64 gw) ∧ (w.alloc (.cells #[.int .i64 gw,.int .i64 gh,.slice A2 l2.length c2,.slice A3 l3.length c3] 36 (0,0))).cell? ⟨w.heap.size,1,none⟩ = some (.int .i64 gh) ∧ (w.alloc (.cells #[.int .i64 gw,.int .i64 gh,.slice A2 l2.length c2,.slice A3 l3.length c3] 36 (0,0))).cell? ⟨w.heap.size,2,none⟩ = some (.slice A2 l2.length c2) ∧ (w.alloc (.cells #[.int .i64 gw,.int .i64 gh,.slice A2 l2.length c2,.slice A3 l3.length c3] 36 (0,0))).cell? ⟨w.heap.size,3,none⟩ = some (.slice A3 l3.length c3)):=⟨⟨by go_simp,by go_simp,by go_simp,by go_simp⟩⟩
  have HB0:=am_ (below_alloc (Below.refl w.heap.size w) (.cells #[.int .i64 gw,.int .i64 gh,.slice A2 l2.length c2,.slice A3 l3.length c3] 36 (0,0)))
  generalize w.alloc (.cells #[.int .i64 gw,.int .i64 gh,.slice A2 l2.length c2,.slice A3 l3.length c3] 36 (0,0)) = W4 at HX0 HB0 ⊢
  have HGR:Aside0 (∀ W',Below W4.drew.heap.size W4.drew W' → _):=⟨fun W' h => HGR0.out W' (below_step (below_drew1 HB0.out) h)⟩
  have HSE:Aside0 (∀ W',Below W4.drew.heap.size W4.drew W' → _):=⟨fun W' h => HSE0.out W' (below_step (below_drew1 HB0.out) h)⟩
  have HX:Aside0 (W4.drew.cell? ⟨w.heap.size,0,none⟩ = some (.int .i64 gw) ∧ W4.drew.cell? ⟨w.heap.size,1,none⟩ = some (.int .i64 gh) ∧ W4.drew.cell? ⟨w.heap.size,2,none⟩ = some (.slice A2 l2.length c2) ∧ W4.drew.cell? ⟨w.heap.size,3,none⟩ = some (.slice A3 l3.length c3)):=⟨HX0.out⟩
  have HB5:=am_ (below_drew1 HB0.out)
  have HB:=am_ (Below.refl W4.drew.heap.size W4.drew)
  clear HX0 HGR0 HSE0 HB0
  refine start_ (n:=11) (S:=fun w' => True) (ds:=[]) #[false,false,false,false,false,false,false,false,false,false,false] (by kernel_rfl) rfl rfl trivial (fun hHeld => ?_)
  generalize W4.drew = W5 at HGR HSE HX HB5 HB hHeld ⊢
  refine with_tabW figT_tab1 figT_bits1 (fun HT_ HW_ => ?_)
  refine inv_at [0,1,2,3,4,5,6,7,8,9,10] (fun a0_ b a w' => ∃ (g3:Nat) (g4:Nat) (g5:Nat) (g12:Nat) (m4_:Value) (m5_:Value) (m6_:Value) (m7_:Value),a = putSel a0_ b [(0,8,.agg #[.int .i64 gw,.int .i64 gh,.slice A2 l2.length c2,.slice A3 l3.length c3]),(1,9,.agg #[.int .i64 gw,.int .i64 gh]),(2,10,.agg #[.int .i64 gw,.int .i64 gh,.slice A2 l2.length c2,.slice A3 l3.length c3]),(3,11,.int .u64 S),(4,12,m4_),(5,3,m5_),(6,4,m6_),(7,5,m7_)] ∧ (Below W5.heap.size W5 w') ∧ (b 5 = true → b 8 = false → w'.heap[g3]? = some (.cells #[.int .i64 0,.int .i64 0] 75 (0,0))) ∧ (b 8 = true → w'.heap[g3]? = some (.cells #[.int .i64 gw,.int .i64 gh] 75 (0,0))) ∧ (b 5 = true → W5.heap.size ≤ g3) ∧ (b 6 = true → b 9 = false → w'.heap[g4]? = some (.cells #[.int .u64 0] 56 (0,0))) ∧ (b 9 = true → w'.heap[g4]? = some (.cells #[.int .u64 S] 56 (0,0))) ∧ (b 6 = true → W5.heap.size ≤ g4) ∧ (b 7 = true → b 10 = false → w'.heap[g5]? = some (.cells #[.slice none 0 0] 72 (0,0))) ∧ (b 10 = true → w'.heap[g5]? = some (.cells #[.slice (some ⟨g12,0,none⟩) 0 0] 72 (0,0))) ∧ (b 7 = true → W5.heap.size ≤ g5) ∧ (b 4 = true → (w'.heap[g12]? = some (.cells #[] 9 (0,0))) ∧ W5.heap.size ≤ g12 ∧ Kd.R Kd.string 9 w' W5.heap.size (fun k_ => k_ = g12) (.slice (some ⟨g12,0,none⟩) 0 0) []) ∧ (b 4 = true → (m4_:Value) = .slice (some ⟨g12,0,none⟩) 0 0) ∧ (b 5 = true → (m5_:Value) = .pointer (some ⟨g3,0,none⟩)) ∧ (b 6 = true → (m6_:Value) = .pointer (some ⟨g4,0,none⟩)) ∧ (b 7 = true → (m7_:Value) = .pointer (some ⟨g5,0,none⟩))) HT_.out HW_.out (by kernel_rfl) (by kernel_rfl) ?_ ?_ ?_
  · exact ⟨0,0,0,0,.bool false,.bool false,.bool false,.bool false,by simp only [putSel,Bool.false_eq_true,if_false],HB.out,fun h_ => absurd h_ (by decide),fun h_ => absurd h_ (by decide),fun h_ => absurd h_ (by decide),fun h_ => absurd h_ (by decide),fun h_ => absurd h_ (by decide),fun h_ => absurd h_ (by decide),fun h_ => absurd h_ (by decide),fun h_ => absurd h_ (by decide),fun h_ => absurd h_ (by decide),fun h_ => absurd h_ (by decide),fun h_ => absurd h_ (by decide),fun h_ => absurd h_ (by decide),fun h_ => absurd h_ (by decide),fun h_ => absurd h_ (by decide)⟩
  · skip
    clear HB
    refine steps_cons ?_ ?_
    · rintro b a w' ⟨g3,g4,g5,g12,m4_,m5_,m6_,m7_,ha,Q_HB,Q_H3,Q_H3b,Q_G3,Q_H4,Q_H4b,Q_G4,Q_H5,Q_H5b,Q_G5,Q_HR,Q_X4_,Q_X5_,Q_X6_,Q_X7_⟩ hb_ hon hoff
      refine ⟨_,rfl,fun K hK => ?_⟩
      have e1:a.tmps[1]? = some (.pointer (some ⟨w.heap.size,0,none⟩)):=by rw [ha]; exact (putSel_off rfl).trans rfl
      replace ha:=am_ ha
      have HB:=am_ Q_HB
      have hs0_:=(pw_cell_below HB.out HX.out.1)
      have hs1_:=(pw_cell_below HB.out HX.out.2.1)
      have hs2_:=(pw_cell_below HB.out HX.out.2.2.1)
      have hs3_:=(pw_cell_below HB.out HX.out.2.2.2)
      refine value_ (w1:=w') (v:=.agg #[.int .i64 gw,.int .i64 gh,.slice A2 l2.length c2,.slice A3 l3.length c3]) (by rfl) rfl ?_ ?_
      · go_simp
        (try simp only [i64_w])
        try rfl
      refine hK.out _ _ ⟨g3,g4,g5,g12,m4_,m5_,m6_,m7_,(by rw [ha.out]; exact putSel_upk 0 hb_ rfl rfl rfl),Q_HB,Q_H3,fun h0_ => absurd ((hoff 8 (by kernel_rfl)).symm.trans h0_) (by decide),Q_G3,Q_H4,fun h0_ => absurd ((hoff 9 (by kernel_rfl)).symm.trans h0_) (by decide),Q_G4,Q_H5,fun h0_ => absurd ((hoff 10 (by kernel_rfl)).symm.trans h0_) (by decide),Q_G5,Q_HR,Q_X4_,Q_X5_,Q_X6_,Q_X7_⟩
    refine steps_cons ?_ ?_
    · rintro b a w' ⟨g3,g4,g5,g12,m4_,m5_,m6_,m7_,ha,Q_HB,Q_H3,Q_H3b,Q_G3,Q_H4,Q_H4b,Q_G4,Q_H5,Q_H5b,Q_G5,Q_HR,Q_X4_,Q_X5_,Q_X6_,Q_X7_⟩ hb_ hon hoff
      refine ⟨_,rfl,fun K hK => ?_⟩
      have e8:a.tmps[8]? = some (.agg #[.int .i64 gw,.int .i64 gh,.slice A2 l2.length c2,.slice A3 l3.length c3]):=by rw [ha]; exact putSel_on (e:=(0,8,.agg #[.int .i64 gw,.int .i64 gh,.slice A2 l2.length c2,.slice A3 l3.length c3])) 0 rfl rfl (hon 0 (by kernel_rfl)) rfl
      replace ha:=am_ ha
      have HB:=am_ Q_HB
      refine goes_ Tryd.func71 (by kernel_rfl) rfl #[.agg #[.int .i64 gw,.int .i64 gh,.slice A2 l2.length c2,.slice A3 l3.length c3]] (by rfl) rfl rfl (by first | (simp only [List.map_toArray,List.map_cons,List.map_nil,Act.eval,Array.getD_eq_getD_getElem?,Option.getD_some,e8]; done) | (simp only [List.map_toArray,List.map_cons,List.map_nil,Act.eval,Array.getD_eq_getD_getElem?,Option.getD_some,e8]; rfl)) ?_
      refine (HGR.out w' HB.out).mono ?_
      rintro e v6 ⟨rfl,hb⟩
      refine ⟨_,rfl,?_⟩
      refine hK.out _ _ ⟨g3,g4,g5,g12,m4_,m5_,m6_,m7_,(by rw [ha.out]; exact putSel_upk 1 hb_ rfl rfl rfl),below_step HB.out hb,fun h0_ h1_ => blk_below (Q_H3 h0_ h1_) hb,fun h0_ => absurd ((hoff 8 (by kernel_rfl)).symm.trans h0_) (by decide),Q_G3,fun h0_ h1_ => blk_below (Q_H4 h0_ h1_) hb,fun h0_ => absurd ((hoff 9 (by kernel_rfl)).symm.trans h0_) (by decide),Q_G4,fun h0_ h1_ => blk_below (Q_H5 h0_ h1_) hb,fun h0_ => absurd ((hoff 10 (by kernel_rfl)).symm.trans h0_) (by decide),Q_G5,fun h0_ => ⟨blk_below (Q_HR h0_).1 hb,(Q_HR h0_).2.1,Kd.R_below (Q_HR h0_).2.2 hb⟩,Q_X4_,Q_X5_,Q_X6_,Q_X7_⟩
    refine steps_cons ?_ ?_
    · rintro b a w' ⟨g3,g4,g5,g12,m4_,m5_,m6_,m7_,ha,Q_HB,Q_H3,Q_H3b,Q_G3,Q_H4,Q_H4b,Q_G4,Q_H5,Q_H5b,Q_G5,Q_HR,Q_X4_,Q_X5_,Q_X6_,Q_X7_⟩ hb_ hon hoff
      refine ⟨_,rfl,fun K hK => ?_⟩
      have e1:a.tmps[1]? = some (.pointer (some ⟨w.heap.size,0,none⟩)):=by rw [ha]; exact (putSel_off rfl).trans rfl
      replace ha:=am_ ha
      have HB:=am_ Q_HB
      have hs0_:=(pw_cell_below HB.out HX.out.1)
      have hs1_:=(pw_cell_below HB.out HX.out.2.1)
      have hs2_:=(pw_cell_below HB.out HX.out.2.2.1)
      have hs3_:=(pw_cell_below HB.out HX.out.2.2.2)
      refine value_ (w1:=w') (v:=.agg #[.int .i64 gw,.int .i64 gh,.slice A2 l2.length c2,.slice A3 l3.length c3]) (by rfl) rfl ?_ ?_
      · go_simp
        (try simp only [i64_w])
        try rfl
      refine hK.out _ _ ⟨g3,g4,g5,g12,m4_,m5_,m6_,m7_,(by rw [ha.out]; exact putSel_upk 2 hb_ rfl rfl rfl),Q_HB,Q_H3,fun h0_ => absurd ((hoff 8 (by kernel_rfl)).symm.trans h0_) (by decide),Q_G3,Q_H4,fun h0_ => absurd ((hoff 9 (by kernel_rfl)).symm.trans h0_) (by decide),Q_G4,Q_H5,fun h0_ => absurd ((hoff 10 (by kernel_rfl)).symm.trans h0_) (by decide),Q_G5,Q_HR,Q_X4_,Q_X5_,Q_X6_,Q_X7_⟩
    refine steps_cons ?_ ?_
    · rintro b a w' ⟨g3,g4,g5,g12,m4_,m5_,m6_,m7_,ha,Q_HB,Q_H3,Q_H3b,Q_G3,Q_H4,Q_H4b,Q_G4,Q_H5,Q_H5b,Q_G5,Q_HR,Q_X4_,Q_X5_,Q_X6_,Q_X7_⟩ hb_ hon hoff
      refine ⟨_,rfl,fun K hK => ?_⟩
      have e10:a.tmps[10]? = some (.agg #[.int .i64 gw,.int .i64 gh,.slice A2 l2.length c2,.slice A3 l3.length c3]):=by rw [ha]; exact putSel_on (e:=(2,10,.agg #[.int .i64 gw,.int .i64 gh,.slice A2 l2.length c2,.slice A3 l3.length c3])) 2 rfl rfl (hon 2 (by kernel_rfl)) rfl
      replace ha:=am_ ha
      have HB:=am_ Q_HB
      refine goes_ Tryd.func72 (by kernel_rfl) rfl #[.agg #[.int .i64 gw,.int .i64 gh,.slice A2 l2.length c2,.slice A3 l3.length c3]] (by rfl) rfl rfl (by first | (simp only [List.map_toArray,List.map_cons,List.map_nil,Act.eval,Array.getD_eq_getD_getElem?,Option.getD_some,e10]; done) | (simp only [List.map_toArray,List.map_cons,List.map_nil,Act.eval,Array.getD_eq_getD_getElem?,Option.getD_some,e10]; rfl)) ?_
      refine (HSE.out w' HB.out).mono ?_
      rintro e v6 ⟨rfl,hb⟩
      refine ⟨_,rfl,?_⟩
      refine hK.out _ _ ⟨g3,g4,g5,g12,m4_,m5_,m6_,m7_,(by rw [ha.out]; exact putSel_upk 3 hb_ rfl rfl rfl),below_step HB.out hb,fun h0_ h1_ => blk_below (Q_H3 h0_ h1_) hb,fun h0_ => absurd ((hoff 8 (by kernel_rfl)).symm.trans h0_) (by decide),Q_G3,fun h0_ h1_ => blk_below (Q_H4 h0_ h1_) hb,fun h0_ => absurd ((hoff 9 (by kernel_rfl)).symm.trans h0_) (by decide),Q_G4,fun h0_ h1_ => blk_below (Q_H5 h0_ h1_) hb,fun h0_ => absurd ((hoff 10 (by kernel_rfl)).symm.trans h0_) (by decide),Q_G5,fun h0_ => ⟨blk_below (Q_HR h0_).1 hb,(Q_HR h0_).2.1,Kd.R_below (Q_HR h0_).2.2 hb⟩,Q_X4_,Q_X5_,Q_X6_,Q_X7_⟩
    refine steps_cons ?_ ?_
    · rintro b a w' ⟨g3,g4,g5,g12,m4_,m5_,m6_,m7_,ha,Q_HB,Q_H3,Q_H3b,Q_G3,Q_H4,Q_H4b,Q_G4,Q_H5,Q_H5b,Q_G5,Q_HR,Q_X4_,Q_X5_,Q_X6_,Q_X7_⟩ hb_ hon hoff
      refine ⟨_,rfl,fun K hK => ?_⟩
      replace ha:=am_ ha
      have HB:=am_ Q_HB
      refine value_ (w1:=w'.alloc (.cells #[] 9)) (v:=.slice (some ⟨w'.heap.size,0,none⟩) 0 0) (by rfl) rfl ?hrun4 ?hrest4
      case hrun4 =>
        first | (go_simp; done) | (go_simp; rfl)
      have hb:Below w'.heap.size w' (w'.alloc (.cells #[] 9)):=below_alloc (Below.refl _ _) _
      refine hK.out _ _ ⟨g3,g4,g5,w'.heap.size,(.slice (some ⟨w'.heap.size,0,none⟩) 0 0),m5_,m6_,m7_,(by rw [ha.out]; exact putSel_upk 4 hb_ rfl rfl rfl),below_step HB.out hb,fun h0_ h1_ => blk_below (Q_H3 h0_ h1_) hb,fun h0_ => blk_below (Q_H3b h0_) hb,Q_G3,fun h0_ h1_ => blk_below (Q_H4 h0_ h1_) hb,fun h0_ => blk_below (Q_H4b h0_) hb,Q_G4,fun h0_ h1_ => blk_below (Q_H5 h0_ h1_) hb,fun h0_ => absurd ((hoff 10 (by kernel_rfl)).symm.trans h0_) (by decide),Q_G5,fun _ => ⟨heap_alloc_new w' _,HB.out.size,R_lit0 Kd.string 9 w' _ HB.out.size⟩,fun _ => rfl,Q_X5_,Q_X6_,Q_X7_⟩
    refine steps_cons ?_ ?_
    · rintro b a w' ⟨g3,g4,g5,g12,m4_,m5_,m6_,m7_,ha,Q_HB,Q_H3,Q_H3b,Q_G3,Q_H4,Q_H4b,Q_G4,Q_H5,Q_H5b,Q_G5,Q_HR,Q_X4_,Q_X5_,Q_X6_,Q_X7_⟩ hb_ hon hoff
      refine ⟨_,rfl,fun K hK => ?_⟩
      replace ha:=am_ ha
      have HB:=am_ Q_HB
      refine box_step ?hg (N:=3) ?hd (cs:=#[.int .i64 0,.int .i64 0]) (t:=75) ?hr ?_; (case hd => rfl); (case hg => rfl); (case hr => first | (go_simp; done) | (go_simp; rfl))
      intro b3 hg w2 hbox hb
      have hge:W5.heap.size ≤ b3:=by rw [hg]; exact HB.out.size
      refine hK.out _ _ ⟨b3,g4,g5,g12,m4_,(.pointer (some ⟨b3,0,none⟩)),m6_,m7_,(by rw [ha.out]; exact putSel_upk 5 hb_ rfl rfl rfl),below_step HB.out hb,fun _ _ => hbox,fun h0_ => absurd ((hoff 8 (by kernel_rfl)).symm.trans h0_) (by decide),fun _ => hge,fun h0_ h1_ => blk_below (Q_H4 h0_ h1_) hb,fun h0_ => absurd ((hoff 9 (by kernel_rfl)).symm.trans h0_) (by decide),Q_G4,fun h0_ h1_ => blk_below (Q_H5 h0_ h1_) hb,fun h0_ => absurd ((hoff 10 (by kernel_rfl)).symm.trans h0_) (by decide),Q_G5,fun h0_ => ⟨blk_below (Q_HR h0_).1 hb,(Q_HR h0_).2.1,Kd.R_below (Q_HR h0_).2.2 hb⟩,Q_X4_,fun _ => rfl,Q_X6_,Q_X7_⟩
    refine steps_cons ?_ ?_
    · rintro b a w' ⟨g3,g4,g5,g12,m4_,m5_,m6_,m7_,ha,Q_HB,Q_H3,Q_H3b,Q_G3,Q_H4,Q_H4b,Q_G4,Q_H5,Q_H5b,Q_G5,Q_HR,Q_X4_,Q_X5_,Q_X6_,Q_X7_⟩ hb_ hon hoff
      refine ⟨_,rfl,fun K hK => ?_⟩
      replace ha:=am_ ha
      have HB:=am_ Q_HB
      refine box_step ?hg (N:=4) ?hd (cs:=#[.int .u64 0]) (t:=56) ?hr ?_; (case hd => rfl); (case hg => rfl); (case hr => first | (go_simp; done) | (go_simp; rfl))
      intro b4 hg w2 hbox hb
      have hge:W5.heap.size ≤ b4:=by rw [hg]; exact HB.out.size
      refine hK.out _ _ ⟨g3,b4,g5,g12,m4_,m5_,(.pointer (some ⟨b4,0,none⟩)),m7_,(by rw [ha.out]; exact putSel_upk 6 hb_ rfl rfl rfl),below_step HB.out hb,fun h0_ h1_ => blk_below (Q_H3 h0_ h1_) hb,fun h0_ => absurd ((hoff 8 (by kernel_rfl)).symm.trans h0_) (by decide),Q_G3,fun _ _ => hbox,fun h0_ => absurd ((hoff 9 (by kernel_rfl)).symm.trans h0_) (by decide),fun _ => hge,fun h0_ h1_ => blk_below (Q_H5 h0_ h1_) hb,fun h0_ => absurd ((hoff 10 (by kernel_rfl)).symm.trans h0_) (by decide),Q_G5,fun h0_ => ⟨blk_below (Q_HR h0_).1 hb,(Q_HR h0_).2.1,Kd.R_below (Q_HR h0_).2.2 hb⟩,Q_X4_,Q_X5_,fun _ => rfl,Q_X7_⟩
    refine steps_cons ?_ ?_
    · rintro b a w' ⟨g3,g4,g5,g12,m4_,m5_,m6_,m7_,ha,Q_HB,Q_H3,Q_H3b,Q_G3,Q_H4,Q_H4b,Q_G4,Q_H5,Q_H5b,Q_G5,Q_HR,Q_X4_,Q_X5_,Q_X6_,Q_X7_⟩ hb_ hon hoff
      refine ⟨_,rfl,fun K hK => ?_⟩
      replace ha:=am_ ha
      have HB:=am_ Q_HB
      refine box_step ?hg (N:=5) ?hd (cs:=#[.slice none 0 0]) (t:=72) ?hr ?_; (case hd => rfl); (case hg => rfl); (case hr => first | (go_simp; done) | (go_simp; rfl))
      intro b5 hg w2 hbox hb
      have hge:W5.heap.size ≤ b5:=by rw [hg]; exact HB.out.size
      refine hK.out _ _ ⟨g3,g4,b5,g12,m4_,m5_,m6_,(.pointer (some ⟨b5,0,none⟩)),(by rw [ha.out]; exact putSel_upk 7 hb_ rfl rfl rfl),below_step HB.out hb,fun h0_ h1_ => blk_below (Q_H3 h0_ h1_) hb,fun h0_ => absurd ((hoff 8 (by kernel_rfl)).symm.trans h0_) (by decide),Q_G3,fun h0_ h1_ => blk_below (Q_H4 h0_ h1_) hb,fun h0_ => absurd ((hoff 9 (by kernel_rfl)).symm.trans h0_) (by decide),Q_G4,fun _ _ => hbox,fun h0_ => absurd ((hoff 10 (by kernel_rfl)).symm.trans h0_) (by decide),fun _ => hge,fun h0_ => ⟨blk_below (Q_HR h0_).1 hb,(Q_HR h0_).2.1,Kd.R_below (Q_HR h0_).2.2 hb⟩,Q_X4_,Q_X5_,Q_X6_,fun _ => rfl⟩
    refine steps_cons ?_ ?_
    · rintro b a w' ⟨g3,g4,g5,g12,m4_,m5_,m6_,m7_,ha,Q_HB,Q_H3,Q_H3b,Q_G3,Q_H4,Q_H4b,Q_G4,Q_H5,Q_H5b,Q_G5,Q_HR,Q_X4_,Q_X5_,Q_X6_,Q_X7_⟩ hb_ hon hoff
      refine ⟨_,rfl,fun K hK => ?_⟩
      have e3:a.tmps[3]? = some (m5_):=by rw [ha]; exact putSel_on (e:=(5,3,m5_)) 5 rfl rfl (hon 5 (by kernel_rfl)) rfl
      rw [Q_X5_ (hon 5 (by kernel_rfl))] at e3
      have e9:a.tmps[9]? = some (.agg #[.int .i64 gw,.int .i64 gh]):=by rw [ha]; exact putSel_on (e:=(1,9,.agg #[.int .i64 gw,.int .i64 gh])) 1 rfl rfl (hon 1 (by kernel_rfl)) rfl
      replace ha:=am_ ha
      have HB:=am_ Q_HB
      have H3:=am_ (Q_H3 (hon 5 (by kernel_rfl)) hb_)
      have G3:=am_ (Q_G3 (hon 5 (by kernel_rfl)))
      have H4:=am_ (Q_H4 (hon 6 (by kernel_rfl)) (hoff 9 (by kernel_rfl)))
      have G4:=am_ (Q_G4 (hon 6 (by kernel_rfl)))
      have H5:=am_ (Q_H5 (hon 7 (by kernel_rfl)) (hoff 10 (by kernel_rfl)))
      have G5:=am_ (Q_G5 (hon 7 (by kernel_rfl)))
      have hs30:=(bc_ H3.out 0).trans rfl
      have hs31:=(bc_ H3.out 1).trans rfl
      have hf30:=bz_ H3.out 0
      have hf31:=bz_ H3.out 1
      refine skip_ (w1:=(w'.setCell ⟨g3,0,none⟩ (.int .i64 gw)).setCell ⟨g3,1,none⟩ (.int .i64 gh)) (by rfl) rfl ?hrun8 ?hrest8
      case hrun8 =>
        first | (go_simp; done) | (go_simp; rfl)
      have n34:g3 ≠ g4:=fun h_ => blk_ne H3.out H4.out (by decide) h_
      have n35:g3 ≠ g5:=fun h_ => blk_ne H3.out H5.out (by decide) h_
      refine hK.out _ _ ⟨g3,g4,g5,g12,m4_,m5_,m6_,m7_,(by rw [ha.out]; exact putSel_none (v:=undef) rfl),below_set (below_set HB.out G3.out) G3.out,fun _ h1_ => absurd ((up_self b 8).symm.trans h1_) (by decide),fun _ => blk_put (cs:=#[.int .i64 gw,.int .i64 0]) (blk_put (cs:=#[.int .i64 0,.int .i64 0]) H3.out 0 _ rfl) 1 _ rfl,Q_G3,fun _ _ => blk_far (blk_far H4.out n34.symm _) n34.symm _,fun h0_ => absurd ((hoff 9 (by kernel_rfl)).symm.trans h0_) (by decide),Q_G4,fun _ _ => blk_far (blk_far H5.out n35.symm _) n35.symm _,fun h0_ => absurd ((hoff 10 (by kernel_rfl)).symm.trans h0_) (by decide),Q_G5,fun h0_ => ⟨blk_far (blk_far (Q_HR h0_).1 (fun h_ => blk_ne (Q_HR h0_).1 H3.out (by decide) h_) _) (fun h_ => blk_ne (Q_HR h0_).1 H3.out (by decide) h_) _,(Q_HR h0_).2.1,Kd.R_far (p:=⟨g3,1,none⟩) (Kd.R_far (p:=⟨g3,0,none⟩) (Q_HR h0_).2.2 (fun k_ hk_ => hk_ ▸ (fun h_ => blk_ne (Q_HR h0_).1 H3.out (by decide) h_)) _) (fun k_ hk_ => hk_ ▸ (fun h_ => blk_ne (Q_HR h0_).1 H3.out (by decide) h_)) _⟩,Q_X4_,Q_X5_,Q_X6_,Q_X7_⟩
    refine steps_cons ?_ ?_
    · rintro b a w' ⟨g3,g4,g5,g12,m4_,m5_,m6_,m7_,ha,Q_HB,Q_H3,Q_H3b,Q_G3,Q_H4,Q_H4b,Q_G4,Q_H5,Q_H5b,Q_G5,Q_HR,Q_X4_,Q_X5_,Q_X6_,Q_X7_⟩ hb_ hon hoff
      refine ⟨_,rfl,fun K hK => ?_⟩
      have e4:a.tmps[4]? = some (m6_):=by rw [ha]; exact putSel_on (e:=(6,4,m6_)) 6 rfl rfl (hon 6 (by kernel_rfl)) rfl
      rw [Q_X6_ (hon 6 (by kernel_rfl))] at e4
      have e11:a.tmps[11]? = some (.int .u64 S):=by rw [ha]; exact putSel_on (e:=(3,11,.int .u64 S)) 3 rfl rfl (hon 3 (by kernel_rfl)) rfl
      replace ha:=am_ ha
      have HB:=am_ Q_HB
      have H3b:=am_ (Q_H3b (hon 8 (by kernel_rfl)))
      have G3:=am_ (Q_G3 (hon 5 (by kernel_rfl)))
      have H4:=am_ (Q_H4 (hon 6 (by kernel_rfl)) hb_)
      have G4:=am_ (Q_G4 (hon 6 (by kernel_rfl)))
      have H5:=am_ (Q_H5 (hon 7 (by kernel_rfl)) (hoff 10 (by kernel_rfl)))
      have G5:=am_ (Q_G5 (hon 7 (by kernel_rfl)))
      have hs40:=(bc_ H4.out 0).trans rfl
      have hf40:=bz_ H4.out 0
      refine skip_ (w1:=w'.setCell ⟨g4,0,none⟩ (.int .u64 S)) (by rfl) rfl ?hrun9 ?hrest9
      case hrun9 =>
        first | (go_simp; done) | (go_simp; rfl)
      have n43:g4 ≠ g3:=fun h_ => blk_ne H4.out H3b.out (by decide) h_
      have n45:g4 ≠ g5:=fun h_ => blk_ne H4.out H5.out (by decide) h_
      refine hK.out _ _ ⟨g3,g4,g5,g12,m4_,m5_,m6_,m7_,(by rw [ha.out]; exact putSel_none (v:=undef) rfl),below_set HB.out G4.out,fun _ h1_ => absurd ((hon 8 (by kernel_rfl)).symm.trans h1_) (by decide),fun _ => blk_far H3b.out n43.symm _,Q_G3,fun _ h1_ => absurd ((up_self b 9).symm.trans h1_) (by decide),fun _ => blk_put (cs:=#[.int .u64 0]) H4.out 0 _ rfl,Q_G4,fun _ _ => blk_far H5.out n45.symm _,fun h0_ => absurd ((hoff 10 (by kernel_rfl)).symm.trans h0_) (by decide),Q_G5,fun h0_ => ⟨blk_far (Q_HR h0_).1 (fun h_ => blk_ne (Q_HR h0_).1 H4.out (by decide) h_) _,(Q_HR h0_).2.1,Kd.R_far (p:=⟨g4,0,none⟩) (Q_HR h0_).2.2 (fun k_ hk_ => hk_ ▸ (fun h_ => blk_ne (Q_HR h0_).1 H4.out (by decide) h_)) _⟩,Q_X4_,Q_X5_,Q_X6_,Q_X7_⟩
    refine steps_cons ?_ ?_
    · rintro b a w' ⟨g3,g4,g5,g12,m4_,m5_,m6_,m7_,ha,Q_HB,Q_H3,Q_H3b,Q_G3,Q_H4,Q_H4b,Q_G4,Q_H5,Q_H5b,Q_G5,Q_HR,Q_X4_,Q_X5_,Q_X6_,Q_X7_⟩ hb_ hon hoff
      refine ⟨_,rfl,fun K hK => ?_⟩
      have e5:a.tmps[5]? = some (m7_):=by rw [ha]; exact putSel_on (e:=(7,5,m7_)) 7 rfl rfl (hon 7 (by kernel_rfl)) rfl
      rw [Q_X7_ (hon 7 (by kernel_rfl))] at e5
      have e12:a.tmps[12]? = some (m4_):=by rw [ha]; exact putSel_on (e:=(4,12,m4_)) 4 rfl rfl (hon 4 (by kernel_rfl)) rfl
      rw [Q_X4_ (hon 4 (by kernel_rfl))] at e12
      replace ha:=am_ ha
      have HB:=am_ Q_HB
      have H3b:=am_ (Q_H3b (hon 8 (by kernel_rfl)))
      have G3:=am_ (Q_G3 (hon 5 (by kernel_rfl)))
      have H4b:=am_ (Q_H4b (hon 9 (by kernel_rfl)))
      have G4:=am_ (Q_G4 (hon 6 (by kernel_rfl)))
      have H5:=am_ (Q_H5 (hon 7 (by kernel_rfl)) hb_)
      have G5:=am_ (Q_G5 (hon 7 (by kernel_rfl)))
      have HR:=am_ (Q_HR (hon 4 (by kernel_rfl)))
      have hs50:=(bc_ H5.out 0).trans rfl
      have hf50:=bz_ H5.out 0
      refine skip_ (w1:=w'.setCell ⟨g5,0,none⟩ (.slice (some ⟨g12,0,none⟩) 0 0)) (by rfl) rfl ?hrun10 ?hrest10
      case hrun10 =>
        first | (go_simp; done) | (go_simp; rfl)
      have n53:g5 ≠ g3:=fun h_ => blk_ne H5.out H3b.out (by decide) h_
      have n54:g5 ≠ g4:=fun h_ => blk_ne H5.out H4b.out (by decide) h_
      have n5r:g5 ≠ g12:=fun h_ => blk_ne H5.out HR.out.1 (by decide) h_
      refine hK.out _ _ ⟨g3,g4,g5,g12,m4_,m5_,m6_,m7_,(by rw [ha.out]; exact putSel_none (v:=undef) rfl),below_set HB.out G5.out,fun _ h1_ => absurd ((hon 8 (by kernel_rfl)).symm.trans h1_) (by decide),fun _ => blk_far H3b.out n53.symm _,Q_G3,fun _ h1_ => absurd ((hon 9 (by kernel_rfl)).symm.trans h1_) (by decide),fun _ => blk_far H4b.out n54.symm _,Q_G4,fun _ h1_ => absurd ((up_self b 10).symm.trans h1_) (by decide),fun _ => blk_put (cs:=#[.slice none 0 0]) H5.out 0 _ rfl,Q_G5,fun _ => ⟨blk_far HR.out.1 n5r.symm _,HR.out.2.1,Kd.R_far (p:=⟨g5,0,none⟩) HR.out.2.2 (fun k_ hk_ => hk_ ▸ n5r.symm) _⟩,Q_X4_,Q_X5_,Q_X6_,Q_X7_⟩
    exact steps_nil
  rintro b a w' hall ⟨g3,g4,g5,g12,m4_,m5_,m6_,m7_,ha,Q_HB,Q_H3,Q_H3b,Q_G3,Q_H4,Q_H4b,Q_G4,Q_H5,Q_H5b,Q_G5,Q_HR,Q_X4_,Q_X5_,Q_X6_,Q_X7_⟩
  clear HB
  have hb0_:=hall 0 (by kernel_rfl)
  have hb1_:=hall 1 (by kernel_rfl)
  have hb2_:=hall 2 (by kernel_rfl)
  have hb3_:=hall 3 (by kernel_rfl)
  have hb4_:=hall 4 (by kernel_rfl)
  have hb5_:=hall 5 (by kernel_rfl)
  have hb6_:=hall 6 (by kernel_rfl)
  have hb7_:=hall 7 (by kernel_rfl)
  have hb8_:=hall 8 (by kernel_rfl)
  have hb9_:=hall 9 (by kernel_rfl)
  have hb10_:=hall 10 (by kernel_rfl)
  subst ha
  obtain rfl:=Q_X4_ hb4_
  obtain rfl:=Q_X5_ hb5_
  obtain rfl:=Q_X6_ hb6_
  obtain rfl:=Q_X7_ hb7_
  simp only [putSel,hb0_,hb1_,hb2_,hb3_,hb4_,hb5_,hb6_,hb7_,hb8_,hb9_,hb10_,if_true,Act.put,List.setIfInBounds_toArray,List.set_cons_zero,List.set_cons_succ]
  have HB:=am_ Q_HB
  clear Q_HB
  clear Q_H3
  have H3b:=am_ (Q_H3b hb8_)
  clear Q_H3b
  have G3:=am_ (Q_G3 hb5_)
  clear Q_G3
  clear Q_H4
  have H4b:=am_ (Q_H4b hb9_)
  clear Q_H4b
  have G4:=am_ (Q_G4 hb6_)
  clear Q_G4
  clear Q_H5
  have H5b:=am_ (Q_H5b hb10_)
  clear Q_H5b
  have G5:=am_ (Q_G5 hb7_)
  clear Q_G5
  have HR:=am_ (Q_HR hb4_)
  clear Q_HR
  clear hall hb0_ hb1_ hb2_ hb3_ hb4_ hb5_ hb6_ hb7_ hb8_ hb9_ hb10_
  have N53:g5 ≠ g3:=fun h_ => blk_ne H5b.out H3b.out (by decide) h_
  have N54:g5 ≠ g4:=fun h_ => blk_ne H5b.out H4b.out (by decide) h_
  have N5r:g5 ≠ g12:=fun h_ => blk_ne H5b.out HR.out.1 (by decide) h_
  have N3r:g3 ≠ g12:=fun h_ => blk_ne H3b.out HR.out.1 (by decide) h_
  have N4r:g4 ≠ g12:=fun h_ => blk_ne H4b.out HR.out.1 (by decide) h_
  have SZ:w.heap.size ≤ W5.heap.size:=HB5.out.size
  have HI0:Aside0 (FSt w g5 (K34 g3 g4 gw gh S) (figRows gw gh S 0) w'):=⟨⟨⟨fun k => k = g5 ∨ some k = (Value.slice (some ⟨g12,0,none⟩) 0 0).ownBlock,⟨_,(bc_ H5b.out 0).trans rfl,bz_ H5b.out 0,Kd.R_mono (Kd.R_lower HR.out.2.2 SZ) (fun k hk => hk ▸ N5r.symm),fun k => Iff.rfl⟩,fun b i v q => by
    have no:∀ b,b ≠ g5 → b ≠ g12 → ¬ (b = g5 ∨ some b = (Value.slice (some ⟨g12,0,none⟩) 0 0).ownBlock):=fun b h1 h2 h => by
      rcases h with h | h
      · exact h1 h
      · simp only [Value.ownBlock] at h
        injection h with h
        exact h2 h
    rcases q with ⟨rfl,rfl,rfl⟩ | ⟨rfl,rfl,rfl⟩ | ⟨rfl,rfl,rfl⟩
    · exact ⟨(bc_ H3b.out 0).trans rfl,no _ N53.symm N3r⟩
    · exact ⟨(bc_ H3b.out 1).trans rfl,no _ N53.symm N3r⟩
    · exact ⟨(bc_ H4b.out 0).trans rfl,no _ N54.symm N4r⟩⟩,below_step HB5.out (HB.out.mono (Nat.le_refl _))⟩⟩
  have HG5:Aside0 (w.heap.size ≤ g5):=⟨Nat.le_trans SZ G5.out⟩
  have hc31:w'.cell? ⟨g3,1,none⟩ = some (.int .i64 (gh:Int)):=(bc_ H3b.out 1).trans rfl
  have hw1:wrap64 ((gh:Int) + 1) = ((gh + 1:Nat):Int):=by unfold wrap64; omega
  clear N53 N54 N5r N3r N4r SZ H3b H4b H5b G3 G4 G5 HR HB HB5 HX HGR HSE hHeld
  go_wp2_with fail
  go_loopg [17] (gh + 1) (fun gg u17 wr => ∃ y:Nat,y ≤ gh + 1 ∧ gh + 1 - y ≤ gg ∧ u17 = .int .i64 y ∧ Aside0 (FSt w g5 (K34 g3 g4 gw gh S) (figRows gw gh S y) wr))
  case atStart => exact ⟨0,Nat.zero_le _,by omega,rfl,HI0⟩
  case round =>
    clear HI0 hc31
    obtain ⟨y,hy,hgg,rfl,HI⟩:=hrel
    by_cases hlt:y < gh + 1
    · have hltz:(y:Int) < (gh:Int) + 1:=by omega
      have HN:=am_ (HI.out.grow 3 (.int .i64 (y:Int)))
      have hn30:=HN.out.cell (.inl (.inl ⟨rfl,rfl,rfl⟩))
      have hn31:=HN.out.cell (.inl (.inr (.inl ⟨rfl,rfl,rfl⟩)))
      have hn7:=HN.out.cell (.inr ⟨rfl,rfl,rfl⟩)
      have HL:=figRows_len gw gh S y
      have HGW:Aside0 (gw ≤ 4 ∧ gh ≤ 4):=⟨hgw,hgh⟩
      have HLN:Aside0 ((figRows gw gh S y).length ≤ 10):=⟨by omega⟩
      have HY:Aside0 (y ≤ gh):=⟨by omega⟩
      have hgz:wrap64 ((gw:Int) + 1) = ((gw + 1:Nat):Int):=by unfold wrap64; omega
      have hyz:wrap64 ((y:Int) + 1) = ((y + 1:Nat):Int):=by unfold wrap64; omega
      clear HL HI
      have tok0:True:=trivial
      by_cases c:y < gh
      · have HC:=am_ c
        have cz:(y:Int) < (gh:Int):=by omega
        go_wp2_with (first
          | (go_at_fn 102; have _t:=tok0; refine (HN.out.row HG5.out g4 S 45 (.inl (.inr (.inr ⟨rfl,rfl,rfl⟩))) gw (by have:=HGW.out; omega) (levB gw gh S y) 103 #[.pointer (some ⟨g3,0,none⟩),.pointer (some ⟨wr.heap.size,0,none⟩)] (fun x => (impl_grid_level.f (gw:Int) (gh:Int) (x:Int) (y:Int)).getD 0) (fun x _ => rfl) eg2 (by have:=HLN.out; omega) ?hL).mono ?_
             (case hL => exact fun W' hW x hx => figE_level _ _ _ _ _ g3 _ W' (hW _ _ _ (.inl (.inl ⟨rfl,rfl,rfl⟩))) (hW _ _ _ (.inl (.inr (.inl ⟨rfl,rfl,rfl⟩)))) (hW _ _ _ (.inr ⟨rfl,rfl,rfl⟩)) (HLV.out x y hx HY.out))
             rintro e w7 ⟨rfl,hst⟩
             have HM:=am_ hst
             have hm30:=hst.cell (.inl (.inl ⟨rfl,rfl,rfl⟩))
             have hm31:=hst.cell (.inl (.inr (.inl ⟨rfl,rfl,rfl⟩)))
             have hm7:=hst.cell (.inr ⟨rfl,rfl,rfl⟩)
             clear hst hn30 hn31 hn7 _t tok0
             have tok1:True:=trivial)
          | (go_at_fn 102; have _t:=tok1; refine (HM.out.row HG5.out g4 S 124 (.inl (.inr (.inr ⟨rfl,rfl,rfl⟩))) (gw + 1) (by have:=HGW.out; omega) (uprB gw gh S y) 104 #[.pointer (some ⟨g3,0,none⟩),.pointer (some ⟨wr.heap.size,0,none⟩)] (fun x => (impl_grid_upright.f (gw:Int) (gh:Int) (x:Int) (y:Int)).getD 0) (fun x _ => rfl) eg3 (by have:=HLN.out; simp only [List.length_append,List.length_singleton]; omega) ?hU).mono ?_
             (case hU => exact fun W' hW x hx => figE_upright _ _ _ _ _ g3 _ W' (hW _ _ _ (.inl (.inl ⟨rfl,rfl,rfl⟩))) (hW _ _ _ (.inl (.inr (.inl ⟨rfl,rfl,rfl⟩)))) (hW _ _ _ (.inr ⟨rfl,rfl,rfl⟩)) (HUV.out x y (by omega) HC.out))
             rintro e w8 ⟨rfl,hst⟩
             have HP:=am_ hst
             clear hst hm30 hm31 hm7 _t tok1))
        go_roundg (gh + 1 - (y + 1))
        case measure => omega
        case rel => exact ⟨y + 1,by omega,by omega,by first | rfl | (exact congrArg _ hyz) | go_num,⟨by unfold figRows; rw [if_pos HC.out]; exact HP.out.weak (fun b i v q => .inl q)⟩⟩
      · have HC:=am_ c
        have cz:¬ (y:Int) < (gh:Int):=by omega
        go_wp2_with (first
          | (go_at_fn 102; have _t:=tok0; refine (HN.out.row HG5.out g4 S 45 (.inl (.inr (.inr ⟨rfl,rfl,rfl⟩))) gw (by have:=HGW.out; omega) (levB gw gh S y) 103 #[.pointer (some ⟨g3,0,none⟩),.pointer (some ⟨wr.heap.size,0,none⟩)] (fun x => (impl_grid_level.f (gw:Int) (gh:Int) (x:Int) (y:Int)).getD 0) (fun x _ => rfl) eg2 (by have:=HLN.out; omega) ?hL).mono ?_
             (case hL => exact fun W' hW x hx => figE_level _ _ _ _ _ g3 _ W' (hW _ _ _ (.inl (.inl ⟨rfl,rfl,rfl⟩))) (hW _ _ _ (.inl (.inr (.inl ⟨rfl,rfl,rfl⟩)))) (hW _ _ _ (.inr ⟨rfl,rfl,rfl⟩)) (HLV.out x y hx HY.out))
             rintro e w7 ⟨rfl,hst⟩
             have HM:=am_ hst
             have hm30:=hst.cell (.inl (.inl ⟨rfl,rfl,rfl⟩))
             have hm31:=hst.cell (.inl (.inr (.inl ⟨rfl,rfl,rfl⟩)))
             have hm7:=hst.cell (.inr ⟨rfl,rfl,rfl⟩)
             clear hst hn30 hn31 hn7 _t tok0
             have tok1:True:=trivial))
        go_roundg (gh + 1 - (y + 1))
        case measure => omega
        case rel => exact ⟨y + 1,by omega,by omega,by first | rfl | (exact congrArg _ hyz) | go_num,⟨by unfold figRows; rw [if_neg HC.out]; exact HM.out.weak (fun b i v q => .inl q)⟩⟩
    · obtain rfl:y = gh + 1:=by omega
      have hltz:¬ (((gh + 1:Nat):Int)) < (gh:Int) + 1:=by omega
      obtain ⟨⟨O,hI,-⟩,hB⟩:=HI.out
      obtain ⟨v,c1,f1,hR,hO⟩:=hI
      obtain ⟨Av,cv,rfl⟩:=Kd.R_slice hR
      have HR:=am_ hR
      have HB:=am_ hB
      clear hR hB hO HI f1
      go_wp2_with (go_at_call 105; refine (HJ.out _ _ _ Av cv HR.out).mono ?_; rintro e w9 ⟨rfl,hb⟩; have HB9:=am_ (below_step HB.out hb); clear hb)
      go_ret
      exact ⟨rfl,HB9.out⟩
theorem figRows_size (gw gh:Nat) (S:Int):∀ y,∀ x ∈ figRows gw gh S y,x.size ≤ gw + 1
  | 0,x,h => by cases h
  | y + 1,x,h => by
    have ih:=figRows_size gw gh S y
    have e1:(levR gw gh S y).size = gw:=by unfold levR; rw [strOfNums_size,rowF_len]
    have e2:(uprR gw gh S y).size = gw + 1:=by unfold uprR; rw [strOfNums_size,rowF_len]
    unfold figRows at h
    split at h
    · rcases List.mem_append.1 h with h | h
      · rcases List.mem_append.1 h with h | h
        · exact ih x h
        · rw [List.mem_singleton.1 h]; omega
      · rw [List.mem_singleton.1 h]; omega
    · rcases List.mem_append.1 h with h | h
      · exact ih x h
      · rw [List.mem_singleton.1 h]; omega
def impl_figureText.f (k:Nat) (a0_0 a0_1:Int) (l0_2 l0_3:List Int):Option ByteArray:=(impl_Figure_set.f k a0_0 a0_1 l0_2 l0_3).bind fun S => if (1 ≤ a0_0 ∧ a0_0 ≤ 4) ∧ (1 ≤ a0_1 ∧ a0_1 ≤ 4) then some (joinB (figRows a0_0.toNat a0_1.toNat S (a0_1.toNat + 1)) ⟨#[47]⟩) else none
theorem impl_figureText.mono:∀ a0 a1 a2 a3 k,LeO (impl_figureText.f k a0 a1 a2 a3) (impl_figureText.f (k + 1) a0 a1 a2 a3):=by
  intro a0 a1 a2 a3 k
  unfold impl_figureText.f
  exact LeO.bind (impl_Figure_set.mono _ _ _ _ _) (fun _ => LeO.refl _)
theorem impl_figureText.calls (k:Nat) (a0_0:Int) (a0_1:Int) (A0_2:Option Addr) (c0_2:Nat) (l0_2:List Int) (A0_3:Option Addr) (c0_3:Nat) (l0_3:List Int) (r:ByteArray) (w:World) (hr0_2:Kd.C (Kd.int .i64) w A0_2 l0_2.length l0_2) (hc0_2:l0_2.length ≤ c0_2) (hr0_3:Kd.C (Kd.int .i64) w A0_3 l0_3.length l0_3) (hc0_3:l0_3.length ≤ c0_3) (h:impl_figureText.f k a0_0 a0_1 l0_2 l0_3 = some r) :
    Calls Tryd.prog 57 #[.agg #[.int .i64 a0_0,.int .i64 a0_1,.slice A0_2 l0_2.length c0_2,.slice A0_3 l0_3.length c0_3]] w fun e w' => e = .returned (.string r) ∧ Below w.heap.size w w':=by
  unfold impl_figureText.f at h
  obtain ⟨S,h1,h⟩:=bi_ h
  split at h
  · rename_i hb
    obtain rfl:=Option.some.inj h
    obtain ⟨gw,rfl⟩:=Int.eq_ofNat_of_zero_le (show 0 ≤ a0_0 by omega)
    obtain ⟨gh,rfl⟩:=Int.eq_ofNat_of_zero_le (show 0 ≤ a0_1 by omega)
    have g:GridOK (gw:Int) (gh:Int):=⟨hb.1.1,hb.1.2,hb.2.1,hb.2.2⟩
    have hgw:gw ≤ 4:=by omega
    have hgh:gh ≤ 4:=by omega
    rw [Int.toNat_natCast,Int.toNat_natCast]
    have hlen:=figRows_len gw gh S (gh + 1)
    refine figText_main gw gh hgw hgh A0_2 A0_3 c0_2 c0_3 l0_2 l0_3 S w ?_ ?_ ?_ ?_ (fun xs => joinB xs ⟨#[47]⟩) ?_
    · intro W' hW
      exact impl_Figure_grid.calls _ _ _ _ _ _ _ _ _ _ W' (Kd.C_below hr0_2 hW) hc0_2 (Kd.C_below hr0_3 hW) hc0_3 rfl
    · intro W' hW
      exact impl_Figure_set.calls k _ _ _ _ _ _ _ _ _ W' (Kd.C_below hr0_2 hW) hc0_2 (Kd.C_below hr0_3 hW) hc0_3 h1
    · intro x y hx hy
      rw [level_f g (Int.natCast_nonneg x) (by omega) (Int.natCast_nonneg y) (by omega)]
      rfl
    · intro x y hx hy
      rw [upright_f g (Int.natCast_nonneg x) (by omega) (Int.natCast_nonneg y) (by omega)]
      rfl
    · intro W base ok A c hR
      refine Join_any _ _ (by omega) ?_ W base ok A c hR
      have hj:=join_len (⟨#[47]⟩:ByteArray).data.toList 5 ((figRows gw gh S (gh + 1)).map (·.data.toList)) (fun x hx => by
        obtain ⟨b,hb2,rfl⟩:=List.mem_map.1 hx
        have:=figRows_size gw gh S (gh + 1) b hb2
        have e:b.data.toList.length = b.size:=by simp
        omega)
      rw [List.length_map] at hj
      have e1:(⟨#[47]⟩:ByteArray).data.toList.length = 1:=rfl
      rw [e1] at hj
      refine Nat.le_trans hj ?_
      have:(figRows gw gh S (gh + 1)).length * (5 + 1) ≤ 10 * 6:=Nat.mul_le_mul_right 6 (by omega)
      omega
  · cases h


theorem below_of_eq {w w':World} (h:w' = w):Below w.heap.size w w':=by rw [h]; exact Below.refl _ _
set_option maxRecDepth 100000 in
set_option maxHeartbeats 8000000 in
theorem cmpFig_any (k:Nat) (a0 a1:Int) (A2:Option Addr) (c2:Nat) (l2:List Int) (A3:Option Addr) (c3:Nat) (l3:List Int) (b0 b1:Int) (B2:Option Addr) (d2:Nat) (m2:List Int) (B3:Option Addr) (d3:Nat) (m3:List Int) (tA tB:ByteArray) (w:World)
    (hr2:Kd.C (Kd.int .i64) w A2 l2.length l2) (hc2:l2.length ≤ c2) (hr3:Kd.C (Kd.int .i64) w A3 l3.length l3) (hc3:l3.length ≤ c3) (hs2:Kd.C (Kd.int .i64) w B2 m2.length m2) (hd2:m2.length ≤ d2) (hs3:Kd.C (Kd.int .i64) w B3 m3.length m3) (hd3:m3.length ≤ d3)
    (hA:impl_figureText.f k a0 a1 l2 l3 = some tA) (hB:impl_figureText.f k b0 b1 m2 m3 = some tB) :
    Calls Tryd.prog 74 #[.agg #[.int .i64 a0,.int .i64 a1,.slice A2 l2.length c2,.slice A3 l3.length c3],.agg #[.int .i64 b0,.int .i64 b1,.slice B2 m2.length d2,.slice B3 m3.length d3]] w fun e w' => e = .returned (.int .i64 (Lib.compareBytes tA.data.toList tB.data.toList)) ∧ Below w.heap.size w w':=by
  have HA:Aside0 (∀ W,Below w.heap.size w W → Calls Tryd.prog 57 #[.agg #[.int .i64 a0,.int .i64 a1,.slice A2 l2.length c2,.slice A3 l3.length c3]] W fun e w' => e = .returned (.string tA) ∧ Below W.heap.size W w'):=⟨fun W h => impl_figureText.calls k a0 a1 A2 c2 l2 A3 c3 l3 tA W (Kd.C_below hr2 h) hc2 (Kd.C_below hr3 h) hc3 hA⟩
  have HB:Aside0 (∀ W,Below w.heap.size w W → Calls Tryd.prog 57 #[.agg #[.int .i64 b0,.int .i64 b1,.slice B2 m2.length d2,.slice B3 m3.length d3]] W fun e w' => e = .returned (.string tB) ∧ Below W.heap.size W w'):=⟨fun W h => impl_figureText.calls k b0 b1 B2 d2 m2 B3 d3 m3 tB W (Kd.C_below hs2 h) hd2 (Kd.C_below hs3 h) hd3 hB⟩
  clear hr2 hc2 hr3 hc3 hs2 hd2 hs3 hd3 hA hB
  generalize l2.length = n2 at HA ⊢
  generalize l3.length = n3 at HA ⊢
  generalize m2.length = p2 at HB ⊢
  generalize m3.length = p3 at HB ⊢
  have tok1:True:=trivial
  go_enter Tryd.func74,Tryd.ntmps74
  go_wp2_with fail
  have Q0:((w.alloc (.cells #[.int .i64 a0,.int .i64 a1,.slice A2 n2 c2,.slice A3 n3 c3] 36)).alloc (.cells #[.int .i64 b0,.int .i64 b1,.slice B2 p2 d2,.slice B3 p3 d3] 36)).heap[w.heap.size]? = some (.cells #[.int .i64 a0,.int .i64 a1,.slice A2 n2 c2,.slice A3 n3 c3] 36 (0,0)):=blk_alloc (heap_alloc_new w _) _
  have Q1:((w.alloc (.cells #[.int .i64 a0,.int .i64 a1,.slice A2 n2 c2,.slice A3 n3 c3] 36)).alloc (.cells #[.int .i64 b0,.int .i64 b1,.slice B2 p2 d2,.slice B3 p3 d3] 36)).heap[w.heap.size + 1]? = some (.cells #[.int .i64 b0,.int .i64 b1,.slice B2 p2 d2,.slice B3 p3 d3] 36 (0,0)):=by
    have h:=heap_alloc_new (w.alloc (.cells #[.int .i64 a0,.int .i64 a1,.slice A2 n2 c2,.slice A3 n3 c3] 36)) (.cells #[.int .i64 b0,.int .i64 b1,.slice B2 p2 d2,.slice B3 p3 d3] 36)
    simpa using h
  have HW:Aside0 (Below w.heap.size w ((w.alloc (.cells #[.int .i64 a0,.int .i64 a1,.slice A2 n2 c2,.slice A3 n3 c3] 36)).alloc (.cells #[.int .i64 b0,.int .i64 b1,.slice B2 p2 d2,.slice B3 p3 d3] 36))):=⟨below_alloc (below_alloc (Below.refl _ _) _) _⟩
  generalize ((w.alloc (.cells #[.int .i64 a0,.int .i64 a1,.slice A2 n2 c2,.slice A3 n3 c3] 36)).alloc (.cells #[.int .i64 b0,.int .i64 b1,.slice B2 p2 d2,.slice B3 p3 d3] 36)) = w1 at Q0 Q1 HW ⊢
  have q0:w1.cell? ⟨w.heap.size,0,none⟩ = some (.int .i64 a0):=(bc_ Q0 0).trans rfl
  have q1:w1.cell? ⟨w.heap.size,1,none⟩ = some (.int .i64 a1):=(bc_ Q0 1).trans rfl
  have q2:w1.cell? ⟨w.heap.size,2,none⟩ = some (.slice A2 n2 c2):=(bc_ Q0 2).trans rfl
  have q3:w1.cell? ⟨w.heap.size,3,none⟩ = some (.slice A3 n3 c3):=(bc_ Q0 3).trans rfl
  have r0:w1.cell? ⟨w.heap.size + 1,0,none⟩ = some (.int .i64 b0):=(bc_ Q1 0).trans rfl
  have r1:w1.cell? ⟨w.heap.size + 1,1,none⟩ = some (.int .i64 b1):=(bc_ Q1 1).trans rfl
  have r2:w1.cell? ⟨w.heap.size + 1,2,none⟩ = some (.slice B2 p2 d2):=(bc_ Q1 2).trans rfl
  have r3:w1.cell? ⟨w.heap.size + 1,3,none⟩ = some (.slice B3 p3 d3):=(bc_ Q1 3).trans rfl
  have hlt0:=(Array.getElem?_eq_some_iff.1 Q0).1
  have hlt1:=(Array.getElem?_eq_some_iff.1 Q1).1
  clear Q0 Q1
  go_region_held3 (fun w' => w'.cell? ⟨w.heap.size,0,none⟩ = some (.int .i64 a0) ∧ w'.cell? ⟨w.heap.size,1,none⟩ = some (.int .i64 a1) ∧ w'.cell? ⟨w.heap.size,2,none⟩ = some (.slice A2 n2 c2) ∧ w'.cell? ⟨w.heap.size,3,none⟩ = some (.slice A3 n3 c3) ∧ w'.cell? ⟨w.heap.size + 1,0,none⟩ = some (.int .i64 b0) ∧ w'.cell? ⟨w.heap.size + 1,1,none⟩ = some (.int .i64 b1) ∧ w'.cell? ⟨w.heap.size + 1,2,none⟩ = some (.slice B2 p2 d2) ∧ w'.cell? ⟨w.heap.size + 1,3,none⟩ = some (.slice B3 p3 d3))
    (first | (exact ⟨q0,q1,q2,q3,r0,r1,r2,r3⟩) | (go_split_ands; exact ⟨pw_cell_below hbC (by assumption),pw_cell_below hbC (by assumption),pw_cell_below hbC (by assumption),pw_cell_below hbC (by assumption),pw_cell_below hbC (by assumption),pw_cell_below hbC (by assumption),pw_cell_below hbC (by assumption),pw_cell_below hbC (by assumption)⟩) | (go_split_ands; exact ⟨pw_cell_below hbB (by assumption),pw_cell_below hbB (by assumption),pw_cell_below hbB (by assumption),pw_cell_below hbB (by assumption),pw_cell_below hbB (by assumption),pw_cell_below hbB (by assumption),pw_cell_below hbB (by assumption),pw_cell_below hbB (by assumption)⟩) | (go_split_ands; exact ⟨pw_cell_below hbA (by assumption),pw_cell_below hbA (by assumption),pw_cell_below hbA (by assumption),pw_cell_below hbA (by assumption),pw_cell_below hbA (by assumption),pw_cell_below hbA (by assumption),pw_cell_below hbA (by assumption),pw_cell_below hbA (by assumption)⟩))
    ((first
      | (go_at_call 57; have _t:=tok1; refine (HA.out _ (below_drew HW.out)).mono ?_; rintro e wA ⟨rfl,hbA⟩; clear _t tok1; have tok2:True:=trivial)
      | (go_at_call 57; have _t:=tok2; refine (HB.out _ (below_step (below_drew HW.out) hbA)).mono ?_; rintro e wB ⟨rfl,hbB⟩; clear _t tok2; have tok3:True:=trivial)
      | (go_at_call 123; have _t:=tok3; refine (Tryd.strings_Compare tA tB _).mono ?_; rintro e wC ⟨rfl,hwC⟩; have hbC:=below_of_eq hwC; clear _t tok3 hwC)))
  have HE:=am_ (below_step (below_step (below_step (below_drew HW.out) hbA) hbB) hbC)
  clear q0 q1 q2 q3 r0 r1 r2 r3 hbA hbB hbC
  go_wp2_with fail
  go_ret
  exact ⟨rfl,HE.out⟩


def PcF (w:World) (base:Nat) (xs:List S36) (i:Nat) (x:S36) (A2:Option Addr) (c2:Nat) (A3:Option Addr) (c3:Nat):Prop :=
 xs[i]? = some x ∧ Kd.R (Kd.int .i64) 3 w base (fun k_ => some k_ ≠ (Value.slice A3 x.f3.length c3).ownBlock) (.slice A2 x.f2.length c2) x.f2 ∧ Kd.R (Kd.int .i64) 3 w base (fun k_ => some k_ ≠ (Value.slice A2 x.f2.length c2).ownBlock) (.slice A3 x.f3.length c3) x.f3
def LeastTo (T:Nat → ByteArray) (im n:Nat):Prop:=∀ j,j < n → ¬ Lib.compareBytes (T j).data.toList (T im).data.toList < 0
theorem minStep {T:Nat → ByteArray} {im kk:Nat} (h:LeastTo T im kk) (hq:Lib.compareBytes (T kk).data.toList (T im).data.toList ≤ 0) (_h:kk = kk ∨ False):LeastTo T kk (kk + 1):=fun j hj hlt => by
 rcases Nat.lt_or_eq_of_le (Nat.le_of_lt_succ hj) with h1 | h1
 ·refine h j h1 ?_
  rcases Int.lt_or_eq_of_le (cb_trans _ _ _ (Int.le_of_lt hlt) hq) with h2 | h2
  ·exact h2
  ·have e:=cb_zero _ _ h2
   rw [e,cb_neg] at hlt
   omega
 ·subst h1
  have:=cb_neg (T j).data.toList (T j).data.toList
  omega
theorem minKeep {T:Nat → ByteArray} {im kk:Nat} (h:LeastTo T im kk) (hq:¬ Lib.compareBytes (T kk).data.toList (T im).data.toList < 0):LeastTo T im (kk + 1):=fun j hj => by
 rcases Nat.lt_or_eq_of_le (Nat.le_of_lt_succ hj) with h1 | h1
 ·exact h j h1
 ·rw [h1]; exact hq
theorem S_piece {e base n cap:Nat} {ok:Nat → Prop} {w:World} {ad:Addr} {xs:List S36} (h:Kd.S kF e w base ok (.slice (some ad) n cap) xs) (i:Nat) (hi:i < n) (x:S36) (hx:xs[i]? = some x):∃ A2 c2 A3 c3,PcF w base xs i x A2 c2 A3 c3 ∧
  w.cell? (ad.add (i * 4)) = some (.int .i64 x.f0) ∧ w.cell? ⟨(ad.add (i * 4)).block,(ad.add (i * 4)).off + 1,none⟩ = some (.int .i64 x.f1) ∧ w.cell? ⟨(ad.add (i * 4)).block,(ad.add (i * 4)).off + 2,none⟩ = some (.slice A2 x.f2.length c2) ∧ w.cell? ⟨(ad.add (i * 4)).block,(ad.add (i * 4)).off + 3,none⟩ = some (.slice A3 x.f3.length c3):=by
 obtain ⟨c,-,hM,hc⟩:=Kd.S_get h ⟨0,0,[],[]⟩ (i:Int) (by omega) (by omega)
 rw [Int.toNat_natCast] at hM hc
 rw [show xs.getD i ⟨0,0,[],[]⟩ = x by rw [List.getD_eq_getElem?_getD,hx]; rfl] at hM
 obtain ⟨v2,v3,rfl,r2,r3,hne⟩:=kF_openM hM
 have r2':=Kd.R_mono (Kd.R_tight rfl r2) (fun k hk => hne k hk)
 have r3':=Kd.R_mono (Kd.R_tight rfl r3) (fun k hk h2 => hne k h2 hk)
 obtain ⟨A2,c2,rfl⟩:=Kd.R_slice r2'
 obtain ⟨A3,c3,rfl⟩:=Kd.R_slice r3'
 have h0:=hc 0 _ rfl
 have h1:=hc 1 _ rfl
 have h2:=hc 2 _ rfl
 have h3:=hc 3 _ rfl
 rw [show kF.sz = 4 from rfl] at h0 h1 h2 h3
 rw [add_field ad (i * 4) 1 (by omega)] at h1
 rw [add_field ad (i * 4) 2 (by omega)] at h2
 rw [add_field ad (i * 4) 3 (by omega)] at h3
 exact ⟨A2,c2,A3,c3,⟨hx,r2',r3'⟩,h0,h1,h2,h3⟩
set_option maxRecDepth 100000 in
set_option maxHeartbeats 16000000 in
theorem minFig_any (k:Nat) (xs:List S36) (T:Nat → ByteArray) (base:Nat) (ok:Nat → Prop) (A:Option Addr) (c:Nat) (w:World)
  (HS:Kd.S kF 36 w base ok (.slice A xs.length c) xs) (hT:∀ i x,xs[i]? = some x → impl_figureText.f k x.f0 x.f1 x.f2 x.f3 = some (T i)) (hpos:0 < xs.length) (hl:xs.length ≤ 2 ^ 40) :
  Calls Tryd.prog 73 #[.slice A xs.length c,.func (.func 74) #[] #[]] w fun e w' => ∃ (i:Nat) (x:S36) (A2:Option Addr) (c2:Nat) (A3:Option Addr) (c3:Nat),e = .returned (.agg #[.int .i64 x.f0,.int .i64 x.f1,.slice A2 x.f2.length c2,.slice A3 x.f3.length c3]) ∧ PcF w base xs i x A2 c2 A3 c3 ∧ LeastTo T i xs.length ∧ Below w.heap.size w w':=by
 obtain ⟨g,cap,hv,-⟩:=Kd.S_form HS hpos
 injection hv with hA _ hc
 subst hA hc
 have hcc:∀ (i j:Nat) (x y:S36) (A2:Option Addr) (c2:Nat) (A3:Option Addr) (c3:Nat) (B2:Option Addr) (d2:Nat) (B3:Option Addr) (d3:Nat),PcF w base xs i x A2 c2 A3 c3 → PcF w base xs j y B2 d2 B3 d3 → ∀ W,Below w.heap.size w W → Calls Tryd.prog 74 #[.agg #[.int .i64 x.f0,.int .i64 x.f1,.slice A2 x.f2.length c2,.slice A3 x.f3.length c3],.agg #[.int .i64 y.f0,.int .i64 y.f1,.slice B2 y.f2.length d2,.slice B3 y.f3.length d3]] W fun e w' => e = .returned (.int .i64 (Lib.compareBytes (T i).data.toList (T j).data.toList)) ∧ Below W.heap.size W w':=fun i j x y A2 c2 A3 c3 B2 d2 B3 d3 hi hj W hB =>
  cmpFig_any k _ _ A2 c2 _ A3 c3 _ _ _ B2 d2 _ B3 d3 _ _ _ W (Kd.C_below (Kd.R_reads' hi.2.1).2.2 hB) (Kd.R_reads' hi.2.1).2.1 (Kd.C_below (Kd.R_reads' hi.2.2).2.2 hB) (Kd.R_reads' hi.2.2).2.1 (Kd.C_below (Kd.R_reads' hj.2.1).2.2 hB) (Kd.R_reads' hj.2.1).2.1 (Kd.C_below (Kd.R_reads' hj.2.2).2.2 hB) (Kd.R_reads' hj.2.2).2.1 (hT i x hi.1) (hT j y hj.1)
 have HCC:=am_ hcc
 have HPC:Aside0 (∀ (W:World),Below w.heap.size w W → ∀ i,i < xs.length → ∃ x A2 c2 A3 c3,PcF w base xs i x A2 c2 A3 c3 ∧ W.cell? ((⟨g,0,none⟩:Addr).add (i * 4)) = some (.int .i64 x.f0) ∧ W.cell? ⟨((⟨g,0,none⟩:Addr).add (i * 4)).block,((⟨g,0,none⟩:Addr).add (i * 4)).off + 1,none⟩ = some (.int .i64 x.f1) ∧ W.cell? ⟨((⟨g,0,none⟩:Addr).add (i * 4)).block,((⟨g,0,none⟩:Addr).add (i * 4)).off + 2,none⟩ = some (.slice A2 x.f2.length c2) ∧ W.cell? ⟨((⟨g,0,none⟩:Addr).add (i * 4)).block,((⟨g,0,none⟩:Addr).add (i * 4)).off + 3,none⟩ = some (.slice A3 x.f3.length c3)):=⟨fun W hB i hi => by
  obtain ⟨A2,c2,A3,c3,hp,q0,q1,q2,q3⟩:=S_piece HS i hi _ (List.getElem?_eq_getElem hi)
  exact ⟨_,A2,c2,A3,c3,hp,(hB.cell (wl_ _ _ q0)).trans q0,(hB.cell (wl_ _ _ q1)).trans q1,(hB.cell (wl_ _ _ q2)).trans q2,(hB.cell (wl_ _ _ q3)).trans q3⟩⟩
 clear hcc HS hT
 generalize hn:xs.length = n at hpos hl HPC ⊢
 clear hn
 generalize (⟨g,0,none⟩:Addr) = ad at HPC ⊢
 have hnn:¬ (n:Int) < 1:=by omega
 have hbig:n ≤ 9223372036854775807:=by omega
 clear hl
 obtain ⟨m,M2,e2,M3,e3,PM,q0,q1,q2,q3⟩:=HPC.out w (Below.refl _ _) 0 hpos
 have ead:ad.add (0 * 4) = ad:=rfl
 rw [ead] at q0 q1 q2 q3
 have HP0:=am_ PM
 clear PM ead
 have hcell:∀ {W W':World} {a:Addr} {v:Value},Below W.heap.size W W' → W.cell? a = some v → W'.cell? a = some v:=fun hb h => (hb.cell (wl_ _ _ h)).trans h
 go_enter Tryd.func73,Tryd.ntmps73
 go_wp2_with (first
  | ((with_reducible refine gate_dst (N:=4) rfl ?_); refine boxE_ (N:=4) (cs:=#[.int .i64 0,.int .i64 0,.slice none 0 0,.slice none 0 0]) (t:=36) ?_; intro g4 hg w1 hbox hb; have q10:=hcell hb q0; have q11:=hcell hb q1; have q12:=hcell hb q2; have q13:=hcell hb q3; have HB1:=am_ hb; have HG4:Aside0 (g4 = w.heap.size):=⟨hg⟩; have BK4:=am_ hbox; clear hb hg hbox q0 q1 q2 q3)
  | ((with_reducible refine gate_dst (N:=5) rfl ?_); refine boxE_ (N:=5) (cs:=#[.int .i64 0,.int .i64 0,.slice none 0 0,.slice none 0 0]) (t:=36) ?_; intro g5 hg w2 hbox hb; have q20:=hcell hb q10; have q21:=hcell hb q11; have q22:=hcell hb q12; have q23:=hcell hb q13; have HB2:=am_ (below_step HB1.out hb); have HG5:Aside0 (w.heap.size < g5 ∧ g4 < g5):=⟨by have h1:=HB1.out.size; have h2:=blk_lt BK4.out; have h3:=HG4.out; omega⟩; have BK4b:=am_ (blk_below BK4.out hb); have BK5:=am_ hbox; have hs0:w2.cell? ⟨g5,0,none⟩ = some (.int .i64 0):=(bc_ BK5.out 0).trans rfl; have hs1:w2.cell? ⟨g5,1,none⟩ = some (.int .i64 0):=(bc_ BK5.out 1).trans rfl; have hs2:w2.cell? ⟨g5,2,none⟩ = some (.slice none 0 0):=(bc_ BK5.out 2).trans rfl; have hs3:w2.cell? ⟨g5,3,none⟩ = some (.slice none 0 0):=(bc_ BK5.out 3).trans rfl; have hf0:=bz_ BK5.out 0; have hf1:=bz_ BK5.out 1; have hf2:=bz_ BK5.out 2; have hf3:=bz_ BK5.out 3; clear hb hg hbox q10 q11 q12 q13 HB1 BK4))
 have hb3:=below_set (j:=3) (v:=.slice M3 m.f3.length e3) (below_set (j:=2) (v:=.slice M2 m.f2.length e2) (below_set (j:=1) (v:=.int .i64 m.f1) (below_set (j:=0) (v:=.int .i64 m.f0) HB2.out (Nat.le_of_lt HG5.out.1)) (Nat.le_of_lt HG5.out.1)) (Nat.le_of_lt HG5.out.1)) (Nat.le_of_lt HG5.out.1)
 have hk5:=blk_put (cs:=#[.int .i64 m.f0,.int .i64 m.f1,.slice M2 m.f2.length e2,.slice none 0 0]) (blk_put (cs:=#[.int .i64 m.f0,.int .i64 m.f1,.slice none 0 0,.slice none 0 0]) (blk_put (cs:=#[.int .i64 m.f0,.int .i64 0,.slice none 0 0,.slice none 0 0]) (blk_put (cs:=#[.int .i64 0,.int .i64 0,.slice none 0 0,.slice none 0 0]) BK5.out 0 (.int .i64 m.f0) rfl) 1 (.int .i64 m.f1) rfl) 2 (.slice M2 m.f2.length e2) rfl) 3 (.slice M3 m.f3.length e3) rfl
 have hk4:=blk_far (p:=⟨g5,3,none⟩) (blk_far (p:=⟨g5,2,none⟩) (blk_far (p:=⟨g5,1,none⟩) (blk_far (p:=⟨g5,0,none⟩) BK4b.out (Nat.ne_of_lt HG5.out.2) (.int .i64 m.f0)) (Nat.ne_of_lt HG5.out.2) (.int .i64 m.f1)) (Nat.ne_of_lt HG5.out.2) (.slice M2 m.f2.length e2)) (Nat.ne_of_lt HG5.out.2) (.slice M3 m.f3.length e3)
 clear hs0 hs1 hs2 hs3 hf0 hf1 hf2 hf3 q20 q21 q22 q23 HB2 BK4b BK5
 generalize (((w2.setCell ⟨g5,0,none⟩ (.int .i64 m.f0)).setCell ⟨g5,1,none⟩ (.int .i64 m.f1)).setCell ⟨g5,2,none⟩ (.slice M2 m.f2.length e2)).setCell ⟨g5,3,none⟩ (.slice M3 m.f3.length e3) = W3 at hb3 hk5 hk4 ⊢
 go_loopg [6] n (fun gg v6 wr => ∃ (kk im:Nat) (m:S36) (M2:Option Addr) (e2:Nat) (M3:Option Addr) (e3:Nat),kk ≤ n ∧ n - kk ≤ gg ∧ v6 = .int .i64 kk ∧ im < n ∧ Aside0 (PcF w base xs im m M2 e2 M3 e3) ∧ Aside0 (Below w.heap.size w wr) ∧ Aside0 (wr.heap[g5]? = some (.cells #[.int .i64 m.f0,.int .i64 m.f1,.slice M2 m.f2.length e2,.slice M3 m.f3.length e3] 36 (0,0))) ∧ Aside0 (wr.heap[g4]? = some (.cells #[.int .i64 0,.int .i64 0,.slice none 0 0,.slice none 0 0] 36 (0,0))) ∧ Aside0 (LeastTo T im kk))
 case atStart => exact ⟨1,0,m,M2,e2,M3,e3,by omega,by omega,rfl,hpos,HP0,⟨hb3⟩,⟨hk5⟩,⟨hk4⟩,⟨minStep (im:=0) (fun j hj => by omega) (by have h_:=cb_neg (T 0).data.toList (T 0).data.toList; omega) (.inl rfl)⟩⟩
 case round =>
  clear hb3 hk5 hk4 HP0
  obtain ⟨kk,im,m,M2,e2,M3,e3,hkk,hgm,rfl,him,PM,BW,K5,K4,HL⟩:=hrel
  by_cases hkn:kk < n
  ·have hltz:(kk:Int) < (n:Int):=by omega
   obtain ⟨y,Y2,d2,Y3,d3,hPY,hx0,hx1,hx2,hx3⟩:=HPC.out wr BW.out kk hkn
   have PY:=am_ hPY
   have HCM:=am_ (HCC.out kk im y m Y2 d2 Y3 d3 M2 e2 M3 e3 hPY PM.out)
   clear hPY
   have hm0:wr.cell? ⟨g5,0,none⟩ = some (.int .i64 m.f0):=(bc_ K5.out 0).trans rfl
   have hm1:wr.cell? ⟨g5,1,none⟩ = some (.int .i64 m.f1):=(bc_ K5.out 1).trans rfl
   have hm2:wr.cell? ⟨g5,2,none⟩ = some (.slice M2 m.f2.length e2):=(bc_ K5.out 2).trans rfl
   have hm3:wr.cell? ⟨g5,3,none⟩ = some (.slice M3 m.f3.length e3):=(bc_ K5.out 3).trans rfl
   by_cases hq:Lib.compareBytes (T kk).data.toList (T im).data.toList < 0
   ·skip
    have HQ:=am_ hq
    have hqd:decide (Lib.compareBytes (T kk).data.toList (T im).data.toList < 0) = true:=decide_eq_true hq
    go_wp2
    go_region_held3 (fun w' => w'.cell? (ad.add (kk * 4)) = some (.int .i64 y.f0) ∧ w'.cell? ⟨(ad.add (kk * 4)).block,(ad.add (kk * 4)).off + 1,none⟩ = some (.int .i64 y.f1) ∧ w'.cell? ⟨(ad.add (kk * 4)).block,(ad.add (kk * 4)).off + 2,none⟩ = some (.slice Y2 y.f2.length d2) ∧ w'.cell? ⟨(ad.add (kk * 4)).block,(ad.add (kk * 4)).off + 3,none⟩ = some (.slice Y3 y.f3.length d3) ∧ w'.cell? ⟨g5,0,none⟩ = some (.int .i64 m.f0) ∧ w'.cell? ⟨g5,1,none⟩ = some (.int .i64 m.f1) ∧ w'.cell? ⟨g5,2,none⟩ = some (.slice M2 m.f2.length e2) ∧ w'.cell? ⟨g5,3,none⟩ = some (.slice M3 m.f3.length e3))
     (first | exact ⟨hx0,hx1,hx2,hx3,hm0,hm1,hm2,hm3⟩ | (go_split_ands; exact ⟨hcell hbA (by assumption),hcell hbA (by assumption),hcell hbA (by assumption),hcell hbA (by assumption),hcell hbA (by assumption),hcell hbA (by assumption),hcell hbA (by assumption),hcell hbA (by assumption)⟩))
     ((first | (go_at_call 74; refine (HCM.out _ (below_drew1 BW.out)).mono ?_; rintro e wA ⟨rfl,hbA⟩)))
    go_split_ands
    have BW2:=am_ (below_step (below_drew1 BW.out) hbA)
    have K52:=am_ (blk_below (blk_drew K5.out) hbA)
    have K42:=am_ (blk_below (blk_drew K4.out) hbA)
    have hbr:=below_step (below_drew1 (Below.refl wr.heap.size wr)) hbA
    have hxA0:=hcell hbr hx0
    have hxA1:=hcell hbr hx1
    have hxA2:=hcell hbr hx2
    have hxA3:=hcell hbr hx3
    clear hm0 hm1 hm2 hm3 hx0 hx1 hx2 hx3 BW K5 K4 hbA hbr
    have hm0:wA.cell? ⟨g5,0,none⟩ = some (.int .i64 m.f0):=(bc_ K52.out 0).trans rfl
    have hm1:wA.cell? ⟨g5,1,none⟩ = some (.int .i64 m.f1):=(bc_ K52.out 1).trans rfl
    have hm2:wA.cell? ⟨g5,2,none⟩ = some (.slice M2 m.f2.length e2):=(bc_ K52.out 2).trans rfl
    have hm3:wA.cell? ⟨g5,3,none⟩ = some (.slice M3 m.f3.length e3):=(bc_ K52.out 3).trans rfl
    have hf0:=bz_ K52.out 0
    have hf1:=bz_ K52.out 1
    have hf2:=bz_ K52.out 2
    have hf3:=bz_ K52.out 3
    go_wp2
    go_roundg (n - (kk + 1))
    case measure => omega
    case rel => exact ⟨kk + 1,kk,y,Y2,d2,Y3,d3,by omega,by omega,by go_num,hkn,PY,⟨below_set (j:=3) (v:=.slice Y3 y.f3.length d3) (below_set (j:=2) (v:=.slice Y2 y.f2.length d2) (below_set (j:=1) (v:=.int .i64 y.f1) (below_set (j:=0) (v:=.int .i64 y.f0) BW2.out (Nat.le_of_lt HG5.out.1)) (Nat.le_of_lt HG5.out.1)) (Nat.le_of_lt HG5.out.1)) (Nat.le_of_lt HG5.out.1)⟩,⟨blk_put (cs:=#[.int .i64 y.f0,.int .i64 y.f1,.slice Y2 y.f2.length d2,.slice M3 m.f3.length e3]) (blk_put (cs:=#[.int .i64 y.f0,.int .i64 y.f1,.slice M2 m.f2.length e2,.slice M3 m.f3.length e3]) (blk_put (cs:=#[.int .i64 y.f0,.int .i64 m.f1,.slice M2 m.f2.length e2,.slice M3 m.f3.length e3]) (blk_put (cs:=#[.int .i64 m.f0,.int .i64 m.f1,.slice M2 m.f2.length e2,.slice M3 m.f3.length e3]) K52.out 0 (.int .i64 y.f0) rfl) 1 (.int .i64 y.f1) rfl) 2 (.slice Y2 y.f2.length d2) rfl) 3 (.slice Y3 y.f3.length d3) rfl⟩,⟨blk_far (p:=⟨g5,3,none⟩) (blk_far (p:=⟨g5,2,none⟩) (blk_far (p:=⟨g5,1,none⟩) (blk_far (p:=⟨g5,0,none⟩) K42.out (Nat.ne_of_lt HG5.out.2) (.int .i64 y.f0)) (Nat.ne_of_lt HG5.out.2) (.int .i64 y.f1)) (Nat.ne_of_lt HG5.out.2) (.slice Y2 y.f2.length d2)) (Nat.ne_of_lt HG5.out.2) (.slice Y3 y.f3.length d3)⟩,⟨minStep HL.out (Int.le_of_lt HQ.out) (.inl rfl)⟩⟩
   ·skip
    have HQ:=am_ hq
    have hqd:decide (Lib.compareBytes (T kk).data.toList (T im).data.toList < 0) = false:=decide_eq_false hq
    go_wp2
    go_region_held3 (fun w' => w'.cell? (ad.add (kk * 4)) = some (.int .i64 y.f0) ∧ w'.cell? ⟨(ad.add (kk * 4)).block,(ad.add (kk * 4)).off + 1,none⟩ = some (.int .i64 y.f1) ∧ w'.cell? ⟨(ad.add (kk * 4)).block,(ad.add (kk * 4)).off + 2,none⟩ = some (.slice Y2 y.f2.length d2) ∧ w'.cell? ⟨(ad.add (kk * 4)).block,(ad.add (kk * 4)).off + 3,none⟩ = some (.slice Y3 y.f3.length d3) ∧ w'.cell? ⟨g5,0,none⟩ = some (.int .i64 m.f0) ∧ w'.cell? ⟨g5,1,none⟩ = some (.int .i64 m.f1) ∧ w'.cell? ⟨g5,2,none⟩ = some (.slice M2 m.f2.length e2) ∧ w'.cell? ⟨g5,3,none⟩ = some (.slice M3 m.f3.length e3))
     (first | exact ⟨hx0,hx1,hx2,hx3,hm0,hm1,hm2,hm3⟩ | (go_split_ands; exact ⟨hcell hbA (by assumption),hcell hbA (by assumption),hcell hbA (by assumption),hcell hbA (by assumption),hcell hbA (by assumption),hcell hbA (by assumption),hcell hbA (by assumption),hcell hbA (by assumption)⟩))
     ((first | (go_at_call 74; refine (HCM.out _ (below_drew1 BW.out)).mono ?_; rintro e wA ⟨rfl,hbA⟩)))
    go_split_ands
    have BW2:=am_ (below_step (below_drew1 BW.out) hbA)
    have K52:=am_ (blk_below (blk_drew K5.out) hbA)
    have K42:=am_ (blk_below (blk_drew K4.out) hbA)
    have hbr:=below_step (below_drew1 (Below.refl wr.heap.size wr)) hbA
    have hxA0:=hcell hbr hx0
    have hxA1:=hcell hbr hx1
    have hxA2:=hcell hbr hx2
    have hxA3:=hcell hbr hx3
    clear hm0 hm1 hm2 hm3 hx0 hx1 hx2 hx3 BW K5 K4 hbA hbr
    have hm0:wA.cell? ⟨g5,0,none⟩ = some (.int .i64 m.f0):=(bc_ K52.out 0).trans rfl
    have hm1:wA.cell? ⟨g5,1,none⟩ = some (.int .i64 m.f1):=(bc_ K52.out 1).trans rfl
    have hm2:wA.cell? ⟨g5,2,none⟩ = some (.slice M2 m.f2.length e2):=(bc_ K52.out 2).trans rfl
    have hm3:wA.cell? ⟨g5,3,none⟩ = some (.slice M3 m.f3.length e3):=(bc_ K52.out 3).trans rfl
    have hf0:=bz_ K52.out 0
    have hf1:=bz_ K52.out 1
    have hf2:=bz_ K52.out 2
    have hf3:=bz_ K52.out 3
    go_wp2
    go_roundg (n - (kk + 1))
    case measure => omega
    case rel => exact ⟨kk + 1,im,m,M2,e2,M3,e3,by omega,by omega,by go_num,him,PM,BW2,K52,K42,⟨minKeep HL.out (by have h_:=HQ.out; omega)⟩⟩
  ·have hltz:¬ (kk:Int) < (n:Int):=by omega
   have:kk = n:=by omega
   subst this
   have hm0:wr.cell? ⟨g5,0,none⟩ = some (.int .i64 m.f0):=(bc_ K5.out 0).trans rfl
   have hm1:wr.cell? ⟨g5,1,none⟩ = some (.int .i64 m.f1):=(bc_ K5.out 1).trans rfl
   have hm2:wr.cell? ⟨g5,2,none⟩ = some (.slice M2 m.f2.length e2):=(bc_ K5.out 2).trans rfl
   have hm3:wr.cell? ⟨g5,3,none⟩ = some (.slice M3 m.f3.length e3):=(bc_ K5.out 3).trans rfl
   have hz0:wr.cell? ⟨g4,0,none⟩ = some (.int .i64 0):=(bc_ K4.out 0).trans rfl
   have hz1:wr.cell? ⟨g4,1,none⟩ = some (.int .i64 0):=(bc_ K4.out 1).trans rfl
   have hz2:wr.cell? ⟨g4,2,none⟩ = some (.slice none 0 0):=(bc_ K4.out 2).trans rfl
   have hz3:wr.cell? ⟨g4,3,none⟩ = some (.slice none 0 0):=(bc_ K4.out 3).trans rfl
   have hf0:=bz_ K4.out 0
   have hf1:=bz_ K4.out 1
   have hf2:=bz_ K4.out 2
   have hf3:=bz_ K4.out 3
   go_wp2
   refine bodyPost_ret (results_cell_row rfl _ _ g4 36 #[.int .i64 m.f0,.int .i64 m.f1,.slice M2 m.f2.length e2,.slice M3 m.f3.length e3] (0,0) _ rfl (blk_put (cs:=#[.int .i64 m.f0,.int .i64 m.f1,.slice M2 m.f2.length e2,.slice none 0 0]) (blk_put (cs:=#[.int .i64 m.f0,.int .i64 m.f1,.slice none 0 0,.slice none 0 0]) (blk_put (cs:=#[.int .i64 m.f0,.int .i64 0,.slice none 0 0,.slice none 0 0]) (blk_put (cs:=#[.int .i64 0,.int .i64 0,.slice none 0 0,.slice none 0 0]) K4.out 0 (.int .i64 m.f0) rfl) 1 (.int .i64 m.f1) rfl) 2 (.slice M2 m.f2.length e2) rfl) 3 (.slice M3 m.f3.length e3) rfl) Tryd.underlying36 rfl (by kernel_rfl)) rfl ?_
   exact ⟨im,m,M2,e2,M3,e3,rfl,PM.out,HL.out,below_set (j:=3) (v:=.slice M3 m.f3.length e3) (below_set (j:=2) (v:=.slice M2 m.f2.length e2) (below_set (j:=1) (v:=.int .i64 m.f1) (below_set (j:=0) (v:=.int .i64 m.f0) BW.out (Nat.le_of_eq HG4.out.symm)) (Nat.le_of_eq HG4.out.symm)) (Nat.le_of_eq HG4.out.symm)) (Nat.le_of_eq HG4.out.symm)⟩


def fstTo_T7:Bool × List (List Nat × List Nat):=(true,[([],[]),([],[]),([1],[1]),([],[]),([3,2],[3]),([],[]),([4,5],[4,5]),([2,6,4],[2,6]),([7],[7]),([0,8,7],[0,8]),([9,9,0,1,2,3,4,5,6,7,8,9],[0,9])])
def fstTo_B7:List Nat:=[0,0,2,0,14,0,62,126,254,511,1023]
theorem fstTo_tab7:rtab .any (opsOf Tryd.f29 7) = fstTo_T7:=by kernel_rfl
theorem fstTo_bits7:waitsOk fstTo_T7.2 fstTo_B7 = true:=by kernel_rfl
theorem figApp_M {w2:World} {b B:Nat} {x:S36} {v2 v3:Value} (h2:Kd.R (Kd.int .i64) 3 w2 B (fun k_ => some k_ ≠ v3.ownBlock) v2 x.f2) (h3:Kd.R (Kd.int .i64) 3 w2 B (fun k_ => some k_ ≠ v2.ownBlock) v3 x.f3) (hb:b ≤ B) :
  kF.M w2 b (fun k => some k = v2.ownBlock ∨ some k = v3.ownBlock) x [.int .i64 x.f0,.int .i64 x.f1,v2,v3] :=
 kF_mkM w2 b _ x (Kd.R_lower (Kd.R_mono (Kd.R_tight rfl h2) (fun k hk => .inl hk)) hb) (Kd.R_lower (Kd.R_mono (Kd.R_tight rfl h3) (fun k hk => .inr hk)) hb) (fun k hk => h2.1 k hk.symm)
theorem figApp_ne {w2:World} {B:Nat} {x:S36} {v2 v3 u:Value} (h2:Kd.R (Kd.int .i64) 3 w2 B (fun k_ => some k_ ≠ v3.ownBlock) v2 x.f2) (h3:Kd.R (Kd.int .i64) 3 w2 B (fun k_ => some k_ ≠ v2.ownBlock) v3 x.f3) (hu:∀ k,u.ownBlock = some k → k < B) (k:Nat) (hk:some k = v2.ownBlock ∨ some k = v3.ownBlock):some k ≠ u.ownBlock:=fun h => by
 have h5:=hu k h.symm
 rcases hk with hk | hk
 ·have:=Kd.R_base h2 k hk.symm; omega
 ·have:=Kd.R_base h3 k hk.symm; omega
theorem figApp_not {w2:World} {B:Nat} {x:S36} {v2 v3:Value} (h2:Kd.R (Kd.int .i64) 3 w2 B (fun k_ => some k_ ≠ v3.ownBlock) v2 x.f2) (h3:Kd.R (Kd.int .i64) 3 w2 B (fun k_ => some k_ ≠ v2.ownBlock) v3 x.f3) (k:Nat) (hk:k < B):¬ (some k = v2.ownBlock ∨ some k = v3.ownBlock):=fun h => by
 rcases h with h | h
 ·have:=Kd.R_base h2 k h.symm; omega
 ·have:=Kd.R_base h3 k h.symm; omega
set_option maxRecDepth 100000 in
set_option maxHeartbeats 16000000 in
theorem fstTo_no (k:Nat) (a0 a1:Int) (A2:Option Addr) (c2:Nat) (l2:List Int) (A3:Option Addr) (c3:Nat) (l3:List Int) (w:World) (hr2:Kd.C (Kd.int .i64) w A2 l2.length l2) (hc2:l2.length ≤ c2) (hr3:Kd.C (Kd.int .i64) w A3 l3.length l3) (hc3:l3.length ≤ c3) (hF:impl_isFew.f k a0 a1 l2 l3 = some false) :
  Calls Tryd.prog 29 #[.agg #[.int .i64 a0,.int .i64 a1,.slice A2 l2.length c2,.slice A3 l3.length c3]] w fun e w' => e = .returned (.tuple #[.agg #[.int .i64 0,.int .i64 0,.slice none 0 0,.slice none 0 0],.bool false]) ∧ Below w.heap.size w w':=by
 have HF:Aside0 (∀ W,Below w.heap.size w W → Calls Tryd.prog 46 #[.agg #[.int .i64 a0,.int .i64 a1,.slice A2 l2.length c2,.slice A3 l3.length c3]] W fun e w' => e = .returned (.bool false) ∧ Below W.heap.size W w') :=
  ⟨fun W hB => impl_isFew.calls k a0 a1 A2 c2 l2 A3 c3 l3 false W (Kd.C_below hr2 hB) hc2 (Kd.C_below hr3 hB) hc3 hF⟩
 clear hr2 hc2 hr3 hc3 hF
 generalize l2.length = n2 at HF ⊢
 generalize l3.length = n3 at HF ⊢
 go_enter Tryd.func29,Tryd.ntmps29
 go_wp2_with (go_at_call 46; refine (HF.out _ (below_alloc (below_alloc (Below.refl _ _) _) _)).mono ?_; rintro e w1 ⟨rfl,hb⟩; have BRr0:=blk_below (heap_alloc_new (w.alloc (.cells #[.int .i64 a0,.int .i64 a1,.slice A2 n2 c2,.slice A3 n3 c3] 36)) (.cells #[.int .i64 0,.int .i64 0,.slice none 0 0,.slice none 0 0] 36)) hb; rw [show (w.alloc (.cells #[.int .i64 a0,.int .i64 a1,.slice A2 n2 c2,.slice A3 n3 c3] 36)).heap.size = w.heap.size + 1 from by simp] at BRr0; have BRZ:=am_ BRr0; have BKZ:=am_ (blk_below (blk_alloc (heap_alloc_new w (.cells #[.int .i64 a0,.int .i64 a1,.slice A2 n2 c2,.slice A3 n3 c3] 36)) (.cells #[.int .i64 0,.int .i64 0,.slice none 0 0,.slice none 0 0] 36)) hb); have HB1:=am_ (below_step (below_alloc (below_alloc (Below.refl w.heap.size w) (.cells #[.int .i64 a0,.int .i64 a1,.slice A2 n2 c2,.slice A3 n3 c3] 36)) (.cells #[.int .i64 0,.int .i64 0,.slice none 0 0,.slice none 0 0] 36)) hb); have hs0:w1.cell? ⟨w.heap.size + 1,0,none⟩ = some (.int .i64 0):=(bc_ BRr0 0).trans rfl; have hs1:w1.cell? ⟨w.heap.size + 1,1,none⟩ = some (.int .i64 0):=(bc_ BRr0 1).trans rfl; have hs2:w1.cell? ⟨w.heap.size + 1,2,none⟩ = some (.slice none 0 0):=(bc_ BRr0 2).trans rfl; have hs3:w1.cell? ⟨w.heap.size + 1,3,none⟩ = some (.slice none 0 0):=(bc_ BRr0 3).trans rfl; have hf0:=bz_ BRr0 0; have hf1:=bz_ BRr0 1; have hf2:=bz_ BRr0 2; have hf3:=bz_ BRr0 3; clear hb BRr0)
 have K9:=blk_put (cs:=#[.int .i64 0,.int .i64 0,.slice none 0 0,.slice none 0 0]) (blk_put (cs:=#[.int .i64 0,.int .i64 0,.slice none 0 0,.slice none 0 0]) (blk_put (cs:=#[.int .i64 0,.int .i64 0,.slice none 0 0,.slice none 0 0]) (blk_put (cs:=#[.int .i64 0,.int .i64 0,.slice none 0 0,.slice none 0 0]) BRZ.out 0 (.int .i64 0) rfl) 1 (.int .i64 0) rfl) 2 (.slice none 0 0) rfl) 3 (.slice none 0 0) rfl
 have HB9:=below_set (j:=3) (v:=.slice none 0 0) (below_set (j:=2) (v:=.slice none 0 0) (below_set (j:=1) (v:=.int .i64 0) (below_set (j:=0) (v:=.int .i64 0) HB1.out (Nat.le_succ _)) (Nat.le_succ _)) (Nat.le_succ _)) (Nat.le_succ _)
 refine bodyPost_ret (results_ct rfl _ _ (w.heap.size + 1) 36 #[.int .i64 0,.int .i64 0,.slice none 0 0,.slice none 0 0] (0,0) _ rfl K9 Tryd.underlying36 rfl (by kernel_rfl)) rfl ?_
 exact ⟨rfl,HB9⟩
set_option maxRecDepth 100000 in
set_option maxHeartbeats 16000000 in
theorem fstTo_yes (k:Nat) (a0 a1:Int) (A2:Option Addr) (c2:Nat) (l2:List Int) (A3:Option Addr) (c3:Nat) (l3:List Int) (qs:List S118) (K M:Nat) (F:Nat → S36) (T:Nat → ByteArray) (R:S36) (w:World) (hr2:Kd.C (Kd.int .i64) w A2 l2.length l2) (hc2:l2.length ≤ c2) (hr3:Kd.C (Kd.int .i64) w A3 l3.length l3) (hc3:l3.length ≤ c3)
  (hF:impl_isFew.f k a0 a1 l2 l3 = some true) (hQ:impl_Figure_squares.f k a0 a1 l2 l3 = some qs) (hq:∀ q ∈ qs,0 ≤ q.f3 ∧ q.f3 < 2 ^ 40) (hql:qs.length ≤ 1000000) (hK:K ≤ 64) (hne:hitW (qs.map fun q => q.f3.toNat) K 0 ≠ []) (hmin:∀ j,j < K → hitW (qs.map fun q => q.f3.toNat) j 0 = []) (hset:impl_Figure_set.f k a0 a1 l2 l3 = some (M:Int)) (hM:M < 2 ^ 60)
  (hFz:∀ z ∈ hitW (qs.map fun q => q.f3.toNat) K 0,impl_grid_figure.f a0 a1 ((diffN M z:Nat):Int) = some ((F z).f0,(F z).f1,(F z).f2,(F z).f3)) (hTz:∀ z ∈ hitW (qs.map fun q => q.f3.toNat) K 0,impl_figureText.f k (F z).f0 (F z).f1 (F z).f2 (F z).f3 = some (T z))
  (hR:∀ z ∈ hitW (qs.map fun q => q.f3.toNat) K 0,(∀ y ∈ hitW (qs.map fun q => q.f3.toNat) K 0,¬ Lib.compareBytes (T y).data.toList (T z).data.toList < 0) → F z = R) (hT:TB w) :
  Calls Tryd.prog 29 #[.agg #[.int .i64 a0,.int .i64 a1,.slice A2 l2.length c2,.slice A3 l3.length c3]] w fun e w' => ∃ v2 v3:Value,e = .returned (.tuple #[.agg #[.int .i64 R.f0,.int .i64 R.f1,v2,v3],.bool true]) ∧ Kd.R (Kd.int .i64) 3 w' w.heap.size (fun k_ => some k_ ≠ (v3:Value).ownBlock) v2 R.f2 ∧ Kd.R (Kd.int .i64) 3 w' w.heap.size (fun k_ => some k_ ≠ (v2:Value).ownBlock) v3 R.f3 ∧ Below w.heap.size w w':=by
 have hi26:(Tryd.prog.info? 36).map (fun i => (i.zero,i.size,i.bytes)) = some (some (.agg #[.int .i64 0,.int .i64 0,.slice none 0 0,.slice none 0 0]),4,64):=by kernel_rfl
 have HF:Aside0 (∀ W,Below w.heap.size w W → Calls Tryd.prog 46 #[.agg #[.int .i64 a0,.int .i64 a1,.slice A2 l2.length c2,.slice A3 l3.length c3]] W fun e w' => e = .returned (.bool true) ∧ Below W.heap.size W w') :=
  ⟨fun W hB => impl_isFew.calls k a0 a1 A2 c2 l2 A3 c3 l3 true W (Kd.C_below hr2 hB) hc2 (Kd.C_below hr3 hB) hc3 hF⟩
 have HGR0:Aside0 (∀ W,Below w.heap.size w W → Calls Tryd.prog 71 #[.agg #[.int .i64 a0,.int .i64 a1,.slice A2 l2.length c2,.slice A3 l3.length c3]] W fun e w' => e = .returned (.agg #[.int .i64 a0,.int .i64 a1]) ∧ Below W.heap.size W w'):=⟨fun W hB => impl_Figure_grid.calls a0 a1 A2 c2 l2 A3 c3 l3 a0 a1 W (Kd.C_below hr2 hB) hc2 (Kd.C_below hr3 hB) hc3 rfl⟩
 have HSE0:Aside0 (∀ W,Below w.heap.size w W → Calls Tryd.prog 72 #[.agg #[.int .i64 a0,.int .i64 a1,.slice A2 l2.length c2,.slice A3 l3.length c3]] W fun e w' => e = .returned (.int .u64 (M:Int)) ∧ Below W.heap.size W w'):=⟨fun W hB => impl_Figure_set.calls k a0 a1 A2 c2 l2 A3 c3 l3 (M:Int) W (Kd.C_below hr2 hB) hc2 (Kd.C_below hr3 hB) hc3 hset⟩
 have HTT:Aside0 (∀ W,Below w.heap.size w W → Calls Tryd.prog 47 #[.agg #[.int .i64 a0,.int .i64 a1,.slice A2 l2.length c2,.slice A3 l3.length c3]] W fun e w' => ∃ (v:Value) (l:List Nat),e = .returned v ∧ Kd.R (Kd.int .u64) 56 w' W.heap.size (fun _ => True) v (ints l) ∧ l.Perm (addS [] (hitW (qs.map fun q => q.f3.toNat) K 0)) ∧ Below W.heap.size W w'):=⟨fun W hB => toTake_any k a0 a1 A2 c2 l2 A3 c3 l3 qs W (Kd.C_below hr2 hB) hc2 (Kd.C_below hr3 hB) hc3 hQ hq hql K hK hne hmin (hT.below hB)⟩
 have HTB:=am_ hT
 have HHL:Aside0 (∀ l:List Nat,l.Perm (addS [] (hitW (qs.map fun q => q.f3.toNat) K 0)) → 0 < l.length ∧ l.length ≤ 2 ^ 40 ∧ (∀ z,z ∈ l ↔ z ∈ hitW (qs.map fun q => q.f3.toNat) K 0) ∧ ∀ z ∈ l,z < 2 ^ 60):=⟨fun l hp => by
  have hL40:∀ s ∈ qs.map (fun q => q.f3.toNat),s < 2 ^ 40:=fun s hs => by
   obtain ⟨q,hqm,rfl⟩:=List.mem_map.1 hs
   have:=hq q hqm
   omega
  have hm:∀ z,z ∈ l ↔ z ∈ hitW (qs.map fun q => q.f3.toNat) K 0:=fun z => by
   rw [hp.mem_iff,addS_mem]
   simp
  have hlt:∀ z ∈ l,z < 2 ^ 40:=fun z hz => hitW_ltN hL40 K 0 (by decide) z ((hm z).1 hz)
  refine ⟨?_,?_,hm,fun z hz => Nat.lt_of_lt_of_le (hlt z hz) (Nat.pow_le_pow_right (by omega) (by omega))⟩
  ·cases l with
   | nil =>
    exfalso
    cases hw:hitW (qs.map fun q => q.f3.toNat) K 0 with
    | nil => exact hne hw
    | cons a t => have:=(hm a).2 (by rw [hw]; exact List.mem_cons_self); cases this
   | cons a t => simp
  ·exact nodup_len _ _ (hp.nodup_iff.2 (addS_nodup _ _ List.nodup_nil)) hlt⟩
 have HFZ:=am_ hFz
 have HTZ:=am_ hTz
 have HRR:=am_ hR
 have HM:=am_ hM
 clear hr2 hc2 hr3 hc3 hF hQ hq hql hK hne hmin hset hM hFz hTz hR hT
 generalize l2.length = n2 at HF HGR0 HSE0 HTT ⊢
 generalize l3.length = n3 at HF HGR0 HSE0 HTT ⊢
 generalize hitW (qs.map fun q => q.f3.toNat) K 0 = HW at HTT HHL HFZ HTZ HRR
 go_enter Tryd.func29,Tryd.ntmps29
 go_wp2_with fail
 go_at_call 46
 refine (HF.out _ (below_alloc (below_alloc (Below.refl _ _) _) _)).mono ?_
 rintro e w1 ⟨rfl,hb⟩
 have BRr0:=blk_below (heap_alloc_new (w.alloc (.cells #[.int .i64 a0,.int .i64 a1,.slice A2 n2 c2,.slice A3 n3 c3] 36)) (.cells #[.int .i64 0,.int .i64 0,.slice none 0 0,.slice none 0 0] 36)) hb
 rw [show (w.alloc (.cells #[.int .i64 a0,.int .i64 a1,.slice A2 n2 c2,.slice A3 n3 c3] 36)).heap.size = w.heap.size + 1 from by simp] at BRr0
 have BRZ:=am_ BRr0
 have BKZ:=am_ (blk_below (blk_alloc (heap_alloc_new w (.cells #[.int .i64 a0,.int .i64 a1,.slice A2 n2 c2,.slice A3 n3 c3] 36)) (.cells #[.int .i64 0,.int .i64 0,.slice none 0 0,.slice none 0 0] 36)) hb)
 have HB1:=am_ (below_step (below_alloc (below_alloc (Below.refl w.heap.size w) (.cells #[.int .i64 a0,.int .i64 a1,.slice A2 n2 c2,.slice A3 n3 c3] 36)) (.cells #[.int .i64 0,.int .i64 0,.slice none 0 0,.slice none 0 0] 36)) hb)
 have hz1:=hb.size
 have q0:w1.cell? ⟨w.heap.size,0,none⟩ = some (.int .i64 a0):=(bc_ BKZ.out 0).trans rfl
 have q1:w1.cell? ⟨w.heap.size,1,none⟩ = some (.int .i64 a1):=(bc_ BKZ.out 1).trans rfl
 have q2:w1.cell? ⟨w.heap.size,2,none⟩ = some (.slice A2 n2 c2):=(bc_ BKZ.out 2).trans rfl
 have q3:w1.cell? ⟨w.heap.size,3,none⟩ = some (.slice A3 n3 c3):=(bc_ BKZ.out 3).trans rfl
 have qa0:=pw_cell_below (below_alloc (Below.refl w1.heap.size w1) (.cells #[] 36)) q0
 have qa1:=pw_cell_below (below_alloc (Below.refl w1.heap.size w1) (.cells #[] 36)) q1
 have qa2:=pw_cell_below (below_alloc (Below.refl w1.heap.size w1) (.cells #[] 36)) q2
 have qa3:=pw_cell_below (below_alloc (Below.refl w1.heap.size w1) (.cells #[] 36)) q3
 have HZ1:Aside0 (w.heap.size + 2 ≤ w1.heap.size):=⟨by simp at hz1; omega⟩
 clear hb BRr0 hz1 HF
 go_wp2_with fail
 go_at_call 47
 refine (HTT.out _ (below_alloc HB1.out _)).mono ?_
 rintro e w5 ⟨vT,l,rfl,hrT,hpT,hb⟩
 obtain ⟨AT,cT,rfl⟩:=Kd.R_slice hrT
 obtain ⟨hl0,hl40,hlm,hl60⟩:=HHL.out l hpT
 have HLM:=am_ hlm
 have HL60:=am_ hl60
 have hb15:Below w1.heap.size w1 w5:=below_step (below_alloc (Below.refl w1.heap.size w1) _) hb
 have HS0:Aside0 (Kd.S kF 36 w5 (w.heap.size + 2) (fun _ => True) (.slice (some ⟨w1.heap.size,0,none⟩) 0 0) ((l.take 0).map F)):=⟨Kd.S_below ⟨fun _ => 0,by
  have h:=Kd.R_mono (R_lit0 (Kd.tag (fun _ => 0) kF) 36 w1 (w.heap.size + 2) HZ1.out) (fun _ _ => trivial)
  simpa using h⟩ hb⟩
 have HMR0:Aside0 (Kd.R (Kd.int .u64) 56 w5 0 (fun _ => True) (.slice AT (ints l).length cT) (ints l)):=⟨Kd.R_lower hrT (Nat.zero_le _)⟩
 have HBZ0:Aside0 (Below (w.heap.size + 2) w1 w5):=⟨hb15.mono HZ1.out⟩
 have HIL:Aside0 ((ints l).length = l.length):=⟨ints_len l⟩
 clear hrT hpT hb hlm hl60 hb15 q0 q1 q2 q3 qa0 qa1 qa2 qa3 HTT HHL
 obtain ⟨wz,hwz⟩:∃ wz,wz = w1:=⟨w1,rfl⟩
 rw [← hwz] at HBZ0 HB1 BRZ BKZ HZ1
 clear hwz
 generalize hnl:(ints l).length = n at HMR0 HIL ⊢
 clear hnl
 have hn0:0 < n:=by have:=HIL.out; omega
 have hn40:n ≤ 1099511627776:=by have:=HIL.out; omega
 clear hl0 hl40
 go_wp2_with fail
 go_loopg [4,15] (n + 1) (fun gg u4 u15 wr => ∃ i:Nat,i ≤ n ∧ n + 1 - i ≤ gg ∧ u15 = .int .i64 i ∧ Aside0 (Kd.S kF 36 wr (w.heap.size + 2) (fun _ => True) u4 ((l.take i).map F)) ∧ Aside0 (Kd.R (Kd.int .u64) 56 wr 0 (fun _ => True) (.slice AT n cT) (ints l)) ∧ Aside0 (Below (w.heap.size + 2) wz wr))
 case atStart => exact ⟨0,Nat.zero_le _,Nat.le_refl _,rfl,HS0,HMR0,HBZ0⟩
 case round =>
  clear HS0 HMR0 HBZ0
  obtain ⟨i,hin,hgg,rfl,HS1,HMR1,HBZ1⟩:=hrel
  have HB2:Aside0 (Below w.heap.size w wr):=⟨HB1.out.trans (HBZ1.out.mono (by omega))⟩
  by_cases hlt:i < n
  ·have hlz:(i:Int) < (n:Int):=by omega
   have hi:i < l.length:=by have:=HIL.out; omega
   obtain ⟨ad,eA,hcellm⟩:=Kd.at_int (Kd.R_reads' HMR1.out).2.2 (i:Int) (by omega) (by have:=HIL.out; rw [ints_len]; omega)
   have hrd:rd (ints l) (i:Int) = ((l[i]:Nat):Int):=by
    unfold rd ints
    rw [Int.toNat_natCast,List.getD_eq_getElem?_getD,List.getElem?_map,List.getElem?_eq_getElem hi]; rfl
   rw [hrd,Int.toNat_natCast] at hcellm
   have hmem:l[i] ∈ l:=List.getElem_mem hi
   have HFm:=am_ (HFZ.out _ ((HLM.out _).1 hmem))
   have HAN:=andNot_u64 M l[i] HM.out (HL60.out _ hmem)
   have HTK:Aside0 ((l.take (i + 1)).map F = (l.take i).map F ++ [F l[i]]):=⟨by rw [List.take_succ_eq_append_getElem hi,List.map_append]; rfl⟩
   have HLT:Aside0 (((l.take i).map F).length ≤ 1099511627776):=⟨by rw [List.length_map,List.length_take]; omega⟩
   clear hrd hmem
   generalize l[i] = z at hcellm HFm HTK HAN
   subst eA
   have e1:IntKind.i64.wrap ((i:Int) + 1) = (i:Int) + 1:=IntWalk.i64_in _ (by omega)
   generalize (l.take i).map F = X at HS1 HTK HLT
   have HFG0:Aside0 (∀ W,Below w.heap.size w W → Calls Tryd.prog 56 #[.agg #[.int .i64 a0,.int .i64 a1],.int .u64 ((diffN M z:Nat):Int)] W fun e w' => ∃ v2_ v3_:Value,e = .returned (.agg #[.int .i64 (F z).f0,.int .i64 (F z).f1,v2_,v3_]) ∧ Kd.R (Kd.int .i64) 3 w' W.heap.size (fun k_ => some k_ ≠ (v3_:Value).ownBlock) v2_ (F z).f2 ∧ Kd.R (Kd.int .i64) 3 w' W.heap.size (fun k_ => some k_ ≠ (v2_:Value).ownBlock) v3_ (F z).f3 ∧ Below W.heap.size W w'):=⟨fun W hB => impl_grid_figure.calls a0 a1 _ _ _ _ _ W (HTB.out.below hB) HFm.out⟩
   go_wp2_with fail
   have BK:Aside0 (wr.drew.heap[w.heap.size]? = some (.cells #[.int .i64 a0,.int .i64 a1,.slice A2 n2 c2,.slice A3 n3 c3] 36 (0,0))):=⟨blk_drew ((HBZ1.out.block w.heap.size (by omega)).trans BKZ.out)⟩
   have HS:Aside0 (Kd.S kF 36 wr.drew (w.heap.size + 2) (fun _ => True) u4 X):=⟨Kd.S_drew HS1.out⟩
   have HMR:Aside0 (Kd.R (Kd.int .u64) 56 wr.drew 0 (fun _ => True) (.slice (some ad) n cT) (ints l)):=⟨Kd.R_drew HMR1.out⟩
   have HBZ:Aside0 (Below (w.heap.size + 2) wz wr.drew):=⟨below_drew HBZ1.out⟩
   have HZ5:Aside0 (w.heap.size + 2 ≤ wr.drew.heap.size):=⟨Nat.le_trans HZ1.out HBZ1.out.size⟩
   have HGR:Aside0 (∀ W,Below wr.drew.heap.size wr.drew W → Calls Tryd.prog 71 #[.agg #[.int .i64 a0,.int .i64 a1,.slice A2 n2 c2,.slice A3 n3 c3]] W fun e w' => e = .returned (.agg #[.int .i64 a0,.int .i64 a1]) ∧ Below W.heap.size W w'):=⟨fun W hB => HGR0.out W (below_step (below_drew HB2.out) hB)⟩
   have HSE:Aside0 (∀ W,Below wr.drew.heap.size wr.drew W → Calls Tryd.prog 72 #[.agg #[.int .i64 a0,.int .i64 a1,.slice A2 n2 c2,.slice A3 n3 c3]] W fun e w' => e = .returned (.int .u64 (M:Int)) ∧ Below W.heap.size W w'):=⟨fun W hB => HSE0.out W (below_step (below_drew HB2.out) hB)⟩
   have HFG:Aside0 (∀ W,Below wr.drew.heap.size wr.drew W → Calls Tryd.prog 56 #[.agg #[.int .i64 a0,.int .i64 a1],.int .u64 ((diffN M z:Nat):Int)] W fun e w' => ∃ v2_ v3_:Value,e = .returned (.agg #[.int .i64 (F z).f0,.int .i64 (F z).f1,v2_,v3_]) ∧ Kd.R (Kd.int .i64) 3 w' W.heap.size (fun k_ => some k_ ≠ (v3_:Value).ownBlock) v2_ (F z).f2 ∧ Kd.R (Kd.int .i64) 3 w' W.heap.size (fun k_ => some k_ ≠ (v2_:Value).ownBlock) v3_ (F z).f3 ∧ Below W.heap.size W w'):=⟨fun W hB => HFG0.out W (below_step (below_drew HB2.out) hB)⟩
   clear HS1 HMR1 HBZ1 HB2 HFG0 HFm hcellm
   refine start_ (n:=11) (S:=fun w' => w'.cell? ⟨w.heap.size,0,none⟩ = some (.int .i64 a0) ∧ w'.cell? ⟨w.heap.size,1,none⟩ = some (.int .i64 a1) ∧ w'.cell? ⟨w.heap.size,2,none⟩ = some (.slice A2 n2 c2) ∧ w'.cell? ⟨w.heap.size,3,none⟩ = some (.slice A3 n3 c3)) (ds:=[]) #[false,false,false,false,false,false,false,false,false,false,false] (by kernel_rfl) rfl rfl ⟨(bc_ BK.out 0).trans rfl,(bc_ BK.out 1).trans rfl,(bc_ BK.out 2).trans rfl,(bc_ BK.out 3).trans rfl⟩ (fun hHeld => ?_)
   refine with_tabW fstTo_tab7 fstTo_bits7 (fun HT_ HW_ => ?_)
   generalize wr.drew = W5 at BK HS HMR HBZ HZ5 HGR HSE HFG hHeld ⊢
   have hS:∀ w',Below W5.heap.size W5 w' → w'.cell? ⟨w.heap.size,0,none⟩ = some (.int .i64 a0) ∧ w'.cell? ⟨w.heap.size,1,none⟩ = some (.int .i64 a1) ∧ w'.cell? ⟨w.heap.size,2,none⟩ = some (.slice A2 n2 c2) ∧ w'.cell? ⟨w.heap.size,3,none⟩ = some (.slice A3 n3 c3):=fun w' hb => ⟨(hb.cell (wl_ W5 _ (hHeld.1))).trans (hHeld.1),(hb.cell (wl_ W5 _ (hHeld.2.1))).trans (hHeld.2.1),(hb.cell (wl_ W5 _ (hHeld.2.2.1))).trans (hHeld.2.2.1),(hb.cell (wl_ W5 _ (hHeld.2.2.2))).trans (hHeld.2.2.2)⟩
   have HB5:Aside0 (Below W5.heap.size W5 W5):=⟨Below.refl _ _⟩
   refine pZ (i:=0) (N:=some 19) #[true,false,false,false,false,false,false,false,false,false,false] ?_
   refine pZ (i:=5) (N:=some 24) #[true,false,false,false,false,true,false,false,false,false,false] ?_
   refine tZ (i:=1) (N:=some 20) #[true,true,false,false,false,true,false,false,false,false,false] ?_
   refine tZ (i:=3) (N:=some 22) #[true,true,false,true,false,true,false,false,false,false,false] ?_
   refine one_ (i:=2) (N:=some 21) #[true,true,true,true,false,true,false,false,false,false,false] rfl rfl (one_of HT_.out (by kernel_rfl)) (by decide) (fun K hK => ?_)
   refine goes_ Tryd.func71 (by kernel_rfl) rfl #[.agg #[.int .i64 a0,.int .i64 a1,.slice A2 n2 c2,.slice A3 n3 c3]] (by rfl) rfl rfl (by (try simp only [List.map_toArray,List.map_cons,List.map_nil]); first | done | rfl) ?_
   with_reducible refine (HGR.out _ HB5.out).mono ?_
   rintro e v6 ⟨rfl,hb⟩
   refine ⟨_,rfl,?_⟩
   have n0_:=am_ (below_step HB5.out hb)
   clear HB5
   have HB5:=n0_
   clear n0_
   clear hb
   refine hK.out _ _ (hS _ HB5.out) (fun hHeld => ?_)
   clear hK K
   refine norm_ (a':=_) ap_ ?_
   refine one_ (i:=4) (N:=some 23) #[true,true,true,true,true,true,false,false,false,false,false] rfl rfl (one_of HT_.out (by kernel_rfl)) (by decide) (fun K hK => ?_)
   refine goes_ Tryd.func72 (by kernel_rfl) rfl #[.agg #[.int .i64 a0,.int .i64 a1,.slice A2 n2 c2,.slice A3 n3 c3]] (by rfl) rfl rfl (by (try simp only [List.map_toArray,List.map_cons,List.map_nil]); first | done | rfl) ?_
   with_reducible refine (HSE.out _ HB5.out).mono ?_
   rintro e v7 ⟨rfl,hb⟩
   refine ⟨_,rfl,?_⟩
   have n0_:=am_ (below_step HB5.out hb)
   clear HB5
   have HB5:=n0_
   clear n0_
   clear hb
   refine hK.out _ _ (hS _ HB5.out) (fun hHeld => ?_)
   clear hK K
   refine norm_ (a':=_) ap_ ?_
   refine pZ (i:=6) (N:=some 25) #[true,true,true,true,true,true,true,false,false,false,false] ?_
   refine one_ (i:=7) (N:=some 26) #[true,true,true,true,true,true,true,true,false,false,false] rfl rfl (one_of HT_.out (by kernel_rfl)) (by decide) (fun K hK => ?_)
   refine goes_ Tryd.func56 (by kernel_rfl) rfl #[.agg #[.int .i64 a0,.int .i64 a1],.int .u64 ((diffN M z:Nat):Int)] (by rfl) rfl rfl (by (try simp only [List.map_toArray,List.map_cons,List.map_nil]); first | done | rfl) ?_
   with_reducible refine (HFG.out _ HB5.out).mono ?_
   rintro e v8 ⟨v2,v3,rfl,r2,r3,hb⟩
   refine ⟨_,rfl,?_⟩
   have HSv:=HB5.out.size
   have PM:=figApp_M (x:=F z) r2 r3 (Nat.le_trans HZ5.out HSv)
   have PK:=figApp_ne (x:=F z) (u:=u4) r2 r3 (fun k hk => Nat.lt_of_lt_of_le (Kd.S_lt HS.out k hk) HSv)
   have PO:=figApp_not (x:=F z) r2 r3
   have R2:=am_ r2
   have R3:=am_ r3
   have n0_:=am_ (below_step HB5.out hb)
   clear HB5
   have HB5:=n0_
   clear n0_
   have HX2:Kd.S kF 36 v8 (w.heap.size + 2) (fun k => True ∧ ¬ (some k = v2.ownBlock ∨ some k = v3.ownBlock)) u4 X:=Kd.S_mono (Kd.S_below (Kd.S_mono (Kd.S_bound HS.out) (fun k hk => hk.2.2.1)) HB5.out) (fun k hk => ⟨trivial,PO k (Nat.lt_of_lt_of_le hk HSv)⟩)
   have HMR9:=am_ (Kd.R_below HMR.out HB5.out)
   clear hb r2 r3 PO HS HMR
   refine hK.out _ _ (hS _ HB5.out) (fun hHeld => ?_)
   clear hK K
   refine norm_ (a':=_) ap_ ?_
   refine one_ (i:=8) (N:=some 27) #[true,true,true,true,true,true,true,true,true,false,false] rfl rfl (one_of HT_.out (by kernel_rfl)) (by decide) (fun K hK => ?_)
   refine value_ (w1:=v8.alloc (.cells #[.int .i64 (F z).f0,.int .i64 (F z).f1,v2,v3] 36)) (v:=.slice (some ⟨v8.heap.size,0,none⟩) 1 1) (by rfl) rfl ?_ ?_
   ·first | (go_simp; done) | (go_simp; rfl)
   refine hK.out _ _ (hS _ (below_alloc HB5.out _)) (fun hHeld => ?_)
   clear hK K
   refine norm_ (a':=_) ap_ ?_
   refine one_ (i:=9) (N:=some 28) #[true,true,true,true,true,true,true,true,true,true,false] rfl rfl (one_of HT_.out (by kernel_rfl)) (by decide) (fun K hK => ?_)
   refine Kd.S_append_step kF (w0:=wz) (w.heap.size + 2) (by rfl) _ _ _ _ _ 64 rfl Tryd.underlying93 hi26 rfl (by decide) (by decide) u4 X (F z) [.int .i64 (F z).f0,.int .i64 (F z).f1,v2,v3] (fun _ => True) (fun k => some k = v2.ownBlock ∨ some k = v3.ownBlock) rfl rfl PM (fun k hk => ⟨trivial,PK k hk⟩) (fun _ _ => trivial) HX2 (HBZ.out.trans (HB5.out.mono HZ5.out)) (Nat.le_trans HZ5.out HB5.out.size) (by have h_:=HLT.out; omega) ?_
   intro v4 w4 hS hB hg hat
   have HS4:=am_ hS
   have HB4:=am_ hB
   have HMR4:=am_ (Kd.R_over' HMR9.out (Kd.S_typed HX2) (by decide) hg)
   have BK9:Aside0 (w4.heap[w.heap.size]? = some (.cells #[.int .i64 a0,.int .i64 a1,.slice A2 n2 c2,.slice A3 n3 c3] 36 (0,0))):=⟨(hB.block w.heap.size (by omega)).trans BKZ.out⟩
   clear hS hB hg hat PM PK HX2
   refine hK.out _ _ ⟨(bc_ BK9.out 0).trans rfl,(bc_ BK9.out 1).trans rfl,(bc_ BK9.out 2).trans rfl,(bc_ BK9.out 3).trans rfl⟩ (fun hHeld => ?_)
   clear hK K
   refine norm_ (a':=_) ap_ ?_
   refine pZ (i:=10) (N:=some 4) #[true,true,true,true,true,true,true,true,true,true,true] ?_
   refine done_ (done_of HT_.out (by kernel_rfl)) ?_
   go_wp2_with fail
   go_roundg (n + 1 - (i + 1))
   case measure => omega
   case rel => exact ⟨i + 1,by omega,Nat.le_refl _,by go_num,⟨by rw [HTK.out]; exact HS4.out⟩,HMR4,HB4⟩
  ·have hlz:¬ (i:Int) < (n:Int):=by omega
   obtain rfl:i = n:=by omega
   have hall:l.take i = l:=List.take_of_length_le (by have:=HIL.out; omega)
   have HS9:Aside0 (Kd.S kF 36 wr (w.heap.size + 2) (fun _ => True) u4 (l.map F)):=⟨by have h:=HS1.out; rw [hall] at h; exact h⟩
   obtain ⟨A5,c5,rfl⟩:=Kd.S_slice HS9.out
   have HLEN:Aside0 ((l.map F).length = i):=⟨by rw [List.length_map]; exact HIL.out.symm⟩
   have HMIN:Aside0 (Calls Tryd.prog 73 #[.slice A5 (l.map F).length c5,.func (.func 74) #[] #[]] wr fun e w' => ∃ (A2:Option Addr) (c2:Nat) (A3:Option Addr) (c3:Nat),e = .returned (.agg #[.int .i64 R.f0,.int .i64 R.f1,.slice A2 R.f2.length c2,.slice A3 R.f3.length c3]) ∧ Kd.R (Kd.int .i64) 3 wr (w.heap.size + 2) (fun k_ => some k_ ≠ (Value.slice A3 R.f3.length c3).ownBlock) (.slice A2 R.f2.length c2) R.f2 ∧ Kd.R (Kd.int .i64) 3 wr (w.heap.size + 2) (fun k_ => some k_ ≠ (Value.slice A2 R.f2.length c2).ownBlock) (.slice A3 R.f3.length c3) R.f3 ∧ Below wr.heap.size wr w'):=⟨by
    refine (minFig_any k (l.map F) (fun j => T (l.getD j 0)) (w.heap.size + 2) (fun _ => True) A5 c5 wr HS9.out (fun j x hx => ?_) (by rw [HLEN.out]; exact hn0) (by rw [HLEN.out]; exact hn40)).mono ?_
    ·rw [List.getElem?_map] at hx
     obtain ⟨z,hz,rfl⟩:=Option.map_eq_some_iff.1 hx
     have e:l.getD j 0 = z:=by rw [List.getD_eq_getElem?_getD,hz]; rfl
     rw [e]
     exact HTZ.out z ((HLM.out z).1 (List.mem_of_getElem? hz))
    ·rintro e w' ⟨j,x,A2,c2,A3,c3,rfl,⟨hx,r2,r3⟩,hle,hb⟩
     rw [List.getElem?_map] at hx
     obtain ⟨z,hz,rfl⟩:=Option.map_eq_some_iff.1 hx
     have e:l.getD j 0 = z:=by rw [List.getD_eq_getElem?_getD,hz]; rfl
     have hzR:F z = R:=HRR.out z ((HLM.out z).1 (List.mem_of_getElem? hz)) (fun y hy => by
      obtain ⟨j2,hj2,hy2⟩:=List.getElem_of_mem ((HLM.out y).2 hy)
      have h:=hle j2 (by rw [List.length_map]; exact hj2)
      dsimp only at h
      rw [e,show l.getD j2 0 = y by rw [List.getD_eq_getElem?_getD,List.getElem?_eq_getElem hj2,hy2]; rfl] at h
      first | exact h | exact Int.not_lt.1 h)
     rw [hzR] at r2 r3
     rw [hzR]
     exact ⟨A2,c2,A3,c3,rfl,r2,r3,hb⟩⟩
   have BR9:=(HBZ1.out.block (w.heap.size + 1) (by omega)).trans BRZ.out
   have HBR9:=am_ BR9
   clear HS1 HS9 HMR1 hall BR9 HLEN
   generalize (l.map F).length = N5 at HMIN ⊢
   go_wp2_with (go_at_call 73; refine HMIN.out.mono ?_; rintro e w8 ⟨A8,c8,A9,c9,rfl,r2,r3,hb⟩; have BRr0:=blk_below HBR9.out hb; have BRA:=am_ BRr0; have RR2:=am_ (Kd.R_below r2 hb); have RR3:=am_ (Kd.R_below r3 hb); have HB8:=am_ (below_step HB2.out hb); have hs0:w8.cell? ⟨w.heap.size + 1,0,none⟩ = some (.int .i64 0):=(bc_ BRr0 0).trans rfl; have hs1:w8.cell? ⟨w.heap.size + 1,1,none⟩ = some (.int .i64 0):=(bc_ BRr0 1).trans rfl; have hs2:w8.cell? ⟨w.heap.size + 1,2,none⟩ = some (.slice none 0 0):=(bc_ BRr0 2).trans rfl; have hs3:w8.cell? ⟨w.heap.size + 1,3,none⟩ = some (.slice none 0 0):=(bc_ BRr0 3).trans rfl; have hf0:=bz_ BRr0 0; have hf1:=bz_ BRr0 1; have hf2:=bz_ BRr0 2; have hf3:=bz_ BRr0 3; clear r2 r3 hb BRr0)
   have K9:=blk_put (cs:=#[.int .i64 R.f0,.int .i64 R.f1,.slice A8 R.f2.length c8,.slice none 0 0]) (blk_put (cs:=#[.int .i64 R.f0,.int .i64 R.f1,.slice none 0 0,.slice none 0 0]) (blk_put (cs:=#[.int .i64 R.f0,.int .i64 0,.slice none 0 0,.slice none 0 0]) (blk_put (cs:=#[.int .i64 0,.int .i64 0,.slice none 0 0,.slice none 0 0]) BRA.out 0 (.int .i64 R.f0) rfl) 1 (.int .i64 R.f1) rfl) 2 (.slice A8 R.f2.length c8) rfl) 3 (.slice A9 R.f3.length c9) rfl
   have RR29:=Kd.R_far (Kd.R_far (Kd.R_far (Kd.R_far (p:=⟨w.heap.size + 1,0,none⟩) (Kd.R_types RR2.out BRA.out (by decide)) (fun k hk => hk.2) (.int .i64 R.f0)) (p:=⟨w.heap.size + 1,1,none⟩) (fun k hk => hk.2) (.int .i64 R.f1)) (p:=⟨w.heap.size + 1,2,none⟩) (fun k hk => hk.2) (.slice A8 R.f2.length c8)) (p:=⟨w.heap.size + 1,3,none⟩) (fun k hk => hk.2) (.slice A9 R.f3.length c9)
   have RR39:=Kd.R_far (Kd.R_far (Kd.R_far (Kd.R_far (p:=⟨w.heap.size + 1,0,none⟩) (Kd.R_types RR3.out BRA.out (by decide)) (fun k hk => hk.2) (.int .i64 R.f0)) (p:=⟨w.heap.size + 1,1,none⟩) (fun k hk => hk.2) (.int .i64 R.f1)) (p:=⟨w.heap.size + 1,2,none⟩) (fun k hk => hk.2) (.slice A8 R.f2.length c8)) (p:=⟨w.heap.size + 1,3,none⟩) (fun k hk => hk.2) (.slice A9 R.f3.length c9)
   have HB9:=below_set (j:=3) (v:=.slice A9 R.f3.length c9) (below_set (j:=2) (v:=.slice A8 R.f2.length c8) (below_set (j:=1) (v:=.int .i64 R.f1) (below_set (j:=0) (v:=.int .i64 R.f0) HB8.out (Nat.le_succ _)) (Nat.le_succ _)) (Nat.le_succ _)) (Nat.le_succ _)
   refine bodyPost_ret (results_ct rfl _ _ (w.heap.size + 1) 36 #[.int .i64 R.f0,.int .i64 R.f1,.slice A8 R.f2.length c8,.slice A9 R.f3.length c9] (0,0) _ rfl K9 Tryd.underlying36 rfl (by kernel_rfl)) rfl ?_
   exact ⟨_,_,rfl,Kd.R_lower (Kd.R_mono RR29 (fun k hk => hk.1)) (by omega),Kd.R_lower (Kd.R_mono RR39 (fun k hk => hk.1)) (by omega),HB9⟩


def spec_sqFew.f (k:Nat) (a0_0:Int) (a0_1:Int) (l0_2:List Int) (l0_3:List Int):Option (Bool):=(spec_fiGood.f k a0_0 a0_1 l0_2 l0_3).bind fun t145 => (if t145 = true then (some (decide ((wrap64 (a0_0 * a0_1)) ≤ 9))) else (some false))
theorem spec_sqFew.mono:∀ a0 a1 a2 a3 k,LeO (spec_sqFew.f k a0 a1 a2 a3) (spec_sqFew.f (k + 1) a0 a1 a2 a3):=by
  intro a0 a1 a2 a3 k
  unfold spec_sqFew.f
  repeat' first | (with_reducible first | exact spec_fiGood.mono _ _ _ _ _ | exact LeO.refl _ | exact LeO.none _ | refine LeO.ite ?_ ?_ | refine LeO.bind ?_ (fun _ => ?_)) | exact spec_fiGood.mono _ _ _ _ _
set_option maxHeartbeats 8000000 in
set_option maxRecDepth 100000 in
theorem spec_sqFew.calls (k:Nat) (a0_0:Int) (a0_1:Int) (A0_2:Option Addr) (c0_2:Nat) (l0_2:List Int) (A0_3:Option Addr) (c0_3:Nat) (l0_3:List Int) (r:Bool) (w:World) (hr0_2:Kd.C (Kd.int .i64) w A0_2 l0_2.length l0_2) (hc0_2:l0_2.length ≤ c0_2) (hr0_3:Kd.C (Kd.int .i64) w A0_3 l0_3.length l0_3) (hc0_3:l0_3.length ≤ c0_3) (h:spec_sqFew.f k a0_0 a0_1 l0_2 l0_3 = some r) :
    Calls Tryd.prog 44 #[.agg #[.int .i64 a0_0,.int .i64 a0_1,.slice A0_2 l0_2.length c0_2,.slice A0_3 l0_3.length c0_3]] w fun e w' => e = .returned (.bool r) ∧ Below w.heap.size w w':=by
  have hu36:=Tryd.underlying36
  have HR0_2:=am_ hr0_2
  have HC0_2:=am_ hc0_2
  clear hr0_2 hc0_2
  have HR0_3:=am_ hr0_3
  have HC0_3:=am_ hc0_3
  clear hr0_3 hc0_3
  have HB:=am_ (Below.refl w.heap.size w)
  have H:((spec_fiGood.f k a0_0 a0_1 l0_2 l0_3).bind fun t145 => (if t145 = true then (some (decide ((wrap64 (a0_0 * a0_1)) ≤ 9))) else (some false))) = some r:=h
  clear h
  replace H:=bi_ H
  obtain ⟨t145,A20,H⟩:=H
  replace H:(if t145 = true then (some (decide ((wrap64 (a0_0 * a0_1)) ≤ 9))) else (some false)) = some r:=H
  have A2:=am_ A20
  clear A20
  by_cases c3:t145 = true
  · subst c3
    have H1:(some (decide ((wrap64 (a0_0 * a0_1)) ≤ 9))) = some r:=by rw [if_pos rfl] at H; exact H
    clear H
    have H:=H1
    clear H1
    obtain rfl:=Option.some.inj H
    go_enter Tryd.func44,Tryd.ntmps44
    go_wp2_with (first | ((with_reducible refine gate_dst (N:=1) rfl ?_); refine boxE_ (N:=1) (cs:=#[.int .i64 a0_0,.int .i64 a0_1,.slice A0_2 l0_2.length c0_2,.slice A0_3 l0_3.length c0_3]) (t:=36) ?_; intro gb144 hg w4 hbox hb; have n0_:=am_ (below_step (bl0_ HB.out) hb); have n1_:=am_ (hbox); have n2_:=am_ ((bs0_ hg HB.out:w.heap.size ≤ gb144)); have n3_:=am_ ((bs0_ hg HB.out:w.heap.size ≤ gb144)); clear HB; have HB:=n0_; have BK144:=n1_; have GW144:=n2_; have GE144:=n3_; clear n0_ n1_ n2_ n3_; clear hb hbox hg; have hcz5_0:w4.cell? ⟨gb144,0,none⟩ = some (.int .i64 a0_0):=(bc_ BK144.out 0).trans rfl; have hcz5_1:w4.cell? ⟨gb144,1,none⟩ = some (.int .i64 a0_1):=(bc_ BK144.out 1).trans rfl; have hcz5_2:w4.cell? ⟨gb144,2,none⟩ = some (.slice A0_2 l0_2.length c0_2):=(bc_ BK144.out 2).trans rfl; have hcz5_3:w4.cell? ⟨gb144,3,none⟩ = some (.slice A0_3 l0_3.length c0_3):=(bc_ BK144.out 3).trans rfl; have hfz5_0:=bz_ BK144.out 0; have hfz5_1:=bz_ BK144.out 1; have hfz5_2:=bz_ BK144.out 2; have hfz5_3:=bz_ BK144.out 3) | ((with_reducible refine gate_callee (f:=91) rfl ?_); refine goesL_ (some 4) rfl rfl Tryd.func91 (by kernel_rfl) rfl #[.agg #[.int .i64 a0_0,.int .i64 a0_1,.slice A0_2 l0_2.length c0_2,.slice A0_3 l0_3.length c0_3]] rfl ob_ ?_; (with_reducible refine (spec_fiGood.calls k a0_0 a0_1 _ _ l0_2 _ _ l0_3 true _ ?side1 ?side2 ?side3 ?side4 A2.out).mono ?_); (case side1 => exact kc_ (Kd.C_below HR0_2.out HB.out)); (case side2 => exact HC0_2.out); (case side3 => exact kc_ (Kd.C_below HR0_3.out HB.out)); (case side4 => exact HC0_3.out); rintro e w6 ⟨rfl,hb⟩; refine ⟨_,rfl,?_⟩; have n0_:=am_ (bb_ BK144.out hb); have n1_:=am_ (below_step (bl1_ HB.out GE144.out) hb); clear BK144; clear HB; have BK144:=n0_; have HB:=n1_; clear n0_ n1_; (try clear hb); (try clear hb2); (try clear hk); (try clear hi); have hcz7_0:w6.cell? ⟨gb144,0,none⟩ = some (.int .i64 a0_0):=(bc_ BK144.out 0).trans rfl; have hcz7_1:w6.cell? ⟨gb144,1,none⟩ = some (.int .i64 a0_1):=(bc_ BK144.out 1).trans rfl; have hcz7_2:w6.cell? ⟨gb144,2,none⟩ = some (.slice A0_2 l0_2.length c0_2):=(bc_ BK144.out 2).trans rfl; have hcz7_3:w6.cell? ⟨gb144,3,none⟩ = some (.slice A0_3 l0_3.length c0_3):=(bc_ BK144.out 3).trans rfl; have hfz7_0:=bz_ BK144.out 0; have hfz7_1:=bz_ BK144.out 1; have hfz7_2:=bz_ BK144.out 2; have hfz7_3:=bz_ BK144.out 3))
    go_ret
    exact ⟨er_,bl1_ HB.out GE144.out⟩
  · replace c3:=Bool.eq_false_iff.mpr c3
    subst c3
    have H1:(some false) = some r:=by rw [if_neg (show ¬ (false = true) by decide)] at H; exact H
    clear H
    have H:=H1
    clear H1
    obtain rfl:=Option.some.inj H
    go_enter Tryd.func44,Tryd.ntmps44
    go_wp2_with (first | ((with_reducible refine gate_dst (N:=1) rfl ?_); refine boxE_ (N:=1) (cs:=#[.int .i64 a0_0,.int .i64 a0_1,.slice A0_2 l0_2.length c0_2,.slice A0_3 l0_3.length c0_3]) (t:=36) ?_; intro gb144 hg w8 hbox hb; have n0_:=am_ (below_step (bl0_ HB.out) hb); have n1_:=am_ (hbox); have n2_:=am_ ((bs0_ hg HB.out:w.heap.size ≤ gb144)); have n3_:=am_ ((bs0_ hg HB.out:w.heap.size ≤ gb144)); clear HB; have HB:=n0_; have BK144:=n1_; have GW144:=n2_; have GE144:=n3_; clear n0_ n1_ n2_ n3_; clear hb hbox hg; have hcz9_0:w8.cell? ⟨gb144,0,none⟩ = some (.int .i64 a0_0):=(bc_ BK144.out 0).trans rfl; have hcz9_1:w8.cell? ⟨gb144,1,none⟩ = some (.int .i64 a0_1):=(bc_ BK144.out 1).trans rfl; have hcz9_2:w8.cell? ⟨gb144,2,none⟩ = some (.slice A0_2 l0_2.length c0_2):=(bc_ BK144.out 2).trans rfl; have hcz9_3:w8.cell? ⟨gb144,3,none⟩ = some (.slice A0_3 l0_3.length c0_3):=(bc_ BK144.out 3).trans rfl; have hfz9_0:=bz_ BK144.out 0; have hfz9_1:=bz_ BK144.out 1; have hfz9_2:=bz_ BK144.out 2; have hfz9_3:=bz_ BK144.out 3) | ((with_reducible refine gate_callee (f:=91) rfl ?_); refine goesL_ (some 4) rfl rfl Tryd.func91 (by kernel_rfl) rfl #[.agg #[.int .i64 a0_0,.int .i64 a0_1,.slice A0_2 l0_2.length c0_2,.slice A0_3 l0_3.length c0_3]] rfl ob_ ?_; (with_reducible refine (spec_fiGood.calls k a0_0 a0_1 _ _ l0_2 _ _ l0_3 false _ ?side1 ?side2 ?side3 ?side4 A2.out).mono ?_); (case side1 => exact kc_ (Kd.C_below HR0_2.out HB.out)); (case side2 => exact HC0_2.out); (case side3 => exact kc_ (Kd.C_below HR0_3.out HB.out)); (case side4 => exact HC0_3.out); rintro e w10 ⟨rfl,hb⟩; refine ⟨_,rfl,?_⟩; have n0_:=am_ (bb_ BK144.out hb); have n1_:=am_ (below_step (bl1_ HB.out GE144.out) hb); clear BK144; clear HB; have BK144:=n0_; have HB:=n1_; clear n0_ n1_; (try clear hb); (try clear hb2); (try clear hk); (try clear hi)))
    go_ret
    exact ⟨er_,bl1_ HB.out GE144.out⟩


theorem popB_or:∀ (n X x:Nat),x < n → X.testBit x = false → popB n (X ||| 2 ^ x) = popB n X + 1
  | 0,_,_,h,_ => by omega
  | n + 1,X,0,_,ht => by
    have h0:X % 2 = 0:=by
      rw [Nat.testBit_zero] at ht
      simp at ht; omega
    have e1:(X ||| 2 ^ 0) % 2 = 1:=by
      have:(X ||| 2 ^ 0).testBit 0 = true:=by rw [Nat.testBit_or]; simp
      rw [Nat.testBit_zero] at this
      exact of_decide_eq_true this
    have e2:(X ||| 2 ^ 0) / 2 = X / 2:=by
      apply Nat.eq_of_testBit_eq
      intro i
      rw [Nat.testBit_div_two,Nat.testBit_div_two,Nat.testBit_or,Nat.testBit_two_pow]
      simp
    unfold popB
    rw [e1,e2,h0]; omega
  | n + 1,X,x + 1,h,ht => by
    have e1:(X ||| 2 ^ (x + 1)) % 2 = X % 2:=by
      have h1:(X ||| 2 ^ (x + 1)).testBit 0 = X.testBit 0:=by rw [Nat.testBit_or,Nat.testBit_two_pow]; simp
      rw [Nat.testBit_zero,Nat.testBit_zero] at h1
      have h2:=decide_eq_decide.1 h1
      have:=Nat.mod_two_eq_zero_or_one (X ||| 2 ^ (x + 1))
      have:=Nat.mod_two_eq_zero_or_one X
      omega
    have e2:(X ||| 2 ^ (x + 1)) / 2 = X / 2 ||| 2 ^ x:=by
      apply Nat.eq_of_testBit_eq
      intro i
      rw [Nat.testBit_div_two,Nat.testBit_or,Nat.testBit_or,Nat.testBit_div_two,Nat.testBit_two_pow,Nat.testBit_two_pow]
      simp
    have ih:=popB_or n (X / 2) x (by omega) (by rw [Nat.testBit_div_two]; exact ht)
    unfold popB
    rw [e1,e2,ih]; omega
theorem missF_free {Ls:List Nat} {ch s:Nat} (h:missF Ls ch = some s):s &&& ch = 0:=by
  have:=List.find?_some h
  simpa using this
theorem bitsI_test {s:Nat} {x:Int} (h:x ∈ bitsI s):0 ≤ x ∧ s.testBit x.toNat = true:=by
  obtain ⟨n,hn,rfl⟩:=List.mem_map.1 h
  exact ⟨Int.natCast_nonneg _,(List.mem_filter.1 hn).2⟩
theorem free_bit {s ch i:Nat} (h:s &&& ch = 0) (hs:s.testBit i = true):ch.testBit i = false:=by
  have h1:(s &&& ch).testBit i = false:=by rw [h]; exact Nat.zero_testBit i
  rw [Nat.testBit_and,hs,Bool.true_and] at h1
  exact h1

theorem and_neg_i64 (x:Nat) (h0:x ≠ 0) (hx:x < 2 ^ 60):Go.bits .and .i64 (x:Int) (-(x:Int)) = ((2 ^ Lib.ctz 64 x:Nat):Int):=by
  have h60:(2:Nat) ^ 60 = 1152921504606846976:=by decide
  have hx2:x < 2 ^ 64:=Nat.lt_of_lt_of_le hx (by decide)
  obtain ⟨h1,-⟩:=Lib.lowest_bit 64 x h0 hx2
  obtain ⟨h2,-⟩:=low_bits x h0 hx
  have e1:(BitVec.ofInt 64 (x:Int)).toNat = x:=by rw [BitVec.toNat_ofInt]; omega
  have e2:(BitVec.ofInt 64 (-(x:Int))).toNat = 2 ^ 64 - x:=by rw [BitVec.toNat_ofInt]; omega
  have hb:IntKind.i64.bits = 64:=rfl
  unfold Go.bits
  rw [hb]
  show IntKind.i64.wrap ((BitVec.ofInt 64 (x:Int) &&& BitVec.ofInt 64 (-(x:Int))).toNat:Int) = _
  rw [BitVec.toNat_and,e1,e2,h1]
  refine i64_small _ (Int.natCast_nonneg _) ?_
  have h3:=pow_lt60 h2
  have h4:(2:Int) ^ 60 = 1152921504606846976:=by decide
  rw [h4]
  omega
theorem wrap_neg (B:Nat) (h:(B:Int) < 1152921504606846976):wrap64 (-(B:Int)) = -(B:Int):=by unfold wrap64; omega
theorem lit60 {B:Nat} (h:B < 2 ^ 60):(B:Int) < 1152921504606846976:=by
  have h2:(2:Nat) ^ 60 = 1152921504606846976:=by decide
  rw [h2] at h
  omega


def spec_sqBit.f (a0:Int) (a1:Int) (a2:Bool) (a3:Int):Option (Int):=if a2 = true then (if 0 ≤ (wrap64 ((wrap64 (a0 * (wrap64 (a1 + 1)))) + a3)) then (some (shl .i64 1 (wrap64 ((wrap64 (a0 * (wrap64 (a1 + 1)))) + a3)))) else (none)) else (if 0 ≤ a3 then (some (shl .i64 1 a3)) else (none))
set_option maxHeartbeats 8000000 in
set_option maxRecDepth 100000 in
theorem spec_sqBit.calls (a0:Int) (a1:Int) (a2:Bool) (a3:Int) (r:Int) (w:World) (h:spec_sqBit.f a0 a1 a2 a3 = some r) :
    Calls Tryd.prog 97 #[.int .i64 a0,.int .i64 a1,.bool a2,.int .i64 a3] w fun e w' => e = .returned (.int .i64 r) ∧ Drawn0 w w':=by
  have H:(if a2 = true then (if 0 ≤ (wrap64 ((wrap64 (a0 * (wrap64 (a1 + 1)))) + a3)) then (some (shl .i64 1 (wrap64 ((wrap64 (a0 * (wrap64 (a1 + 1)))) + a3)))) else (none)) else (if 0 ≤ a3 then (some (shl .i64 1 a3)) else (none))) = some r:=h
  clear h
  by_cases c5:a2 = true
  · subst c5
    have H1:(if 0 ≤ (wrap64 ((wrap64 (a0 * (wrap64 (a1 + 1)))) + a3)) then (some (shl .i64 1 (wrap64 ((wrap64 (a0 * (wrap64 (a1 + 1)))) + a3)))) else (none)) = some r:=by rw [if_pos rfl] at H; exact H
    clear H
    have H:=H1
    clear H1
    obtain ⟨ji6,hji6⟩:∃ j_:Int,(wrap64 ((wrap64 (a0 * (wrap64 (a1 + 1)))) + a3)) = j_:=⟨_,rfl⟩
    replace H:(if 0 ≤ (ji6) then (some (shl .i64 1 (ji6))) else (none)) = some r:=by first | (rw [hji6] at H; exact H) | (simp only [hji6] at H ⊢; exact H)
    have hji6w:(IntKind.i64.wrap ((wrap64 (a0 * (wrap64 (a1 + 1)))) + a3)) = ji6:=(i64_w _).trans hji6
    by_cases c7:0 ≤ (ji6)
    · rw [if_pos c7] at H
      have c7b0:=eq_true c7
      have c7b1:decide (0 ≤ (ji6)) = true:=decide_eq_true c7
      clear c7
      obtain ⟨ji8,hji8⟩:∃ j_:Int,(shl .i64 1 (ji6)) = j_:=⟨_,rfl⟩
      replace H:(some ji8) = some r:=by first | (rw [hji8] at H; exact H) | (simp only [hji8] at H ⊢; exact H)
      have hji8_:(IntKind.i64.wrap (1 * 2 ^ min (ji6).toNat 64)) = ji8:=hji8
      have hji8z:(ji6) ≤ 64 → (IntKind.i64.wrap (1 * 2 ^ (ji6).toNat)) = ji8:=shl_small hji8
      have hji8u:(IntKind.i64.wrap (2 ^ min (ji6).toNat 64)) = ji8:=by have h_:=hji8_; rw [Int.one_mul] at h_; exact h_
      have hji8v:(ji6) ≤ 64 → (IntKind.i64.wrap (2 ^ (ji6).toNat)) = ji8:=fun hle_ => by have h_:=hji8z hle_; rw [Int.one_mul] at h_; exact h_
      have hji8y:(wrap64 (1 * 2 ^ min (ji6).toNat 64)) = ji8:=(i64_w _).symm.trans hji8_
      have hji8x:(ji6) ≤ 64 → (wrap64 (1 * 2 ^ (ji6).toNat)) = ji8:=fun h_ => (i64_w _).symm.trans (hji8z h_)
      obtain rfl:=Option.some.inj H
      go_enter Tryd.func97,Tryd.ntmps97
      go_wp2
      go_ret
      exact ⟨by first | rfl | (simp; done) | (simp only [← hji6,← hji8] <;> (first | rfl | simp)) | (simp [*]; done),by repeat (first | exact Drawn0.refl _ | apply Drawn0.step)⟩
    · rw [if_neg c7] at H
      exact absurd H (by simp)
  · replace c5:=Bool.eq_false_iff.mpr c5
    subst c5
    have H1:(if 0 ≤ a3 then (some (shl .i64 1 a3)) else (none)) = some r:=by rw [if_neg (show ¬ (false = true) by decide)] at H; exact H
    clear H
    have H:=H1
    clear H1
    by_cases c9:0 ≤ a3
    · rw [if_pos c9] at H
      have c9b0:=eq_true c9
      have c9b1:decide (0 ≤ a3) = true:=decide_eq_true c9
      clear c9
      obtain ⟨ji10,hji10⟩:∃ j_:Int,(shl .i64 1 a3) = j_:=⟨_,rfl⟩
      replace H:(some ji10) = some r:=by first | (rw [hji10] at H; exact H) | (simp only [hji10] at H ⊢; exact H)
      have hji10_:(IntKind.i64.wrap (1 * 2 ^ min a3.toNat 64)) = ji10:=hji10
      have hji10z:a3 ≤ 64 → (IntKind.i64.wrap (1 * 2 ^ a3.toNat)) = ji10:=shl_small hji10
      have hji10u:(IntKind.i64.wrap (2 ^ min a3.toNat 64)) = ji10:=by have h_:=hji10_; rw [Int.one_mul] at h_; exact h_
      have hji10v:a3 ≤ 64 → (IntKind.i64.wrap (2 ^ a3.toNat)) = ji10:=fun hle_ => by have h_:=hji10z hle_; rw [Int.one_mul] at h_; exact h_
      have hji10y:(wrap64 (1 * 2 ^ min a3.toNat 64)) = ji10:=(i64_w _).symm.trans hji10_
      have hji10x:a3 ≤ 64 → (wrap64 (1 * 2 ^ a3.toNat)) = ji10:=fun h_ => (i64_w _).symm.trans (hji10z h_)
      obtain rfl:=Option.some.inj H
      go_enter Tryd.func97,Tryd.ntmps97
      go_wp2
      go_ret
      exact ⟨by first | rfl | (simp; done) | (simp only [← hji10] <;> (first | rfl | simp)) | (simp [*]; done),by repeat (first | exact Drawn0.refl _ | apply Drawn0.step)⟩
    · rw [if_neg c9] at H
      exact absurd H (by simp)


mutual
def spec_sqAround.l0:Nat → Int → Int → Int → Int → Int → Int → Int → Int → Option (Int)
 | 0,_,_,_,_,_,_,_,_ => none
 | k + 1,x0,x1,x2,x3,x4,x5,x13,x14 => if x14 < x4 then ((spec_sqBit.f x0 x1 false (wrap64 ((wrap64 ((wrap64 (x3 * x0)) + x2)) + x14))).bind fun t150 => ((spec_sqBit.f x0 x1 false (wrap64 ((wrap64 ((wrap64 ((wrap64 (x3 + x5)) * x0)) + x2)) + x14))).bind fun t151 => (spec_sqAround.l0 k x0 x1 x2 x3 x4 x5 (Go.bits .or .i64 x13 (Go.bits .or .i64 t150 t151)) (wrap64 (x14 + 1))))) else (spec_sqAround.l1 k x0 x1 x2 x3 x4 x5 x13 0)
def spec_sqAround.l1:Nat → Int → Int → Int → Int → Int → Int → Int → Int → Option (Int)
 | 0,_,_,_,_,_,_,_,_ => none
 | k + 1,x0,x1,x2,x3,x4,x5,x13,x15 => if x15 < x5 then ((spec_sqBit.f x0 x1 true (wrap64 ((wrap64 ((wrap64 (x3 + x15)) * (wrap64 (x0 + 1)))) + x2))).bind fun t152 => ((spec_sqBit.f x0 x1 true (wrap64 ((wrap64 ((wrap64 ((wrap64 (x3 + x15)) * (wrap64 (x0 + 1)))) + x2)) + x4))).bind fun t153 => (spec_sqAround.l1 k x0 x1 x2 x3 x4 x5 (Go.bits .or .i64 x13 (Go.bits .or .i64 t152 t153)) (wrap64 (x15 + 1))))) else (some x13)
end
def spec_sqAround.f (k:Nat) (a0:Int) (a1:Int) (a2:Int) (a3:Int) (a4:Int) (a5:Int):Option (Int):=spec_sqAround.l0 k a0 a1 a2 a3 a4 a5 0 0
theorem spec_sqAround.mono_l:∀ k,(∀ y0 y1 y2 y3 y4 y5 y6 y7,LeO (spec_sqAround.l0 k y0 y1 y2 y3 y4 y5 y6 y7) (spec_sqAround.l0 (k + 1) y0 y1 y2 y3 y4 y5 y6 y7)) ∧ (∀ y0 y1 y2 y3 y4 y5 y6 y7,LeO (spec_sqAround.l1 k y0 y1 y2 y3 y4 y5 y6 y7) (spec_sqAround.l1 (k + 1) y0 y1 y2 y3 y4 y5 y6 y7))
 | 0 => ⟨fun _ _ _ _ _ _ _ _ r h => by simp [spec_sqAround.l0] at h,fun _ _ _ _ _ _ _ _ r h => by simp [spec_sqAround.l1] at h⟩
 | k + 1 => by
  obtain ⟨ih0,ih1⟩:=spec_sqAround.mono_l k
  refine ⟨?_,?_⟩
  ·intro y0 y1 y2 y3 y4 y5 y6 y7
   unfold spec_sqAround.l0
   repeat' first | (with_reducible first | exact ih0 _ _ _ _ _ _ _ _ | exact ih1 _ _ _ _ _ _ _ _ | exact LeO.refl _ | exact LeO.none _ | refine LeO.ite ?_ ?_ | refine LeO.bind ?_ (fun _ => ?_)) | exact ih0 _ _ _ _ _ _ _ _ | exact ih1 _ _ _ _ _ _ _ _
  ·intro y0 y1 y2 y3 y4 y5 y6 y7
   unfold spec_sqAround.l1
   repeat' first | (with_reducible first | exact ih0 _ _ _ _ _ _ _ _ | exact ih1 _ _ _ _ _ _ _ _ | exact LeO.refl _ | exact LeO.none _ | refine LeO.ite ?_ ?_ | refine LeO.bind ?_ (fun _ => ?_)) | exact ih0 _ _ _ _ _ _ _ _ | exact ih1 _ _ _ _ _ _ _ _
theorem spec_sqAround.mono:∀ a0 a1 a2 a3 a4 a5 k,LeO (spec_sqAround.f k a0 a1 a2 a3 a4 a5) (spec_sqAround.f (k + 1) a0 a1 a2 a3 a4 a5):=by
 intro a0 a1 a2 a3 a4 a5 k
 obtain ⟨ih0,ih1⟩:=spec_sqAround.mono_l k
 unfold spec_sqAround.f
 repeat' first | (with_reducible first | exact ih0 _ _ _ _ _ _ _ _ | exact ih1 _ _ _ _ _ _ _ _ | exact LeO.refl _ | exact LeO.none _ | refine LeO.ite ?_ ?_ | refine LeO.bind ?_ (fun _ => ?_)) | exact ih0 _ _ _ _ _ _ _ _ | exact ih1 _ _ _ _ _ _ _ _
set_option maxHeartbeats 8000000 in
set_option maxRecDepth 100000 in
theorem spec_sqAround.calls (k:Nat) (a0:Int) (a1:Int) (a2:Int) (a3:Int) (a4:Int) (a5:Int) (r:Int) (w:World) (h:spec_sqAround.f k a0 a1 a2 a3 a4 a5 = some r) :
  Calls Tryd.prog 96 #[.int .i64 a0,.int .i64 a1,.int .i64 a2,.int .i64 a3,.int .i64 a4,.int .i64 a5] w fun e w' => e = .returned (.int .i64 r) ∧ Drawn0 w w':=by
 have H:(spec_sqAround.l0 k a0 a1 a2 a3 a4 a5 0 0) = some r:=h
 clear h
 have H':=am_ H
 clear H
 go_enter Tryd.func96,Tryd.ntmps96
 go_wp2
 go_loopg [13,14] k (fun kq v13 v14 w' => ∃ (x13_1:Int) (x14_1:Int),v13 = .int .i64 x13_1 ∧ v14 = .int .i64 x14_1 ∧ Aside0 (spec_sqAround.l0 kq a0 a1 a2 a3 a4 a5 x13_1 x14_1 = some r) ∧ Aside0 (kq ≤ k) ∧ Drawn0 w w')
 case atStart => exact ⟨(0),(0),rs_,rs_,H',⟨Nat.le_refl _⟩,by repeat (first | exact Drawn0.refl _ | apply Drawn0.step)⟩
 case round =>
  clear H'
  try clear p2
  obtain ⟨x13_1,x14_1,rfl,rfl,HA,HK1,⟨m1,rfl⟩⟩:=hrel
  cases gk with
  | zero => exact absurd HA.out (by simp [spec_sqAround.l0])
  | succ k1 =>
   have H:=HA.out
   clear HA
   simp only [spec_sqAround.l0] at H
   by_cases c7:x14_1 < a4
   ·rw [if_pos c7] at H
    have c7b0:decide (x14_1 < a4) = true:=decide_eq_true c7
    clear c7
    replace H:=bi_ H
    obtain ⟨t150,A80,H⟩:=H
    replace H:((spec_sqBit.f a0 a1 false (wrap64 ((wrap64 ((wrap64 ((wrap64 (a3 + a5)) * a0)) + a2)) + x14_1))).bind fun t151 => (spec_sqAround.l0 k1 a0 a1 a2 a3 a4 a5 (Go.bits .or .i64 x13_1 (Go.bits .or .i64 t150 t151)) (wrap64 (x14_1 + 1)))) = some r:=H
    have A8:=am_ A80
    clear A80
    replace H:=bi_ H
    obtain ⟨t151,A90,H⟩:=H
    replace H:(spec_sqAround.l0 k1 a0 a1 a2 a3 a4 a5 (Go.bits .or .i64 x13_1 (Go.bits .or .i64 t150 t151)) (wrap64 (x14_1 + 1))) = some r:=H
    have A9:=am_ A90
    clear A90
    have H':=am_ H
    clear H
    go_wp2_with (first | ((with_reducible refine gate_callee (f:=97) rfl ?_); refine goesL_ (some 31) rfl rfl Tryd.func97 (by kernel_rfl) rfl #[.int .i64 a0,.int .i64 a1,.bool false,.int .i64 (wrap64 ((wrap64 ((wrap64 (a3 * a0)) + a2)) + x14_1))] rfl ob_ ?_; (with_reducible refine (spec_sqBit.calls a0 a1 false (wrap64 ((wrap64 ((wrap64 (a3 * a0)) + a2)) + x14_1)) t150 _ A8.out).mono ?_); rintro e w' ⟨rfl,⟨nd,rfl⟩⟩; refine ⟨_,rfl,?_⟩) | ((with_reducible refine gate_callee (f:=97) rfl ?_); refine goesL_ (some 43) rfl rfl Tryd.func97 (by kernel_rfl) rfl #[.int .i64 a0,.int .i64 a1,.bool false,.int .i64 (wrap64 ((wrap64 ((wrap64 ((wrap64 (a3 + a5)) * a0)) + a2)) + x14_1))] rfl ob_ ?_; (with_reducible refine (spec_sqBit.calls a0 a1 false (wrap64 ((wrap64 ((wrap64 ((wrap64 (a3 + a5)) * a0)) + a2)) + x14_1)) t151 _ A9.out).mono ?_); rintro e w' ⟨rfl,⟨nd,rfl⟩⟩; refine ⟨_,rfl,?_⟩))
    go_roundg k1
    case measure => have:=HK1.out; omega
    case rel => exact ⟨(Go.bits .or .i64 x13_1 (Go.bits .or .i64 t150 t151)),(wrap64 (x14_1 + 1)),rs_,rs_,H',⟨by have:=HK1.out; omega⟩,by repeat (first | exact Drawn0.refl _ | apply Drawn0.step)⟩
   ·rw [if_neg c7] at H
    have c7b0:decide (x14_1 < a4) = false:=decide_eq_false c7
    clear c7
    have H':=am_ H
    clear H
    go_wp2
    go_loopg [13,15] k1 (fun kq v13 v15 w' => ∃ (x13_2:Int) (x15_2:Int),v13 = .int .i64 x13_2 ∧ v15 = .int .i64 x15_2 ∧ Aside0 (spec_sqAround.l1 kq a0 a1 a2 a3 a4 a5 x13_2 x15_2 = some r) ∧ Aside0 (kq ≤ k1) ∧ Drawn0 w w')
    case atStart => exact ⟨(x13_1),(0),rs_,rs_,H',⟨Nat.le_refl _⟩,by repeat (first | exact Drawn0.refl _ | apply Drawn0.step)⟩
    case round =>
     clear H'
     try clear p2
     try clear p6
     try clear c7
     try clear c7b0
     try clear c9
     try clear p2
     obtain ⟨x13_2,x15_2,rfl,rfl,HA,HK2,⟨m2,rfl⟩⟩:=hrel
     cases gk with
     | zero => exact absurd HA.out (by simp [spec_sqAround.l1])
     | succ k2 =>
      have H:=HA.out
      clear HA
      simp only [spec_sqAround.l1] at H
      by_cases c10:x15_2 < a5
      ·rw [if_pos c10] at H
       have c10b0:decide (x15_2 < a5) = true:=decide_eq_true c10
       clear c10
       replace H:=bi_ H
       obtain ⟨t152,A110,H⟩:=H
       replace H:((spec_sqBit.f a0 a1 true (wrap64 ((wrap64 ((wrap64 ((wrap64 (a3 + x15_2)) * (wrap64 (a0 + 1)))) + a2)) + a4))).bind fun t153 => (spec_sqAround.l1 k2 a0 a1 a2 a3 a4 a5 (Go.bits .or .i64 x13_2 (Go.bits .or .i64 t152 t153)) (wrap64 (x15_2 + 1)))) = some r:=H
       have A11:=am_ A110
       clear A110
       replace H:=bi_ H
       obtain ⟨t153,A120,H⟩:=H
       replace H:(spec_sqAround.l1 k2 a0 a1 a2 a3 a4 a5 (Go.bits .or .i64 x13_2 (Go.bits .or .i64 t152 t153)) (wrap64 (x15_2 + 1))) = some r:=H
       have A12:=am_ A120
       clear A120
       have H':=am_ H
       clear H
       go_wp2_with (first | ((with_reducible refine gate_callee (f:=97) rfl ?_); refine goesL_ (some 62) rfl rfl Tryd.func97 (by kernel_rfl) rfl #[.int .i64 a0,.int .i64 a1,.bool true,.int .i64 (wrap64 ((wrap64 ((wrap64 (a3 + x15_2)) * (wrap64 (a0 + 1)))) + a2))] rfl ob_ ?_; (with_reducible refine (spec_sqBit.calls a0 a1 true (wrap64 ((wrap64 ((wrap64 (a3 + x15_2)) * (wrap64 (a0 + 1)))) + a2)) t152 _ A11.out).mono ?_); rintro e w' ⟨rfl,⟨nd,rfl⟩⟩; refine ⟨_,rfl,?_⟩) | ((with_reducible refine gate_callee (f:=97) rfl ?_); refine goesL_ (some 75) rfl rfl Tryd.func97 (by kernel_rfl) rfl #[.int .i64 a0,.int .i64 a1,.bool true,.int .i64 (wrap64 ((wrap64 ((wrap64 ((wrap64 (a3 + x15_2)) * (wrap64 (a0 + 1)))) + a2)) + a4))] rfl ob_ ?_; (with_reducible refine (spec_sqBit.calls a0 a1 true (wrap64 ((wrap64 ((wrap64 ((wrap64 (a3 + x15_2)) * (wrap64 (a0 + 1)))) + a2)) + a4)) t153 _ A12.out).mono ?_); rintro e w' ⟨rfl,⟨nd,rfl⟩⟩; refine ⟨_,rfl,?_⟩))
       go_roundg k2
       case measure => have:=HK1.out; have:=HK2.out; omega
       case rel => exact ⟨(Go.bits .or .i64 x13_2 (Go.bits .or .i64 t152 t153)),(wrap64 (x15_2 + 1)),rs_,rs_,H',⟨by have:=HK1.out; have:=HK2.out; omega⟩,by repeat (first | exact Drawn0.refl _ | apply Drawn0.step)⟩
      ·rw [if_neg c10] at H
       have c10b0:decide (x15_2 < a5) = false:=decide_eq_false c10
       clear c10
       obtain rfl:=Option.some.inj H
       go_wp2
       go_ret
       exact ⟨by first | rfl | (simp; done) | (simp [*]; done),by repeat (first | exact Drawn0.refl _ | apply Drawn0.step)⟩


mutual
def spec_sqAll.l0:Nat → Int → Int → List (S122) → Int → Option ((List (S122)))
 | 0,_,_,_,_ => none
 | k + 1,x0,x1,x5,x6 => if x6 ≤ x0 then (spec_sqAll.j1 k x0 x1 x5 x6 (decide (x6 ≤ x1))) else (spec_sqAll.j1 k x0 x1 x5 x6 false)
def spec_sqAll.j1:Nat → Int → Int → List (S122) → Int → Bool → Option ((List (S122)))
 | 0,_,_,_,_,_ => none
 | k + 1,x0,x1,x5,x6,x16 => if x16 = true then (spec_sqAll.l1 k x0 x1 x5 x6 0) else (some x5)
def spec_sqAll.l1:Nat → Int → Int → List (S122) → Int → Int → Option ((List (S122)))
 | 0,_,_,_,_,_ => none
 | k + 1,x0,x1,x5,x6,x7 => if (wrap64 (x7 + x6)) ≤ x1 then (spec_sqAll.l2 k x0 x1 x5 x6 x7 0) else (spec_sqAll.l0 k x0 x1 x5 (wrap64 (x6 + 1)))
def spec_sqAll.l2:Nat → Int → Int → List (S122) → Int → Int → Int → Option ((List (S122)))
 | 0,_,_,_,_,_,_ => none
 | k + 1,x0,x1,x5,x6,x7,x8 => if (wrap64 (x8 + x6)) ≤ x0 then ((spec_sqAround.f k x0 x1 x8 x7 x6 x6).bind fun t154 => (if x5.length < 4398046511104 then (spec_sqAll.l2 k x0 x1 (x5 ++ [(⟨x8,x7,x6,t154⟩:S122)]) x6 x7 (wrap64 (x8 + 1))) else (none))) else (spec_sqAll.l1 k x0 x1 x5 x6 (wrap64 (x7 + 1)))
end
def spec_sqAll.f (k:Nat) (a0:Int) (a1:Int):Option ((List (S122))):=spec_sqAll.l0 k a0 a1 ([]:List (S122)) 1
theorem spec_sqAll.mono_l:∀ k,(∀ y0 y1 y2 y3,LeO (spec_sqAll.l0 k y0 y1 y2 y3) (spec_sqAll.l0 (k + 1) y0 y1 y2 y3)) ∧ (∀ y0 y1 y2 y3 y4,LeO (spec_sqAll.j1 k y0 y1 y2 y3 y4) (spec_sqAll.j1 (k + 1) y0 y1 y2 y3 y4)) ∧ (∀ y0 y1 y2 y3 y4,LeO (spec_sqAll.l1 k y0 y1 y2 y3 y4) (spec_sqAll.l1 (k + 1) y0 y1 y2 y3 y4)) ∧ (∀ y0 y1 y2 y3 y4 y5,LeO (spec_sqAll.l2 k y0 y1 y2 y3 y4 y5) (spec_sqAll.l2 (k + 1) y0 y1 y2 y3 y4 y5))
 | 0 => ⟨fun _ _ _ _ r h => by simp [spec_sqAll.l0] at h,fun _ _ _ _ _ r h => by simp [spec_sqAll.j1] at h,fun _ _ _ _ _ r h => by simp [spec_sqAll.l1] at h,fun _ _ _ _ _ _ r h => by simp [spec_sqAll.l2] at h⟩
 | k + 1 => by
  obtain ⟨ih0,ih1,ih2,ih3⟩:=spec_sqAll.mono_l k
  refine ⟨?_,?_,?_,?_⟩
  ·intro y0 y1 y2 y3
   unfold spec_sqAll.l0
   repeat' first | (with_reducible first | exact ih0 _ _ _ _ | exact ih1 _ _ _ _ _ | exact ih2 _ _ _ _ _ | exact ih3 _ _ _ _ _ _ | exact spec_sqAround.mono _ _ _ _ _ _ _ | exact LeO.refl _ | exact LeO.none _ | refine LeO.ite ?_ ?_ | refine LeO.bind ?_ (fun _ => ?_)) | exact ih0 _ _ _ _ | exact ih1 _ _ _ _ _ | exact ih2 _ _ _ _ _ | exact ih3 _ _ _ _ _ _ | exact spec_sqAround.mono _ _ _ _ _ _ _
  ·intro y0 y1 y2 y3 y4
   unfold spec_sqAll.j1
   repeat' first | (with_reducible first | exact ih0 _ _ _ _ | exact ih1 _ _ _ _ _ | exact ih2 _ _ _ _ _ | exact ih3 _ _ _ _ _ _ | exact spec_sqAround.mono _ _ _ _ _ _ _ | exact LeO.refl _ | exact LeO.none _ | refine LeO.ite ?_ ?_ | refine LeO.bind ?_ (fun _ => ?_)) | exact ih0 _ _ _ _ | exact ih1 _ _ _ _ _ | exact ih2 _ _ _ _ _ | exact ih3 _ _ _ _ _ _ | exact spec_sqAround.mono _ _ _ _ _ _ _
  ·intro y0 y1 y2 y3 y4
   unfold spec_sqAll.l1
   repeat' first | (with_reducible first | exact ih0 _ _ _ _ | exact ih1 _ _ _ _ _ | exact ih2 _ _ _ _ _ | exact ih3 _ _ _ _ _ _ | exact spec_sqAround.mono _ _ _ _ _ _ _ | exact LeO.refl _ | exact LeO.none _ | refine LeO.ite ?_ ?_ | refine LeO.bind ?_ (fun _ => ?_)) | exact ih0 _ _ _ _ | exact ih1 _ _ _ _ _ | exact ih2 _ _ _ _ _ | exact ih3 _ _ _ _ _ _ | exact spec_sqAround.mono _ _ _ _ _ _ _
  ·intro y0 y1 y2 y3 y4 y5
   unfold spec_sqAll.l2
   repeat' first | (with_reducible first | exact ih0 _ _ _ _ | exact ih1 _ _ _ _ _ | exact ih2 _ _ _ _ _ | exact ih3 _ _ _ _ _ _ | exact spec_sqAround.mono _ _ _ _ _ _ _ | exact LeO.refl _ | exact LeO.none _ | refine LeO.ite ?_ ?_ | refine LeO.bind ?_ (fun _ => ?_)) | exact ih0 _ _ _ _ | exact ih1 _ _ _ _ _ | exact ih2 _ _ _ _ _ | exact ih3 _ _ _ _ _ _ | exact spec_sqAround.mono _ _ _ _ _ _ _
theorem spec_sqAll.mono:∀ a0 a1 k,LeO (spec_sqAll.f k a0 a1) (spec_sqAll.f (k + 1) a0 a1):=by
 intro a0 a1 k
 obtain ⟨ih0,ih1,ih2,ih3⟩:=spec_sqAll.mono_l k
 unfold spec_sqAll.f
 repeat' first | (with_reducible first | exact ih0 _ _ _ _ | exact ih1 _ _ _ _ _ | exact ih2 _ _ _ _ _ | exact ih3 _ _ _ _ _ _ | exact spec_sqAround.mono _ _ _ _ _ _ _ | exact LeO.refl _ | exact LeO.none _ | refine LeO.ite ?_ ?_ | refine LeO.bind ?_ (fun _ => ?_)) | exact ih0 _ _ _ _ | exact ih1 _ _ _ _ _ | exact ih2 _ _ _ _ _ | exact ih3 _ _ _ _ _ _ | exact spec_sqAround.mono _ _ _ _ _ _ _
set_option maxHeartbeats 8000000 in
set_option maxRecDepth 100000 in
theorem spec_sqAll.calls (k:Nat) (a0:Int) (a1:Int) (r:List (S122)) (w:World) (h:spec_sqAll.f k a0 a1 = some r) :
  Calls Tryd.prog 49 #[.int .i64 a0,.int .i64 a1] w fun e w' => ∃ v0_:Value,e = .returned (v0_) ∧ Kd.R k122 122 w' w.heap.size (fun _ => True) v0_ r ∧ Below w.heap.size w w':=by
 have hu122:=Tryd.underlying122
 have HB:=am_ (Below.refl w.heap.size w)
 have H:(spec_sqAll.l0 k a0 a1 ([]:List (S122)) 1) = some r:=h
 clear h
 have H':=am_ H
 clear H
 go_enter Tryd.func49,Tryd.ntmps49
 go_wp2
 go_loopg [5,6] k (fun kq v5 v6 w' => ∃ (x5_1:List (S122)) (x6_1:Int),v6 = .int .i64 x6_1 ∧ Aside0 (spec_sqAll.l0 kq a0 a1 x5_1 x6_1 = some r) ∧ Aside0 (kq ≤ k) ∧ Aside0 (Kd.R k122 122 w' w.heap.size (fun _ => True) v5 x5_1) ∧ Aside0 (Below w.heap.size w w'))
 case atStart => exact ⟨(([]:List (S122))),(1),rs_,H',⟨Nat.le_refl _⟩,⟨by first | exact Kd.R_nil _ _ _ _ _ | exact Kd.N_nil _ _ _ _ _ | exact Kd.V_nil _ _ _ _ _ | exact Kd.Q_nil _ _ _ _ _ | exact Kd.S_nil _ _ _ _ _⟩,⟨bl0_ HB.out⟩⟩
 case round =>
  clear H'
  try clear p2
  obtain ⟨x5_1,x6_1,rfl,HA,HK1,HO_5,HB⟩:=hrel
  cases gk with
  | zero => exact absurd HA.out (by simp [spec_sqAll.l0])
  | succ k1 =>
   have H:=HA.out
   clear HA
   simp only [spec_sqAll.l0] at H
   have HC3:=am_ H
   clear H
   go_upto_region 3 with (fail)
   go_cut [16] (fun v16 wc => ∃ (kq:Nat) (x16_2:Bool),v16 = .bool x16_2 ∧ Aside0 (spec_sqAll.j1 kq a0 a1 x5_1 x6_1 x16_2 = some r) ∧ Aside0 (kq ≤ k1) ∧ Aside0 (Kd.R k122 122 wc w.heap.size (fun _ => True) u5 x5_1) ∧ Aside0 (Below w.heap.size w wc))
   case first =>
    have H:=HC3.out
    clear HC3
    by_cases c4:x6_1 ≤ a0
    ·rw [if_pos c4] at H
     have c4b0:decide (x6_1 ≤ a0) = true:=decide_eq_true c4
     clear c4
     (first | rw [c4b0] | (simp only [i64_w,i32_w]; rw [c4b0]) | skip)
     have H':=am_ H
     clear H
     go_wp2
     go_meet
     case rel => exact ⟨_,(decide (x6_1 ≤ a1)),rs_,H',⟨by have:=HK1.out; first | omega | exact Nat.le_refl _⟩,⟨kr_ HO_5.out⟩,⟨bl0_ HB.out⟩⟩
    ·rw [if_neg c4] at H
     have c4b0:decide (x6_1 ≤ a0) = false:=decide_eq_false c4
     clear c4
     (first | rw [c4b0] | (simp only [i64_w,i32_w]; rw [c4b0]) | skip)
     have H':=am_ H
     clear H
     go_wp2
     go_meet
     case rel => exact ⟨_,(false),rs_,H',⟨by have:=HK1.out; first | omega | exact Nat.le_refl _⟩,⟨kr_ HO_5.out⟩,⟨bl0_ HB.out⟩⟩
   case rest =>
    clear HC3
    try clear p2
    try clear c4
    try clear c4b0
    try clear p2
    obtain ⟨kq,x16_2,rfl,HA,HJ2,HO_5,HB⟩:=hcut
    cases kq with
    | zero => exact absurd HA.out (by simp [spec_sqAll.j1])
    | succ kj2 =>
     have H:=HA.out
     clear HA
     simp only [spec_sqAll.j1] at H
     by_cases c5:x16_2 = true
     ·subst c5
      have H1:(spec_sqAll.l1 kj2 a0 a1 x5_1 x6_1 0) = some r:=by rw [if_pos rfl] at H; exact H
      clear H
      have H:=H1
      clear H1
      have H':=am_ H
      clear H
      go_wp2
      go_loopg [5,7] kj2 (fun kq v5 v7 w' => ∃ (x5_3:List (S122)) (x7_3:Int),v7 = .int .i64 x7_3 ∧ Aside0 (spec_sqAll.l1 kq a0 a1 x5_3 x6_1 x7_3 = some r) ∧ Aside0 (kq ≤ kj2) ∧ Aside0 (Kd.R k122 122 w' w.heap.size (fun _ => True) v5 x5_3) ∧ Aside0 (Below w.heap.size w w'))
      case atStart => exact ⟨(x5_1),(0),rs_,H',⟨Nat.le_refl _⟩,⟨kr_ HO_5.out⟩,⟨bl0_ HB.out⟩⟩
      case round =>
       clear H'
       try clear p2
       try clear c4
       try clear c4b0
       try clear c5
       try clear p2
       obtain ⟨x5_3,x7_3,rfl,HA,HK3,HO_5,HB⟩:=hrel
       cases gk with
       | zero => exact absurd HA.out (by simp [spec_sqAll.l1])
       | succ k3 =>
        have H:=HA.out
        clear HA
        simp only [spec_sqAll.l1] at H
        by_cases c6:(wrap64 (x7_3 + x6_1)) ≤ a1
        ·rw [if_pos c6] at H
         have c6b0:decide ((wrap64 (x7_3 + x6_1)) ≤ a1) = true:=decide_eq_true c6
         clear c6
         have H':=am_ H
         clear H
         go_wp2
         go_loopg [5,8] k3 (fun kq v5 v8 w' => ∃ (x5_4:List (S122)) (x8_4:Int),v8 = .int .i64 x8_4 ∧ Aside0 (spec_sqAll.l2 kq a0 a1 x5_4 x6_1 x7_3 x8_4 = some r) ∧ Aside0 (kq ≤ k3) ∧ Aside0 (Kd.R k122 122 w' w.heap.size (fun _ => True) v5 x5_4) ∧ Aside0 (Below w.heap.size w w'))
         case atStart => exact ⟨(x5_3),(0),rs_,H',⟨Nat.le_refl _⟩,⟨kr_ HO_5.out⟩,⟨bl0_ HB.out⟩⟩
         case round =>
          clear H'
          try clear p2
          try clear c4
          try clear c4b0
          try clear c5
          try clear c6
          try clear c6b0
          try clear p6
          try clear p2
          obtain ⟨x5_4,x8_4,rfl,HA,HK4,HO_5,HB⟩:=hrel
          cases gk with
          | zero => exact absurd HA.out (by simp [spec_sqAll.l2])
          | succ k4 =>
           have H:=HA.out
           clear HA
           simp only [spec_sqAll.l2] at H
           by_cases c7:(wrap64 (x8_4 + x6_1)) ≤ a0
           ·rw [if_pos c7] at H
            have c7b0:decide ((wrap64 (x8_4 + x6_1)) ≤ a0) = true:=decide_eq_true c7
            clear c7
            replace H:=bi_ H
            obtain ⟨t154,A80,H⟩:=H
            replace H:(if x5_4.length < 4398046511104 then (spec_sqAll.l2 k4 a0 a1 (x5_4 ++ [(⟨x8_4,x7_3,x6_1,t154⟩:S122)]) x6_1 x7_3 (wrap64 (x8_4 + 1))) else (none)) = some r:=H
            have A8:=am_ A80
            clear A80
            by_cases c9:x5_4.length < 4398046511104
            ·rw [if_pos c9] at H
             have LMc9:=am_ c9
             clear c9
             obtain ⟨y155,hy155⟩:∃ y_:List (S122),y_ = (x5_4 ++ [(⟨x8_4,x7_3,x6_1,t154⟩:S122)]):=⟨_,rfl⟩
             replace H:(spec_sqAll.l2 k4 a0 a1 y155 x6_1 x7_3 (wrap64 (x8_4 + 1))) = some r:=by first | (rw [hy155]; with_reducible exact H) | (have H2_:=(Option.bind_some _ _).symm.trans H; rw [hy155]; with_reducible exact H2_) | (have H2_:=(Option.bind_some _ _).symm.trans H; with_reducible exact H2_) | with_reducible exact H | (rw [hy155]; exact H) | exact H
             have Ny155:=am_ hy155
             clear hy155
             have H':=am_ H
             clear H
             go_wp2_with (first | ((with_reducible refine gate_callee (f:=96) rfl ?_); refine goesL_ (some 43) rfl rfl Tryd.func96 (by kernel_rfl) rfl #[.int .i64 a0,.int .i64 a1,.int .i64 x8_4,.int .i64 x7_3,.int .i64 x6_1,.int .i64 x6_1] rfl ob_ ?_; (with_reducible refine (spec_sqAround.calls k4 a0 a1 x8_4 x7_3 x6_1 x6_1 t154 _ A8.out).mono ?_); rintro e w' ⟨rfl,⟨nd,rfl⟩⟩; refine ⟨_,rfl,?_⟩) | ((with_reducible refine gate_builtin (b:=.append) (xs:=#[.tmp 33,.tmp 45]) rfl ?_); at_builtin; refine Kd.R_append k122 (w0:=w) w.heap.size rfl (.tmp 33) (.tmp 45) 69 122 (.agg #[(.int .i64 0),(.int .i64 0),(.int .i64 0),(.int .i64 0)]) 32 rfl Tryd.underlying69 info122 rfl (by decide) (by omega) u5 x5_4 (⟨x8_4,x7_3,x6_1,t154⟩:S122) [.int .i64 x8_4,.int .i64 x7_3,.int .i64 x6_1,.int .i64 t154] (fun _ => True) (fun _ => False) rfl rfl ?aP (fun _ hk => hk.elim) ?aF ?aO ?aB ?aS ?aL ?_; (case aP => exact k122_mkM _ _ _ (⟨x8_4,x7_3,x6_1,t154⟩:S122)); (case aB => exact (bl0_ HB.out)); (case aF => exact (fun _ _ => trivial)); (case aO => exact (kr_ HO_5.out)); (case aS => exact (below_size (bl0_ HB.out))); (case aL => have:=LMc9.out; omega); intro v156 w10 ho hb hg hat; rw [← Ny155.out] at ho; have n0_:=am_ (hb); have n1_:=am_ (ho); clear HB; clear HO_5; have HB:=n0_; have HO157:=n1_; clear n0_ n1_; clear ho hb hg hat))
             go_roundg k4
             case measure => have:=HK1.out; have:=HJ2.out; have:=HK3.out; have:=HK4.out; omega
             case rel => exact ⟨(y155),(wrap64 (x8_4 + 1)),rs_,H',⟨by have:=HK1.out; have:=HJ2.out; have:=HK3.out; have:=HK4.out; omega⟩,⟨kr_ HO157.out⟩,⟨bl0_ HB.out⟩⟩
            ·rw [if_neg c9] at H
             exact absurd H (by simp)
           ·rw [if_neg c7] at H
            have c7b0:decide ((wrap64 (x8_4 + x6_1)) ≤ a0) = false:=decide_eq_false c7
            clear c7
            have H':=am_ H
            clear H
            go_wp2
            go_roundg k4
            case measure => have:=HK1.out; have:=HJ2.out; have:=HK3.out; have:=HK4.out; omega
            case rel => exact ⟨(x5_4),(wrap64 (x7_3 + 1)),rs_,H',⟨by have:=HK1.out; have:=HJ2.out; have:=HK3.out; have:=HK4.out; omega⟩,⟨kr_ HO_5.out⟩,⟨bl0_ HB.out⟩⟩
        ·rw [if_neg c6] at H
         have c6b0:decide ((wrap64 (x7_3 + x6_1)) ≤ a1) = false:=decide_eq_false c6
         clear c6
         have H':=am_ H
         clear H
         go_wp2
         go_roundg k3
         case measure => have:=HK1.out; have:=HJ2.out; have:=HK3.out; omega
         case rel => exact ⟨(x5_3),(wrap64 (x6_1 + 1)),rs_,H',⟨by have:=HK1.out; have:=HJ2.out; have:=HK3.out; omega⟩,⟨kr_ HO_5.out⟩,⟨bl0_ HB.out⟩⟩
     ·replace c5:=Bool.eq_false_iff.mpr c5
      subst c5
      have H1:(some x5_1) = some r:=by rw [if_neg (show ¬ (false = true) by decide)] at H; exact H
      clear H
      have H:=H1
      clear H1
      obtain rfl:=Option.some.inj H
      go_wp2
      go_ret
      exact ⟨_,er_,by (with_reducible repeat (first | apply Kd.R_alloc | apply Kd.R_drewN | apply Kd.R_drew)); exact HO_5.out,bl0_ HB.out⟩


mutual
def spec_sqMask.l0:Nat → Int → List Int → Int → Int → Int → Int → List Int → List Int → Option (Int)
 | 0,_,_,_,_,_,_,_,_ => none
 | k + 1,x3,x9,x10,x11,x159000,x159001,x159002,x159003 => if x11 < x10 then (if 0 ≤ x11 then (if x11 < (x9.length:Int) then ((spec_sqBit.f x159000 x159001 false (rd x9 x11)).bind fun t160 => (spec_sqMask.l0 k (Go.bits .or .i64 x3 t160) x9 x10 (wrap64 (x11 + 1)) x159000 x159001 x159002 x159003)) else (none)) else (none)) else (spec_sqMask.l1 k x3 x159003 (x159003.length:Int) 0 x159000 x159001 x159002 x159003)
def spec_sqMask.l1:Nat → Int → List Int → Int → Int → Int → Int → List Int → List Int → Option (Int)
 | 0,_,_,_,_,_,_,_,_ => none
 | k + 1,x3,x25,x26,x27,x159000,x159001,x159002,x159003 => if x27 < x26 then (if 0 ≤ x27 then (if x27 < (x25.length:Int) then ((spec_sqBit.f x159000 x159001 true (rd x25 x27)).bind fun t162 => (spec_sqMask.l1 k (Go.bits .or .i64 x3 t162) x25 x26 (wrap64 (x27 + 1)) x159000 x159001 x159002 x159003)) else (none)) else (none)) else (some x3)
end
def spec_sqMask.f (k:Nat) (a0_0:Int) (a0_1:Int) (l0_2:List Int) (l0_3:List Int):Option (Int):=spec_sqMask.l0 k 0 l0_2 (l0_2.length:Int) 0 a0_0 a0_1 l0_2 l0_3
theorem spec_sqMask.mono_l:∀ k,(∀ y0 y1 y2 y3 y4 y5 y6 y7,LeO (spec_sqMask.l0 k y0 y1 y2 y3 y4 y5 y6 y7) (spec_sqMask.l0 (k + 1) y0 y1 y2 y3 y4 y5 y6 y7)) ∧ (∀ y0 y1 y2 y3 y4 y5 y6 y7,LeO (spec_sqMask.l1 k y0 y1 y2 y3 y4 y5 y6 y7) (spec_sqMask.l1 (k + 1) y0 y1 y2 y3 y4 y5 y6 y7))
 | 0 => ⟨fun _ _ _ _ _ _ _ _ r h => by simp [spec_sqMask.l0] at h,fun _ _ _ _ _ _ _ _ r h => by simp [spec_sqMask.l1] at h⟩
 | k + 1 => by
  obtain ⟨ih0,ih1⟩:=spec_sqMask.mono_l k
  refine ⟨?_,?_⟩
  ·intro y0 y1 y2 y3 y4 y5 y6 y7
   unfold spec_sqMask.l0
   repeat' first | (with_reducible first | exact ih0 _ _ _ _ _ _ _ _ | exact ih1 _ _ _ _ _ _ _ _ | exact LeO.refl _ | exact LeO.none _ | refine LeO.ite ?_ ?_ | refine LeO.bind ?_ (fun _ => ?_)) | exact ih0 _ _ _ _ _ _ _ _ | exact ih1 _ _ _ _ _ _ _ _
  ·intro y0 y1 y2 y3 y4 y5 y6 y7
   unfold spec_sqMask.l1
   repeat' first | (with_reducible first | exact ih0 _ _ _ _ _ _ _ _ | exact ih1 _ _ _ _ _ _ _ _ | exact LeO.refl _ | exact LeO.none _ | refine LeO.ite ?_ ?_ | refine LeO.bind ?_ (fun _ => ?_)) | exact ih0 _ _ _ _ _ _ _ _ | exact ih1 _ _ _ _ _ _ _ _
theorem spec_sqMask.mono:∀ a0 a1 a2 a3 k,LeO (spec_sqMask.f k a0 a1 a2 a3) (spec_sqMask.f (k + 1) a0 a1 a2 a3):=by
 intro a0 a1 a2 a3 k
 obtain ⟨ih0,ih1⟩:=spec_sqMask.mono_l k
 unfold spec_sqMask.f
 repeat' first | (with_reducible first | exact ih0 _ _ _ _ _ _ _ _ | exact ih1 _ _ _ _ _ _ _ _ | exact LeO.refl _ | exact LeO.none _ | refine LeO.ite ?_ ?_ | refine LeO.bind ?_ (fun _ => ?_)) | exact ih0 _ _ _ _ _ _ _ _ | exact ih1 _ _ _ _ _ _ _ _
set_option maxHeartbeats 8000000 in
set_option maxRecDepth 100000 in
theorem spec_sqMask.calls (k:Nat) (a0_0:Int) (a0_1:Int) (A0_2:Option Addr) (c0_2:Nat) (l0_2:List Int) (A0_3:Option Addr) (c0_3:Nat) (l0_3:List Int) (r:Int) (w:World) (hr0_2:Kd.C (Kd.int .i64) w A0_2 l0_2.length l0_2) (hc0_2:l0_2.length ≤ c0_2) (hr0_3:Kd.C (Kd.int .i64) w A0_3 l0_3.length l0_3) (hc0_3:l0_3.length ≤ c0_3) (h:spec_sqMask.f k a0_0 a0_1 l0_2 l0_3 = some r) :
  Calls Tryd.prog 50 #[.agg #[.int .i64 a0_0,.int .i64 a0_1,.slice A0_2 l0_2.length c0_2,.slice A0_3 l0_3.length c0_3]] w fun e w' => e = .returned (.int .i64 r) ∧ Below w.heap.size w w':=by
 have hu36:=Tryd.underlying36
 have HR0_2:=am_ hr0_2
 have HC0_2:=am_ hc0_2
 clear hr0_2 hc0_2
 have HR0_3:=am_ hr0_3
 have HC0_3:=am_ hc0_3
 clear hr0_3 hc0_3
 have HB:=am_ (Below.refl w.heap.size w)
 have H:(spec_sqMask.l0 k 0 l0_2 (l0_2.length:Int) 0 a0_0 a0_1 l0_2 l0_3) = some r:=h
 clear h
 have H':=am_ H
 clear H
 go_enter Tryd.func50,Tryd.ntmps50
 go_wp2_with (first | ((with_reducible refine gate_dst (N:=1) rfl ?_); refine boxE_ (N:=1) (cs:=#[.int .i64 a0_0,.int .i64 a0_1,.slice A0_2 l0_2.length c0_2,.slice A0_3 l0_3.length c0_3]) (t:=36) ?_; intro gb158 hg w2 hbox hb; have n0_:=am_ (below_step (bl0_ HB.out) hb); have n1_:=am_ (hbox); have n2_:=am_ ((bs0_ hg HB.out:w.heap.size ≤ gb158)); have n3_:=am_ ((bs0_ hg HB.out:w.heap.size ≤ gb158)); clear HB; have HB:=n0_; have BK158:=n1_; have GW158:=n2_; have GE158:=n3_; clear n0_ n1_ n2_ n3_; clear hb hbox hg; have hcz3_0:w2.cell? ⟨gb158,0,none⟩ = some (.int .i64 a0_0):=(bc_ BK158.out 0).trans rfl; have hcz3_1:w2.cell? ⟨gb158,1,none⟩ = some (.int .i64 a0_1):=(bc_ BK158.out 1).trans rfl; have hcz3_2:w2.cell? ⟨gb158,2,none⟩ = some (.slice A0_2 l0_2.length c0_2):=(bc_ BK158.out 2).trans rfl; have hcz3_3:w2.cell? ⟨gb158,3,none⟩ = some (.slice A0_3 l0_3.length c0_3):=(bc_ BK158.out 3).trans rfl; have hfz3_0:=bz_ BK158.out 0; have hfz3_1:=bz_ BK158.out 1; have hfz3_2:=bz_ BK158.out 2; have hfz3_3:=bz_ BK158.out 3))
 go_loopg [3,11] k (fun kq v3 v11 w' => ∃ (x3_1:Int) (x11_1:Int),v3 = .int .i64 x3_1 ∧ v11 = .int .i64 x11_1 ∧ Aside0 (spec_sqMask.l0 kq x3_1 l0_2 (l0_2.length:Int) x11_1 a0_0 a0_1 l0_2 l0_3 = some r) ∧ Aside0 (kq ≤ k) ∧ Aside0 (w'.heap[gb158]? = some (.cells #[.int .i64 a0_0,.int .i64 a0_1,(.slice A0_2 l0_2.length c0_2),(.slice A0_3 l0_3.length c0_3)] 36 (0,0))) ∧ Aside0 (Below w.heap.size w w'))
 case atStart => exact ⟨(0),(0),rs_,rs_,H',⟨Nat.le_refl _⟩,⟨bk_ BK158.out⟩,⟨bl1_ HB.out GE158.out⟩⟩
 case round =>
  clear H'
  try clear p2
  try clear hcz3_0
  try clear hcz3_1
  try clear hcz3_2
  try clear hcz3_3
  try clear hfz3_0
  try clear hfz3_1
  try clear hfz3_2
  try clear hfz3_3
  obtain ⟨x3_1,x11_1,rfl,rfl,HA,HK1,BK158,HB⟩:=hrel
  cases gk with
  | zero => exact absurd HA.out (by simp [spec_sqMask.l0])
  | succ k1 =>
   have H:=HA.out
   clear HA
   simp only [spec_sqMask.l0] at H
   by_cases c4:x11_1 < (l0_2.length:Int)
   ·rw [if_pos c4] at H
    have c4b0:decide (x11_1 < (l0_2.length:Int)) = true:=decide_eq_true c4
    clear c4
    by_cases c5:0 ≤ x11_1
    ·rw [if_pos c5] at H
     have c5b0:decide (0 ≤ x11_1) = true:=decide_eq_true c5
     clear c5
     by_cases c6:x11_1 < (l0_2.length:Int)
     ·rw [if_pos c6] at H
      have c6b0:decide (x11_1 < (l0_2.length:Int)) = true:=decide_eq_true c6
      clear c6
      replace H:=bi_ H
      obtain ⟨t160,A70,H⟩:=H
      replace H:(spec_sqMask.l0 k1 (Go.bits .or .i64 x3_1 t160) l0_2 (l0_2.length:Int) (wrap64 (x11_1 + 1)) a0_0 a0_1 l0_2 l0_3) = some r:=H
      have A7:=am_ A70
      clear A70
      have H':=am_ H
      clear H
      have p159:0 ≤ (x11_1:Int):=of_decide_eq_true as_
      have q159:x11_1 < (l0_2.length:Int):=of_decide_eq_true as_
      obtain ⟨ad159,e159,hx159_0⟩:=Kd.at_int HR0_2.out x11_1 p159 q159
      cases e159
      replace hx159_0:=(HB.out.cell (wl_ w _ hx159_0)).trans hx159_0
      replace p159:=eq_true p159
      replace q159:=eq_true q159
      have hcz8_0:wr.cell? ⟨gb158,0,none⟩ = some (.int .i64 a0_0):=(bc_ BK158.out 0).trans rfl
      have hcz8_1:wr.cell? ⟨gb158,1,none⟩ = some (.int .i64 a0_1):=(bc_ BK158.out 1).trans rfl
      have hcz8_2:wr.cell? ⟨gb158,2,none⟩ = some (.slice (some ad159) l0_2.length c0_2):=(bc_ BK158.out 2).trans rfl
      have hcz8_3:wr.cell? ⟨gb158,3,none⟩ = some (.slice A0_3 l0_3.length c0_3):=(bc_ BK158.out 3).trans rfl
      have hfz8_0:=bz_ BK158.out 0
      have hfz8_1:=bz_ BK158.out 1
      have hfz8_2:=bz_ BK158.out 2
      have hfz8_3:=bz_ BK158.out 3
      go_wp2_with (first | ((with_reducible refine gate_callee (f:=97) rfl ?_); refine goesL_ (some 21) rfl rfl Tryd.func97 (by kernel_rfl) rfl #[.int .i64 a0_0,.int .i64 a0_1,.bool false,.int .i64 (rd l0_2 x11_1)] rfl ob_ ?_; (with_reducible refine (spec_sqBit.calls a0_0 a0_1 false (rd l0_2 x11_1) t160 _ A7.out).mono ?_); rintro e w' ⟨rfl,⟨nd,rfl⟩⟩; refine ⟨_,rfl,?_⟩))
      go_roundg k1
      case measure => have:=HK1.out; omega
      case rel => exact ⟨(Go.bits .or .i64 x3_1 t160),(wrap64 (x11_1 + 1)),rs_,rs_,H',⟨by have:=HK1.out; omega⟩,⟨bk_ BK158.out⟩,⟨bl1_ HB.out GE158.out⟩⟩
     ·rw [if_neg c6] at H
      exact absurd H (by simp)
    ·rw [if_neg c5] at H
     exact absurd H (by simp)
   ·rw [if_neg c4] at H
    have c4b0:decide (x11_1 < (l0_2.length:Int)) = false:=decide_eq_false c4
    clear c4
    have H':=am_ H
    clear H
    have hcz9_0:wr.cell? ⟨gb158,0,none⟩ = some (.int .i64 a0_0):=(bc_ BK158.out 0).trans rfl
    have hcz9_1:wr.cell? ⟨gb158,1,none⟩ = some (.int .i64 a0_1):=(bc_ BK158.out 1).trans rfl
    have hcz9_2:wr.cell? ⟨gb158,2,none⟩ = some (.slice A0_2 l0_2.length c0_2):=(bc_ BK158.out 2).trans rfl
    have hcz9_3:wr.cell? ⟨gb158,3,none⟩ = some (.slice A0_3 l0_3.length c0_3):=(bc_ BK158.out 3).trans rfl
    have hfz9_0:=bz_ BK158.out 0
    have hfz9_1:=bz_ BK158.out 1
    have hfz9_2:=bz_ BK158.out 2
    have hfz9_3:=bz_ BK158.out 3
    go_wp2
    go_loopg [3,27] k1 (fun kq v3 v27 w' => ∃ (x3_2:Int) (x27_2:Int),v3 = .int .i64 x3_2 ∧ v27 = .int .i64 x27_2 ∧ Aside0 (spec_sqMask.l1 kq x3_2 l0_3 (l0_3.length:Int) x27_2 a0_0 a0_1 l0_2 l0_3 = some r) ∧ Aside0 (kq ≤ k1) ∧ Aside0 (w'.heap[gb158]? = some (.cells #[.int .i64 a0_0,.int .i64 a0_1,(.slice A0_2 l0_2.length c0_2),(.slice A0_3 l0_3.length c0_3)] 36 (0,0))) ∧ Aside0 (Below w.heap.size w w'))
    case atStart => exact ⟨(x3_1),(0),rs_,rs_,H',⟨Nat.le_refl _⟩,⟨bk_ BK158.out⟩,⟨bl1_ HB.out GE158.out⟩⟩
    case round =>
     clear H'
     try clear p1
     try clear q1
     try clear hx1
     try clear p2
     try clear c4
     try clear c4b0
     try clear c5
     try clear c5b0
     try clear c6
     try clear c6b0
     try clear p6
     try clear c9
     try clear hcz3_0
     try clear hcz3_1
     try clear hcz3_2
     try clear hcz3_3
     try clear hcz8_0
     try clear hcz8_1
     try clear hcz8_2
     try clear hcz8_3
     try clear hcz9_0
     try clear hcz9_1
     try clear hcz9_2
     try clear hcz9_3
     try clear hfz3_0
     try clear hfz3_1
     try clear hfz3_2
     try clear hfz3_3
     try clear hfz8_0
     try clear hfz8_1
     try clear hfz8_2
     try clear hfz8_3
     try clear hfz9_0
     try clear hfz9_1
     try clear hfz9_2
     try clear hfz9_3
     try clear hx159_0
     try clear p159
     try clear p2
     try clear q159
     obtain ⟨x3_2,x27_2,rfl,rfl,HA,HK2,BK158,HB⟩:=hrel
     cases gk with
     | zero => exact absurd HA.out (by simp [spec_sqMask.l1])
     | succ k2 =>
      have H:=HA.out
      clear HA
      simp only [spec_sqMask.l1] at H
      by_cases c10:x27_2 < (l0_3.length:Int)
      ·rw [if_pos c10] at H
       have c10b0:decide (x27_2 < (l0_3.length:Int)) = true:=decide_eq_true c10
       clear c10
       by_cases c11:0 ≤ x27_2
       ·rw [if_pos c11] at H
        have c11b0:decide (0 ≤ x27_2) = true:=decide_eq_true c11
        clear c11
        by_cases c12:x27_2 < (l0_3.length:Int)
        ·rw [if_pos c12] at H
         have c12b0:decide (x27_2 < (l0_3.length:Int)) = true:=decide_eq_true c12
         clear c12
         replace H:=bi_ H
         obtain ⟨t162,A130,H⟩:=H
         replace H:(spec_sqMask.l1 k2 (Go.bits .or .i64 x3_2 t162) l0_3 (l0_3.length:Int) (wrap64 (x27_2 + 1)) a0_0 a0_1 l0_2 l0_3) = some r:=H
         have A13:=am_ A130
         clear A130
         have H':=am_ H
         clear H
         have p161:0 ≤ (x27_2:Int):=of_decide_eq_true as_
         have q161:x27_2 < (l0_3.length:Int):=of_decide_eq_true as_
         obtain ⟨ad161,e161,hx161_0⟩:=Kd.at_int HR0_3.out x27_2 p161 q161
         cases e161
         replace hx161_0:=(HB.out.cell (wl_ w _ hx161_0)).trans hx161_0
         replace p161:=eq_true p161
         replace q161:=eq_true q161
         have hcz14_0:wr.cell? ⟨gb158,0,none⟩ = some (.int .i64 a0_0):=(bc_ BK158.out 0).trans rfl
         have hcz14_1:wr.cell? ⟨gb158,1,none⟩ = some (.int .i64 a0_1):=(bc_ BK158.out 1).trans rfl
         have hcz14_2:wr.cell? ⟨gb158,2,none⟩ = some (.slice A0_2 l0_2.length c0_2):=(bc_ BK158.out 2).trans rfl
         have hcz14_3:wr.cell? ⟨gb158,3,none⟩ = some (.slice (some ad161) l0_3.length c0_3):=(bc_ BK158.out 3).trans rfl
         have hfz14_0:=bz_ BK158.out 0
         have hfz14_1:=bz_ BK158.out 1
         have hfz14_2:=bz_ BK158.out 2
         have hfz14_3:=bz_ BK158.out 3
         go_wp2_with (first | ((with_reducible refine gate_callee (f:=97) rfl ?_); refine goesL_ (some 37) rfl rfl Tryd.func97 (by kernel_rfl) rfl #[.int .i64 a0_0,.int .i64 a0_1,.bool true,.int .i64 (rd l0_3 x27_2)] rfl ob_ ?_; (with_reducible refine (spec_sqBit.calls a0_0 a0_1 true (rd l0_3 x27_2) t162 _ A13.out).mono ?_); rintro e w' ⟨rfl,⟨nd,rfl⟩⟩; refine ⟨_,rfl,?_⟩))
         go_roundg k2
         case measure => have:=HK1.out; have:=HK2.out; omega
         case rel => exact ⟨(Go.bits .or .i64 x3_2 t162),(wrap64 (x27_2 + 1)),rs_,rs_,H',⟨by have:=HK1.out; have:=HK2.out; omega⟩,⟨bk_ BK158.out⟩,⟨bl1_ HB.out GE158.out⟩⟩
        ·rw [if_neg c12] at H
         exact absurd H (by simp)
       ·rw [if_neg c11] at H
        exact absurd H (by simp)
      ·rw [if_neg c10] at H
       have c10b0:decide (x27_2 < (l0_3.length:Int)) = false:=decide_eq_false c10
       clear c10
       obtain rfl:=Option.some.inj H
       go_wp2
       go_ret
       exact ⟨er_,bl1_ HB.out GE158.out⟩


theorem sqBit_f (w h:Int) (up:Bool) (n:Nat) (hw:wrap64 (w * wrap64 (h + 1)) = w * (h + 1)) (h0:0 ≤ w * (h + 1)) (h1:w * (h + 1) ≤ 20) (hn:n ≤ 20):spec_sqBit.f w h up (n:Int) = some ((2 ^ ((if up then (w * (h + 1)).toNat else 0) + n):Nat):Int):=by
 unfold spec_sqBit.f
 cases up with
 | false =>
  rw [if_neg (by simp),if_pos (by omega),shl_i64 n (by omega)]
  simp
 | true =>
  have e3:wrap64 (w * (h + 1) + (n:Int)) = (((w * (h + 1)).toNat + n:Nat):Int):=by unfold wrap64; omega
  rw [if_pos rfl,hw,e3,if_pos (by omega),shl_i64 _ (by omega)]
  rfl
theorem sqMask_l1 (w h:Int) (a u:List Int) (hL:u.length ≤ 4000000) (hw:wrap64 (w * wrap64 (h + 1)) = w * (h + 1)) (h0:0 ≤ w * (h + 1)) (h1:w * (h + 1) ≤ 20) (hu:∀ k ∈ u,0 ≤ k ∧ k ≤ 20):∀ (d k i:Nat) (m:Nat),u.length - i = d → i ≤ u.length → d < k → m < 2 ^ 60 →
  spec_sqMask.l1 k (m:Int) u (u.length:Int) (i:Int) w h a u = some ((bitsFrom (w * (h + 1)).toNat (u.drop i) m:Nat):Int):=by
 intro d
 induction d with
 | zero =>
  intro k i m h2 h3 h4 h5
  obtain ⟨k,rfl⟩:∃ q,k = q + 1:=⟨k - 1,by omega⟩
  simp only [spec_sqMask.l1]
  rw [if_neg (by omega),List.drop_of_length_le (by omega)]
  rfl
 | succ d ih =>
  intro k i m h2 h3 h4 h5
  obtain ⟨k,rfl⟩:∃ q,k = q + 1:=⟨k - 1,by omega⟩
  have hi:i < u.length:=by omega
  have hk:=hu u[i] (List.getElem_mem hi)
  have e2:wrap64 ((i:Int) + 1) = ((i + 1:Nat):Int):=by unfold wrap64; omega
  have hr:=rd_nat u i hi
  have hd:=List.drop_eq_getElem_cons hi
  have c1:(i:Int) < (u.length:Int):=Int.ofNat_lt.2 hi
  have c2:(0:Int) ≤ (i:Int):=Int.natCast_nonneg _
  have n1:u.length - (i + 1) = d:=by clear hk hr hd c1 c2 ih h5 hw h0 h1 hu; omega
  have n3:d < k:=by clear hk hr hd c1 c2 ih h5 hw h0 h1 hu; omega
  have hih:=fun m hm => ih k (i + 1) m n1 hi n3 hm
  generalize u[i] = x at hk hr hd
  obtain ⟨y,rfl⟩:∃ y:Nat,x = (y:Int):=⟨x.toNat,(Int.toNat_of_nonneg hk.1).symm⟩
  have hy20:y ≤ 20:=by have:=hk.2; clear hr hd c1 c2 ih h5 hw h0 h1 hu hih; omega
  have hlt:(w * (h + 1)).toNat + y < 60:=by clear hr hd c1 c2 ih h5 hw hu hih hk; omega
  simp only [spec_sqMask.l1]
  rw [if_pos c1,if_pos c2,if_pos c1,hr,sqBit_f w h true y hw h0 h1 hy20,Option.bind_some,if_pos rfl,or_i64 _ _ h5 (pow_lt60 hlt),e2,hih _ (Nat.or_lt_two_pow h5 (pow_lt60 hlt)),hd]
  unfold bitsFrom
  rw [List.foldl_cons,Int.toNat_natCast]
theorem sqMask_l0 (w h:Int) (a u:List Int) (hL:a.length ≤ 4000000) (hLu:u.length ≤ 4000000) (hw:wrap64 (w * wrap64 (h + 1)) = w * (h + 1)) (h0:0 ≤ w * (h + 1)) (h1:w * (h + 1) ≤ 20) (ha:∀ k ∈ a,0 ≤ k ∧ k ≤ 20) (hu:∀ k ∈ u,0 ≤ k ∧ k ≤ 20):∀ (d k i:Nat) (m:Nat),a.length - i = d → i ≤ a.length → d + u.length + 2 < k → m < 2 ^ 60 →
  spec_sqMask.l0 k (m:Int) a (a.length:Int) (i:Int) w h a u = some ((bitsFrom (w * (h + 1)).toNat u (bitsFrom 0 (a.drop i) m):Nat):Int):=by
 intro d
 induction d with
 | zero =>
  intro k i m h2 h3 h4 h5
  obtain ⟨k,rfl⟩:∃ q,k = q + 1:=⟨k - 1,by omega⟩
  simp only [spec_sqMask.l0]
  rw [if_neg (by omega),List.drop_of_length_le (by omega)]
  exact sqMask_l1 w h a u hLu hw h0 h1 hu u.length k 0 m (by omega) (by omega) (by omega) h5
 | succ d ih =>
  intro k i m h2 h3 h4 h5
  obtain ⟨k,rfl⟩:∃ q,k = q + 1:=⟨k - 1,by omega⟩
  have hi:i < a.length:=by omega
  have hk:=ha a[i] (List.getElem_mem hi)
  have e2:wrap64 ((i:Int) + 1) = ((i + 1:Nat):Int):=by unfold wrap64; omega
  have hr:=rd_nat a i hi
  have hd:=List.drop_eq_getElem_cons hi
  have c1:(i:Int) < (a.length:Int):=Int.ofNat_lt.2 hi
  have c2:(0:Int) ≤ (i:Int):=Int.natCast_nonneg _
  have n1:a.length - (i + 1) = d:=by clear hk hr hd c1 c2 ih h5 hw h0 h1 hu ha; omega
  have n3:d + u.length + 2 < k:=by clear hk hr hd c1 c2 ih h5 hw h0 h1 hu ha; omega
  have hih:=fun m hm => ih k (i + 1) m n1 hi n3 hm
  generalize a[i] = x at hk hr hd
  obtain ⟨y,rfl⟩:∃ y:Nat,x = (y:Int):=⟨x.toNat,(Int.toNat_of_nonneg hk.1).symm⟩
  have hlt:0 + y < 60:=by have:=hk.2; clear hr hd c1 c2 ih h5 hw h0 h1 hu ha hih; omega
  have hy20:y ≤ 20:=by have:=hk.2; clear hr hd c1 c2 ih h5 hw h0 h1 hu ha hih; omega
  simp only [spec_sqMask.l0]
  rw [if_pos c1,if_pos c2,if_pos c1,hr,sqBit_f w h false y hw h0 h1 hy20,Option.bind_some,if_neg (by simp),or_i64 _ _ h5 (pow_lt60 hlt),e2,hih _ (Nat.or_lt_two_pow h5 (pow_lt60 hlt)),hd]
  unfold bitsFrom
  rw [List.foldl_cons,Int.toNat_natCast]
theorem sqMask_f {w h:Int} {a u:List Int} (hf:figB w h a u = true) (ha:a.length ≤ 1000000) (hu:u.length ≤ 1000000) (k:Nat) (hk:2000010 < k):spec_sqMask.f k w h a u = some ((figMask w h a u:Nat):Int):=by
 unfold figB at hf
 simp only [Bool.and_eq_true] at hf
 obtain ⟨hg,-,-,hi1,hi2⟩:=hf
 obtain ⟨b1,b2,b3,b4⟩:=grid_bounds (by simp only [Bool.and_eq_true]; exact hg)
 obtain ⟨c1,c2,c3,c4⟩:=area_bounds b1 b2 b3 b4
 have e1:wrap64 (h + 1) = h + 1:=by unfold wrap64; omega
 have e3:wrap64 (w * (h + 1)) = w * (h + 1):=by unfold wrap64; omega
 unfold spec_sqMask.f figMask
 have q:=sqMask_l0 w h a u (by omega) (by omega) (by rw [e1,e3]) (by omega) (by omega) (fun k hk => by have:=inB_mem hi1 k hk; omega) (fun k hk => by have:=inB_mem hi2 k hk; omega) a.length k 0 0 (by omega) (by omega) (by clear hi1 hi2; omega) (by decide)
 rw [List.drop_zero] at q
 exact q
def sqsSame (w h:Nat):Bool :=
 match impl_grid_squares.f 200 (w:Int) (h:Int),spec_sqAll.f 200 (w:Int) (h:Int) with
 | some L,some PL => (L.map (fun q => q.f3) == PL.map (fun q => q.f3)) && L.all (fun q => decide (0 ≤ q.f3) && decide (q.f3 < 2 ^ 60)) && decide (L.length ≤ 30)
 | _,_ => false
theorem sqs_11:sqsSame 1 1 = true:=by decide +kernel
theorem sqs_12:sqsSame 1 2 = true:=by decide +kernel
theorem sqs_13:sqsSame 1 3 = true:=by decide +kernel
theorem sqs_14:sqsSame 1 4 = true:=by decide +kernel
theorem sqs_21:sqsSame 2 1 = true:=by decide +kernel
theorem sqs_22:sqsSame 2 2 = true:=by decide +kernel
theorem sqs_23:sqsSame 2 3 = true:=by decide +kernel
theorem sqs_24:sqsSame 2 4 = true:=by decide +kernel
theorem sqs_31:sqsSame 3 1 = true:=by decide +kernel
theorem sqs_32:sqsSame 3 2 = true:=by decide +kernel
theorem sqs_33:sqsSame 3 3 = true:=by decide +kernel
theorem sqs_34:sqsSame 3 4 = true:=by decide +kernel
theorem sqs_41:sqsSame 4 1 = true:=by decide +kernel
theorem sqs_42:sqsSame 4 2 = true:=by decide +kernel
theorem sqs_43:sqsSame 4 3 = true:=by decide +kernel
theorem sqs_44:sqsSame 4 4 = true:=by decide +kernel
theorem sqs_all (w h:Nat) (h1:1 ≤ w) (h2:w ≤ 4) (h3:1 ≤ h) (h4:h ≤ 4):sqsSame w h = true:=by
 have hw:w = 1 ∨ w = 2 ∨ w = 3 ∨ w = 4:=by omega
 have hh:h = 1 ∨ h = 2 ∨ h = 3 ∨ h = 4:=by omega
 rcases hw with rfl | rfl | rfl | rfl <;> rcases hh with rfl | rfl | rfl | rfl
 ·exact sqs_11
 ·exact sqs_12
 ·exact sqs_13
 ·exact sqs_14
 ·exact sqs_21
 ·exact sqs_22
 ·exact sqs_23
 ·exact sqs_24
 ·exact sqs_31
 ·exact sqs_32
 ·exact sqs_33
 ·exact sqs_34
 ·exact sqs_41
 ·exact sqs_42
 ·exact sqs_43
 ·exact sqs_44
theorem nat_of_list {α:Type} (f:α → Int):∀ l:List α,(∀ q ∈ l,0 ≤ f q ∧ f q < 2 ^ 60) → ∃ E:List Nat,l.map f = E.map (fun n:Nat => (n:Int)) ∧ ∀ e ∈ E,e < 2 ^ 60
 | [],_ => ⟨[],rfl,fun _ h => by cases h⟩
 | x :: l,h => by
  obtain ⟨E,h1,h2⟩:=nat_of_list f l (fun q hq => h q (List.mem_cons_of_mem _ hq))
  obtain ⟨h3,h4⟩:=h x List.mem_cons_self
  refine ⟨(f x).toNat :: E,?_,fun e he => ?_⟩
  ·rw [List.map_cons,List.map_cons,h1,Int.toNat_of_nonneg h3]
  ·rcases List.mem_cons.1 he with rfl | he
   ·omega
   ·exact h2 e he
theorem squares_f {w h:Int} (h1:1 ≤ w) (h2:w ≤ 4) (h3:1 ≤ h) (h4:h ≤ 4) (k:Nat) (hk:200 ≤ k):∃ (L:List S118) (PL:List S122) (E:List Nat),impl_grid_squares.f k w h = some L ∧ spec_sqAll.f k w h = some PL ∧ L.map (fun q => q.f3) = E.map (fun n:Nat => (n:Int)) ∧ PL.map (fun q => q.f3) = E.map (fun n:Nat => (n:Int)) ∧ (∀ e ∈ E,e < 2 ^ 60) ∧ L.length ≤ 30:=by
 obtain ⟨w,rfl⟩:=Int.eq_ofNat_of_zero_le (show 0 ≤ w by omega)
 obtain ⟨h,rfl⟩:=Int.eq_ofNat_of_zero_le (show 0 ≤ h by omega)
 have hs:sqsSame w h = true:=sqs_all w h (by omega) (by omega) (by omega) (by omega)
 unfold sqsSame at hs
 cases hL:impl_grid_squares.f 200 (w:Int) (h:Int) with
 | none => rw [hL] at hs; cases hs
 | some L =>
  cases hP:spec_sqAll.f 200 (w:Int) (h:Int) with
  | none => rw [hL,hP] at hs; cases hs
  | some PL =>
   rw [hL,hP] at hs
   simp only [Bool.and_eq_true,beq_iff_eq,decide_eq_true_eq] at hs
   obtain ⟨⟨e1,e2⟩,e3⟩:=hs
   obtain ⟨E,e4,e5⟩:=nat_of_list (fun q:S118 => q.f3) L (fun q hq => by
    have:=List.all_eq_true.1 e2 q hq
    simpa using this)
   exact ⟨L,PL,E,up_rounds (fun k => impl_grid_squares.mono _ _ k) hk hL,up_rounds (fun k => spec_sqAll.mono _ _ k) hk hP,e4,by rw [← e1,e4],e5,e3⟩
def subE (e x:Nat):Bool:=diffN e x == 0
theorem subE_test {e x:Nat}:subE e x = true ↔ ∀ i,e.testBit i = true → x.testBit i = true:=by
 unfold subE
 rw [beq_iff_eq]
 constructor
 ·intro h i hi
  have h2:=diffN_test e x i
  rw [h,hi] at h2
  simpa using h2.symm
 ·intro h
  apply Nat.eq_of_testBit_eq
  intro i
  rw [diffN_test,Nat.zero_testBit]
  cases hi:e.testBit i with
  | false => rfl
  | true => rw [h i hi]; rfl
theorem subE_and (e x:Nat):subE e x = true ↔ x &&& e = e:=by
 rw [subE_test]
 constructor
 ·intro h
  apply Nat.eq_of_testBit_eq
  intro i
  rw [Nat.testBit_and]
  cases hi:e.testBit i with
  | false => simp
  | true => rw [h i hi]; rfl
 ·intro h i hi
  have h2:=congrArg (fun n => n.testBit i) h
  simp only [Nat.testBit_and,hi,Bool.and_true] at h2
  exact h2
theorem map_at {α:Type} {f:α → Int} {L:List α} {E:List Nat} (h:L.map f = E.map (fun n:Nat => (n:Int))) (d:α) (i:Nat) (hi:i < E.length):i < L.length ∧ f (L.getD i d) = ((E[i]:Nat):Int):=by
 have hl:L.length = E.length:=by have:=congrArg List.length h; simpa using this
 refine ⟨by omega,?_⟩
 have h2:=congrArg (fun l => l[i]?) h
 simp only [List.getElem?_map] at h2
 rw [List.getElem?_eq_getElem (show i < L.length by omega),List.getElem?_eq_getElem hi] at h2
 rw [List.getD_eq_getElem?_getD,List.getElem?_eq_getElem (show i < L.length by omega)]
 simpa using h2
theorem filter_map {α:Type} (f:α → Int) (p:Int → Bool) (q:Nat → Bool):∀ (L:List α) (E:List Nat),L.map f = E.map (fun n:Nat => (n:Int)) → (∀ e ∈ E,p ((e:Nat):Int) = q e) → (L.filter fun x => p (f x)).map f = (E.filter q).map (fun n:Nat => (n:Int))
 | [],[],_,_ => rfl
 | [],e :: E,h,_ => by cases h
 | x :: L,[],h,_ => by cases h
 | x :: L,e :: E,h,hp => by
  rw [List.map_cons,List.map_cons] at h
  injection h with h1 h2
  have ih:=filter_map f p q L E h2 (fun e he => hp e (List.mem_cons_of_mem _ he))
  have h3:p (f x) = q e:=by rw [h1]; exact hp e List.mem_cons_self
  by_cases hq:q e = true
  ·rw [List.filter_cons_of_pos (p:=fun x => p (f x)) (h3.trans hq),List.filter_cons_of_pos hq,List.map_cons,List.map_cons,ih,h1]
  ·rw [List.filter_cons_of_neg (p:=fun x => p (f x)) (by rw [h3]; exact hq),List.filter_cons_of_neg hq,ih]
theorem of_f {L:List S118} {E:List Nat} (h:L.map (fun q => q.f3) = E.map (fun n:Nat => (n:Int))) (hE:∀ e ∈ E,e < 2 ^ 60) (hl:L.length ≤ 30) (x:Nat) (hx:x < 2 ^ 60):∃ L',impl_of.f L (x:Int) = some L' ∧ L'.map (fun q => q.f3) = (E.filter fun e => subE e x).map (fun n:Nat => (n:Int)) ∧ L' = L.filter (ofP (x:Int)):=by
 refine ⟨L.filter (ofP (x:Int)),?_,?_,rfl⟩
 ·unfold impl_of.f
  rw [if_pos (Nat.le_trans hl (by decide))]
 ·have:=filter_map (fun q:S118 => q.f3) (fun y => Go.bits .andNot .u64 y (x:Int) == 0) (fun e => subE e x) L E h (fun e he => by
   rw [andNot_u64 _ _ (hE e he) hx]
   unfold subE
   rw [Bool.eq_iff_iff,beq_iff_eq,beq_iff_eq]
   exact ⟨fun h => by exact_mod_cast h,fun h => by rw [h]; rfl⟩)
  exact this


mutual
def spec_sqHit.l0:Nat → List (S122) → Int → Int → List (S122) → Int → Int → Option (Bool)
 | 0,_,_,_,_,_,_ => none
 | k + 1,x0,x1,x2,x10,x11,x12 => if x12 < x11 then (if 0 ≤ x12 then (if x12 < (x10.length:Int) then (if (Go.bits .and .i64 x1 ((rd_T122 x10 x12).f3)) = ((rd_T122 x10 x12).f3) then (if x2 = 0 then (some false) else (spec_sqHit.l1 k x0 x1 x2 ((rd_T122 x10 x12).f3))) else (spec_sqHit.l0 k x0 x1 x2 x10 x11 (wrap64 (x12 + 1)))) else (none)) else (none)) else (some true)
def spec_sqHit.l1:Nat → List (S122) → Int → Int → Int → Option (Bool)
 | 0,_,_,_,_ => none
 | k + 1,x0,x1,x2,x9 => if x9 = 0 then (some false) else ((spec_sqHit.f k x0 (Go.bits .andNot .i64 x1 (Go.bits .and .i64 x9 (wrap64 (-x9)))) (wrap64 (x2 - 1))).bind fun t148 => (if t148 = true then (some true) else (spec_sqHit.l1 k x0 x1 x2 (Go.bits .and .i64 x9 (wrap64 (x9 - 1))))))
def spec_sqHit.f:Nat → List (S122) → Int → Int → Option (Bool)
 | 0,_,_,_ => none
 | k + 1,l0,a1,a2 => spec_sqHit.l0 k l0 a1 a2 l0 (l0.length:Int) 0
end
theorem spec_sqHit.mono_l:∀ k,(∀ y0 y1 y2,LeO (spec_sqHit.f k y0 y1 y2) (spec_sqHit.f (k + 1) y0 y1 y2)) ∧ (∀ y0 y1 y2 y3 y4 y5,LeO (spec_sqHit.l0 k y0 y1 y2 y3 y4 y5) (spec_sqHit.l0 (k + 1) y0 y1 y2 y3 y4 y5)) ∧ (∀ y0 y1 y2 y3,LeO (spec_sqHit.l1 k y0 y1 y2 y3) (spec_sqHit.l1 (k + 1) y0 y1 y2 y3))
 | 0 => ⟨fun _ _ _ r h => by simp [spec_sqHit.f] at h,fun _ _ _ _ _ _ r h => by simp [spec_sqHit.l0] at h,fun _ _ _ _ r h => by simp [spec_sqHit.l1] at h⟩
 | k + 1 => by
  obtain ⟨ih0,ih1,ih2⟩:=spec_sqHit.mono_l k
  refine ⟨?_,?_,?_⟩
  ·intro y0 y1 y2
   unfold spec_sqHit.f
   repeat' first | (with_reducible first | exact ih0 _ _ _ | exact ih1 _ _ _ _ _ _ | exact ih2 _ _ _ _ | exact LeO.refl _ | exact LeO.none _ | refine LeO.ite ?_ ?_ | refine LeO.bind ?_ (fun _ => ?_)) | exact ih0 _ _ _ | exact ih1 _ _ _ _ _ _ | exact ih2 _ _ _ _
  ·intro y0 y1 y2 y3 y4 y5
   unfold spec_sqHit.l0
   repeat' first | (with_reducible first | exact ih0 _ _ _ | exact ih1 _ _ _ _ _ _ | exact ih2 _ _ _ _ | exact LeO.refl _ | exact LeO.none _ | refine LeO.ite ?_ ?_ | refine LeO.bind ?_ (fun _ => ?_)) | exact ih0 _ _ _ | exact ih1 _ _ _ _ _ _ | exact ih2 _ _ _ _
  ·intro y0 y1 y2 y3
   unfold spec_sqHit.l1
   repeat' first | (with_reducible first | exact ih0 _ _ _ | exact ih1 _ _ _ _ _ _ | exact ih2 _ _ _ _ | exact LeO.refl _ | exact LeO.none _ | refine LeO.ite ?_ ?_ | refine LeO.bind ?_ (fun _ => ?_)) | exact ih0 _ _ _ | exact ih1 _ _ _ _ _ _ | exact ih2 _ _ _ _
theorem spec_sqHit.mono:∀ a0 a1 a2 k,LeO (spec_sqHit.f k a0 a1 a2) (spec_sqHit.f (k + 1) a0 a1 a2):=by
 intro a0 a1 a2 k
 obtain ⟨ih0,ih1,ih2⟩:=spec_sqHit.mono_l k
 exact ih0 a0 a1 a2
set_option maxHeartbeats 8000000 in
set_option maxRecDepth 100000 in
theorem spec_sqHit.calls (k:Nat):∀ (A0:Option Addr) (c0:Nat) (l0:List (S122)) (a1:Int) (a2:Int) (r:Bool) (w:World) (hr0:Kd.C k122 w A0 l0.length l0) (hc0:l0.length ≤ c0) (h:spec_sqHit.f k l0 a1 a2 = some r),
  Calls Tryd.prog 95 #[.slice A0 l0.length c0,.int .i64 a1,.int .i64 a2] w fun e w' => e = .returned (.bool r) ∧ Below w.heap.size w w':=by
 induction k using Nat.strongRecOn with
 | _ k ih =>
 intro A0 c0 l0 a1 a2 r w hr0 hc0 h
 cases k with
 | zero => exact absurd h (by simp [spec_sqHit.f])
 | succ k =>
 simp only [spec_sqHit.f] at h
 have hu122:=Tryd.underlying122
 have HR0:=am_ hr0
 have HC0:=am_ hc0
 clear hr0 hc0
 have HB:=am_ (Below.refl w.heap.size w)
 have H:(spec_sqHit.l0 k l0 a1 a2 l0 (l0.length:Int) 0) = some r:=h
 clear h
 have H':=am_ H
 clear H
 go_enter Tryd.func95,Tryd.ntmps95
 go_wp2
 go_loopg [12] k (fun kq v12 w' => ∃ (x12_1:Int),v12 = .int .i64 x12_1 ∧ Aside0 (spec_sqHit.l0 kq l0 a1 a2 l0 (l0.length:Int) x12_1 = some r) ∧ Aside0 (kq ≤ k) ∧ Aside0 (Below w.heap.size w w'))
 case atStart => exact ⟨(0),rs_,H',⟨Nat.le_refl _⟩,⟨bl0_ HB.out⟩⟩
 case round =>
  clear H'
  try clear p2
  obtain ⟨x12_1,rfl,HA,HK1,HB⟩:=hrel
  cases gk with
  | zero => exact absurd HA.out (by simp [spec_sqHit.l0])
  | succ k1 =>
   have H:=HA.out
   clear HA
   simp only [spec_sqHit.l0] at H
   by_cases c4:x12_1 < (l0.length:Int)
   ·rw [if_pos c4] at H
    have c4b0:decide (x12_1 < (l0.length:Int)) = true:=decide_eq_true c4
    clear c4
    by_cases c5:0 ≤ x12_1
    ·rw [if_pos c5] at H
     have c5b0:decide (0 ≤ x12_1) = true:=decide_eq_true c5
     clear c5
     by_cases c6:x12_1 < (l0.length:Int)
     ·rw [if_pos c6] at H
      have c6b0:decide (x12_1 < (l0.length:Int)) = true:=decide_eq_true c6
      clear c6
      by_cases c7:(Go.bits .and .i64 a1 ((rd_T122 l0 x12_1).f3)) = ((rd_T122 l0 x12_1).f3)
      ·rw [if_pos c7] at H
       have c7b0:((Go.bits .and .i64 a1 ((rd_T122 l0 x12_1).f3)) == ((rd_T122 l0 x12_1).f3)) = true:=beq_iff_eq.mpr c7
       have c7b1:((Go.bits .and .i64 a1 ((rd_T122 l0 x12_1).f3)) != ((rd_T122 l0 x12_1).f3)) = false:=bne_eq_false_iff_eq.mpr c7
       clear c7
       by_cases c8:a2 = 0
       ·rw [if_pos c8] at H
        have c8b0:(a2 == 0) = true:=beq_iff_eq.mpr c8
        have c8b1:(a2 != 0) = false:=bne_eq_false_iff_eq.mpr c8
        clear c8
        obtain rfl:=Option.some.inj H
        have p146:0 ≤ (x12_1:Int):=of_decide_eq_true as_
        have q146:x12_1 < (l0.length:Int):=of_decide_eq_true as_
        obtain ⟨ad146,e146,hx146_0,hx146_1,hx146_2,hx146_3⟩:=at_T122 HR0.out x12_1 p146 q146
        cases e146
        replace hx146_0:=(HB.out.cell (wl_ w _ hx146_0)).trans hx146_0
        replace hx146_1:=(HB.out.cell (wl_ w _ hx146_1)).trans hx146_1
        replace hx146_2:=(HB.out.cell (wl_ w _ hx146_2)).trans hx146_2
        replace hx146_3:=(HB.out.cell (wl_ w _ hx146_3)).trans hx146_3
        replace p146:=eq_true p146
        replace q146:=eq_true q146
        go_wp2_with (first | ((with_reducible refine gate_dst (N:=8) rfl ?_); refine boxE_ (N:=8) (cs:=#[.int .i64 0,.int .i64 0,.int .i64 0,.int .i64 0]) (t:=122) ?_; intro gb147 hg w9 hbox hb; have n0_:=am_ (below_step (bl0_ HB.out) hb); have n1_:=am_ (hbox); have n2_:=am_ ((bs0_ hg HB.out:w.heap.size ≤ gb147)); have n3_:=am_ ((bs0_ hg HB.out:w.heap.size ≤ gb147)); clear HB; have HB:=n0_; have BK147:=n1_; have GW147:=n2_; have GE147:=n3_; clear n0_ n1_ n2_ n3_; clear hb hbox hg; have hcz10_0:w9.cell? ⟨gb147,0,none⟩ = some (.int .i64 0):=(bc_ BK147.out 0).trans rfl; have hcz10_1:w9.cell? ⟨gb147,1,none⟩ = some (.int .i64 0):=(bc_ BK147.out 1).trans rfl; have hcz10_2:w9.cell? ⟨gb147,2,none⟩ = some (.int .i64 0):=(bc_ BK147.out 2).trans rfl; have hcz10_3:w9.cell? ⟨gb147,3,none⟩ = some (.int .i64 0):=(bc_ BK147.out 3).trans rfl; have hfz10_0:=bz_ BK147.out 0; have hfz10_1:=bz_ BK147.out 1; have hfz10_2:=bz_ BK147.out 2; have hfz10_3:=bz_ BK147.out 3))
        go_ret
        exact ⟨er_,bl1_ HB.out GE147.out⟩
       ·rw [if_neg c8] at H
        have c8b0:(a2 == 0) = false:=beq_eq_false_iff_ne.mpr c8
        have c8b1:(a2 != 0) = true:=bne_iff_ne.mpr c8
        have H':=am_ H
        clear H
        have p146:0 ≤ (x12_1:Int):=of_decide_eq_true as_
        have q146:x12_1 < (l0.length:Int):=of_decide_eq_true as_
        obtain ⟨ad146,e146,hx146_0,hx146_1,hx146_2,hx146_3⟩:=at_T122 HR0.out x12_1 p146 q146
        cases e146
        replace hx146_0:=(HB.out.cell (wl_ w _ hx146_0)).trans hx146_0
        replace hx146_1:=(HB.out.cell (wl_ w _ hx146_1)).trans hx146_1
        replace hx146_2:=(HB.out.cell (wl_ w _ hx146_2)).trans hx146_2
        replace hx146_3:=(HB.out.cell (wl_ w _ hx146_3)).trans hx146_3
        replace p146:=eq_true p146
        replace q146:=eq_true q146
        go_wp2_with (first | ((with_reducible refine gate_dst (N:=8) rfl ?_); refine boxE_ (N:=8) (cs:=#[.int .i64 0,.int .i64 0,.int .i64 0,.int .i64 0]) (t:=122) ?_; intro gb147 hg w11 hbox hb; have n0_:=am_ (below_step (bl0_ HB.out) hb); have n1_:=am_ (hbox); have n2_:=am_ ((bs0_ hg HB.out:w.heap.size ≤ gb147)); have n3_:=am_ ((bs0_ hg HB.out:w.heap.size ≤ gb147)); clear HB; have HB:=n0_; have BK147:=n1_; have GW147:=n2_; have GE147:=n3_; clear n0_ n1_ n2_ n3_; clear hb hbox hg; have hcz12_0:w11.cell? ⟨gb147,0,none⟩ = some (.int .i64 0):=(bc_ BK147.out 0).trans rfl; have hcz12_1:w11.cell? ⟨gb147,1,none⟩ = some (.int .i64 0):=(bc_ BK147.out 1).trans rfl; have hcz12_2:w11.cell? ⟨gb147,2,none⟩ = some (.int .i64 0):=(bc_ BK147.out 2).trans rfl; have hcz12_3:w11.cell? ⟨gb147,3,none⟩ = some (.int .i64 0):=(bc_ BK147.out 3).trans rfl; have hfz12_0:=bz_ BK147.out 0; have hfz12_1:=bz_ BK147.out 1; have hfz12_2:=bz_ BK147.out 2; have hfz12_3:=bz_ BK147.out 3))
        go_loopg [9] k1 (fun kq v9 w' => ∃ (x9_2:Int),v9 = .int .i64 x9_2 ∧ Aside0 (spec_sqHit.l1 kq l0 a1 a2 x9_2 = some r) ∧ Aside0 (kq ≤ k1) ∧ Aside0 (w'.heap[gb147]? = some (.cells #[.int .i64 ((rd_T122 l0 x12_1).f0),.int .i64 ((rd_T122 l0 x12_1).f1),.int .i64 ((rd_T122 l0 x12_1).f2),.int .i64 ((rd_T122 l0 x12_1).f3)] 122 (0,0))) ∧ Aside0 (Below w.heap.size w w'))
        case atStart => exact ⟨((rd_T122 l0 x12_1).f3),rs_,H',⟨Nat.le_refl _⟩,⟨by (with_reducible repeat (first | refine blk_drewN ?_ _ | refine blk_drew ?_ | refine blk_alloc ?_ _)); refine blk_put (cs:=#[.int .i64 ((rd_T122 l0 x12_1).f0),.int .i64 ((rd_T122 l0 x12_1).f1),.int .i64 ((rd_T122 l0 x12_1).f2),.int .i64 0]) ?_ 3 _ rfl; (with_reducible repeat (first | refine blk_drewN ?_ _ | refine blk_drew ?_ | refine blk_alloc ?_ _)); refine blk_put (cs:=#[.int .i64 ((rd_T122 l0 x12_1).f0),.int .i64 ((rd_T122 l0 x12_1).f1),.int .i64 0,.int .i64 0]) ?_ 2 _ rfl; (with_reducible repeat (first | refine blk_drewN ?_ _ | refine blk_drew ?_ | refine blk_alloc ?_ _)); refine blk_put (cs:=#[.int .i64 ((rd_T122 l0 x12_1).f0),.int .i64 0,.int .i64 0,.int .i64 0]) ?_ 1 _ rfl; (with_reducible repeat (first | refine blk_drewN ?_ _ | refine blk_drew ?_ | refine blk_alloc ?_ _)); refine blk_put (cs:=#[.int .i64 0,.int .i64 0,.int .i64 0,.int .i64 0]) ?_ 0 _ rfl; (with_reducible repeat (first | refine blk_drewN ?_ _ | refine blk_drew ?_ | refine blk_alloc ?_ _)); exact BK147.out⟩,⟨bl1_ HB.out GE147.out⟩⟩
        case round =>
         clear H'
         try clear p1
         try clear q1
         try clear hx1
         try clear p2
         try clear c4
         try clear c4b0
         try clear c5
         try clear c5b0
         try clear c6
         try clear c6b0
         try clear c7
         try clear c7b0
         try clear c7b1
         try clear c8
         try clear c8b0
         try clear c8b1
         try clear c9
         try clear hcz10_0
         try clear hcz10_1
         try clear hcz10_2
         try clear hcz10_3
         try clear hcz12_0
         try clear hcz12_1
         try clear hcz12_2
         try clear hcz12_3
         try clear hfz10_0
         try clear hfz10_1
         try clear hfz10_2
         try clear hfz10_3
         try clear hfz12_0
         try clear hfz12_1
         try clear hfz12_2
         try clear hfz12_3
         try clear hx146_0
         try clear hx146_1
         try clear hx146_2
         try clear hx146_3
         try clear p146
         try clear p2
         try clear q146
         obtain ⟨x9_2,rfl,HA,HK2,BK147,HB⟩:=hrel
         cases gk with
         | zero => exact absurd HA.out (by simp [spec_sqHit.l1])
         | succ k2 =>
          have H:=HA.out
          clear HA
          simp only [spec_sqHit.l1] at H
          by_cases c13:x9_2 = 0
          ·rw [if_pos c13] at H
           have c13b0:(x9_2 == 0) = true:=beq_iff_eq.mpr c13
           have c13b1:(x9_2 != 0) = false:=bne_eq_false_iff_eq.mpr c13
           clear c13
           obtain rfl:=Option.some.inj H
           go_wp2
           go_ret
           exact ⟨er_,bl1_ HB.out GE147.out⟩
          ·rw [if_neg c13] at H
           have c13b0:(x9_2 == 0) = false:=beq_eq_false_iff_ne.mpr c13
           have c13b1:(x9_2 != 0) = true:=bne_iff_ne.mpr c13
           replace H:=bi_ H
           obtain ⟨t148,A140,H⟩:=H
           replace H:(if t148 = true then (some true) else (spec_sqHit.l1 k2 l0 a1 a2 (Go.bits .and .i64 x9_2 (wrap64 (x9_2 - 1))))) = some r:=H
           have A14:=am_ A140
           clear A140
           by_cases c15:t148 = true
           ·subst c15
            have H1:(some true) = some r:=by rw [if_pos rfl] at H; exact H
            clear H
            have H:=H1
            clear H1
            obtain rfl:=Option.some.inj H
            go_wp2_with (first | ((with_reducible refine gate_callee (f:=95) rfl ?_); refine goesL_ (some 42) rfl rfl Tryd.func95 (by kernel_rfl) rfl #[.slice (some ad146) l0.length c0,.int .i64 (Go.bits .andNot .i64 a1 (Go.bits .and .i64 x9_2 (wrap64 (-x9_2)))),.int .i64 (wrap64 (a2 - 1))] rfl ob_ ?_; (with_reducible refine (ih k2 (by have:=HK1.out; have:=HK2.out; omega) _ _ l0 (Go.bits .andNot .i64 a1 (Go.bits .and .i64 x9_2 (wrap64 (-x9_2)))) (wrap64 (a2 - 1)) true _ ?side1 ?side2 A14.out).mono ?_); (case side1 => exact kc_ (Kd.C_below HR0.out HB.out)); (case side2 => exact HC0.out); rintro e w16 ⟨rfl,hb⟩; refine ⟨_,rfl,?_⟩; have n0_:=am_ (bb_ BK147.out hb); have n1_:=am_ (below_step (bl1_ HB.out GE147.out) hb); clear BK147; clear HB; have BK147:=n0_; have HB:=n1_; clear n0_ n1_; (try clear hb); (try clear hb2); (try clear hk); (try clear hi)))
            go_ret
            exact ⟨er_,bl1_ HB.out GE147.out⟩
           ·replace c15:=Bool.eq_false_iff.mpr c15
            subst c15
            have H1:(spec_sqHit.l1 k2 l0 a1 a2 (Go.bits .and .i64 x9_2 (wrap64 (x9_2 - 1)))) = some r:=by rw [if_neg (show ¬ (false = true) by decide)] at H; exact H
            clear H
            have H:=H1
            clear H1
            have H':=am_ H
            clear H
            go_wp2_with (first | ((with_reducible refine gate_callee (f:=95) rfl ?_); refine goesL_ (some 42) rfl rfl Tryd.func95 (by kernel_rfl) rfl #[.slice (some ad146) l0.length c0,.int .i64 (Go.bits .andNot .i64 a1 (Go.bits .and .i64 x9_2 (wrap64 (-x9_2)))),.int .i64 (wrap64 (a2 - 1))] rfl ob_ ?_; (with_reducible refine (ih k2 (by have:=HK1.out; have:=HK2.out; omega) _ _ l0 (Go.bits .andNot .i64 a1 (Go.bits .and .i64 x9_2 (wrap64 (-x9_2)))) (wrap64 (a2 - 1)) false _ ?side1 ?side2 A14.out).mono ?_); (case side1 => exact kc_ (Kd.C_below HR0.out HB.out)); (case side2 => exact HC0.out); rintro e w17 ⟨rfl,hb⟩; refine ⟨_,rfl,?_⟩; have n0_:=am_ (bb_ BK147.out hb); have n1_:=am_ (below_step (bl1_ HB.out GE147.out) hb); clear BK147; clear HB; have BK147:=n0_; have HB:=n1_; clear n0_ n1_; (try clear hb); (try clear hb2); (try clear hk); (try clear hi)))
            go_roundg k2
            case measure => have:=HK1.out; have:=HK2.out; omega
            case rel => exact ⟨(Go.bits .and .i64 x9_2 (wrap64 (x9_2 - 1))),rs_,H',⟨by have:=HK1.out; have:=HK2.out; omega⟩,⟨bk_ BK147.out⟩,⟨bl1_ HB.out GE147.out⟩⟩
      ·rw [if_neg c7] at H
       have c7b0:((Go.bits .and .i64 a1 ((rd_T122 l0 x12_1).f3)) == ((rd_T122 l0 x12_1).f3)) = false:=beq_eq_false_iff_ne.mpr c7
       have c7b1:((Go.bits .and .i64 a1 ((rd_T122 l0 x12_1).f3)) != ((rd_T122 l0 x12_1).f3)) = true:=bne_iff_ne.mpr c7
       have H':=am_ H
       clear H
       have p146:0 ≤ (x12_1:Int):=of_decide_eq_true as_
       have q146:x12_1 < (l0.length:Int):=of_decide_eq_true as_
       obtain ⟨ad146,e146,hx146_0,hx146_1,hx146_2,hx146_3⟩:=at_T122 HR0.out x12_1 p146 q146
       cases e146
       replace hx146_0:=(HB.out.cell (wl_ w _ hx146_0)).trans hx146_0
       replace hx146_1:=(HB.out.cell (wl_ w _ hx146_1)).trans hx146_1
       replace hx146_2:=(HB.out.cell (wl_ w _ hx146_2)).trans hx146_2
       replace hx146_3:=(HB.out.cell (wl_ w _ hx146_3)).trans hx146_3
       replace p146:=eq_true p146
       replace q146:=eq_true q146
       go_wp2_with (first | ((with_reducible refine gate_dst (N:=8) rfl ?_); refine boxE_ (N:=8) (cs:=#[.int .i64 0,.int .i64 0,.int .i64 0,.int .i64 0]) (t:=122) ?_; intro gb147 hg w18 hbox hb; have n0_:=am_ (below_step (bl0_ HB.out) hb); have n1_:=am_ (hbox); have n2_:=am_ ((bs0_ hg HB.out:w.heap.size ≤ gb147)); have n3_:=am_ ((bs0_ hg HB.out:w.heap.size ≤ gb147)); clear HB; have HB:=n0_; have BK147:=n1_; have GW147:=n2_; have GE147:=n3_; clear n0_ n1_ n2_ n3_; clear hb hbox hg; have hcz19_0:w18.cell? ⟨gb147,0,none⟩ = some (.int .i64 0):=(bc_ BK147.out 0).trans rfl; have hcz19_1:w18.cell? ⟨gb147,1,none⟩ = some (.int .i64 0):=(bc_ BK147.out 1).trans rfl; have hcz19_2:w18.cell? ⟨gb147,2,none⟩ = some (.int .i64 0):=(bc_ BK147.out 2).trans rfl; have hcz19_3:w18.cell? ⟨gb147,3,none⟩ = some (.int .i64 0):=(bc_ BK147.out 3).trans rfl; have hfz19_0:=bz_ BK147.out 0; have hfz19_1:=bz_ BK147.out 1; have hfz19_2:=bz_ BK147.out 2; have hfz19_3:=bz_ BK147.out 3))
       go_roundg k1
       case measure => have:=HK1.out; omega
       case rel => exact ⟨(wrap64 (x12_1 + 1)),rs_,H',⟨by have:=HK1.out; omega⟩,⟨bl1_ HB.out GE147.out⟩⟩
     ·rw [if_neg c6] at H
      exact absurd H (by simp)
    ·rw [if_neg c5] at H
     exact absurd H (by simp)
   ·rw [if_neg c4] at H
    have c4b0:decide (x12_1 < (l0.length:Int)) = false:=decide_eq_false c4
    clear c4
    obtain rfl:=Option.some.inj H
    go_wp2
    go_ret
    exact ⟨er_,bl0_ HB.out⟩

end Go.Proofs.YtehjfaddhmdicaaDoor.P
