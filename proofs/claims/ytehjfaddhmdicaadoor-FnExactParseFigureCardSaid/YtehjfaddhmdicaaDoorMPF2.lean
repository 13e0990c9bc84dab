/- For every input the law FnExactParseFigure answers true: the program's ParseFigure tells what the reference's ParseFigure tells; no condition. (part 2 of the proof; the words of the kit's print tool and the texts of this seat, merged by a program) -/
import Derived.Laws.BytesArg
import Derived.Lib.Join
import Derived.Test.YtehjfaddhmdicaaDoorMPF1
namespace Go.Proofs.YtehjfaddhmdicaaDoor.P
open Go.RowKit Go.Proofs.YtehjfaddhmdicaaDoorW.PrintWords Go.Proofs.YtehjfaddhmdicaaDoorW.PrintLast Go.Proofs.YtehjfaddhmdicaaDoorW.PrintMore
attribute [local go_sem] max2_int min2_int max_two min_two max_three min_three max_four min_four   -- for this text's walks alone
set_option linter.unusedVariables false
set_option linter.unusedSimpArgs false

theorem figE_level (gw gh x y r : Int) (g3 g7 : Nat) (W : World) (h1 : W.cell? ⟨g3, 0, none⟩ = some (.int .i64 gw)) (h2 : W.cell? ⟨g3, 1, none⟩ = some (.int .i64 gh)) (h3 : W.cell? ⟨g7, 0, none⟩ = some (.int .i64 y)) (hr : impl_grid_level.f gw gh x y = some r) :
    Calls Tryd.prog 103 #[.int .i64 x, .pointer (some ⟨g3, 0, none⟩), .pointer (some ⟨g7, 0, none⟩)] W fun e w' => e = .returned (.int .u64 r) ∧ Below W.heap.size W w' := by
  have HR := Aside0.mk hr
  clear hr
  go_enter Tryd.func103, Tryd.ntmps103
  go_wp2_with (go_at_call 54; refine (impl_grid_level.calls _ _ _ _ _ _ HR.out).mono ?_; rintro e w1 ⟨rfl, hb1⟩)
  go_ret
  exact ⟨rfl, hb1⟩
theorem figE_upright (gw gh x y r : Int) (g3 g7 : Nat) (W : World) (h1 : W.cell? ⟨g3, 0, none⟩ = some (.int .i64 gw)) (h2 : W.cell? ⟨g3, 1, none⟩ = some (.int .i64 gh)) (h3 : W.cell? ⟨g7, 0, none⟩ = some (.int .i64 y)) (hr : impl_grid_upright.f gw gh x y = some r) :
    Calls Tryd.prog 104 #[.int .i64 x, .pointer (some ⟨g3, 0, none⟩), .pointer (some ⟨g7, 0, none⟩)] W fun e w' => e = .returned (.int .u64 r) ∧ Below W.heap.size W w' := by
  have HR := Aside0.mk hr
  clear hr
  go_enter Tryd.func104, Tryd.ntmps104
  go_wp2_with (go_at_call 55; refine (impl_grid_upright.calls _ _ _ _ _ _ HR.out).mono ?_; rintro e w1 ⟨rfl, hb1⟩)
  go_ret
  exact ⟨rfl, hb1⟩
def FInv (Bo base : Nat) (acc : List ByteArray) (O : Nat → Prop) (W : World) : Prop :=
  ∃ v, W.cell? ⟨Bo, 0, none⟩ = some v ∧ W.frozen? ⟨Bo, 0, none⟩ = false ∧ Kd.R Kd.string 9 W base (fun k => k ≠ Bo) v acc ∧ ∀ k, O k ↔ k = Bo ∨ some k = v.ownBlock
theorem lit1F (W : World) (s : ByteArray) : Kd.C Kd.string (W.alloc (.cells #[.string s] 9)) (some ⟨W.heap.size, 0, none⟩) 1 [s] := by
  refine Kd.C_of_reads (enc := Value.string) (d := ByteArray.empty) (h1 := fun _ => rfl) ⟨rfl, by omega, fun _ => ⟨_, rfl, fun j hj => ?_⟩⟩
  obtain rfl : j = 0 := by omega
  exact World.cell?_alloc_at _ _ _ _ rfl
def rowF (sign : Int) (bt : Nat → Bool) (n : Nat) : List Int := (List.range n).map fun x => if bt x = true then sign else 46
theorem rowF_len (sign : Int) (bt : Nat → Bool) (n : Nat) : (rowF sign bt n).length = n := by unfold rowF; rw [List.length_map, List.length_range]
theorem rowF_yes (sign : Int) (bt : Nat → Bool) (n : Nat) (h : bt n = true) : rowF sign bt n ++ [sign] = rowF sign bt (n + 1) := by unfold rowF; rw [List.range_succ, List.map_append, List.map_cons, List.map_nil, if_pos h]
theorem rowF_no (sign : Int) (bt : Nat → Bool) (n : Nat) (h : bt n = false) : rowF sign bt n ++ [46] = rowF sign bt (n + 1) := by unfold rowF; rw [List.range_succ, List.map_append, List.map_cons, List.map_nil, if_neg (by rw [h]; decide)]
set_option maxRecDepth 100000 in
set_option maxHeartbeats 8000000 in
theorem figRow_any (Bo Bs base : Nat) (hbo : base ≤ Bo) (S sign : Int) (n : Nat) (hn : n ≤ 5) (bt : Nat → Bool) (ge : Nat) (cap : Array Value) (E : Nat → Int) (hE : ∀ x, x < n → (Go.bits .and .u64 S (E x) != 0) = bt x)
    (eg : ∀ args w, (callFunc ge args).run Tryd.prog w = .ok (.enter ge args) w) (acc : List ByteArray) (O : Nat → Prop) (w : World) (hlen : acc.length < 1000) (hI : FInv Bo base acc O w) (hS : w.cell? ⟨Bs, 0, none⟩ = some (.int .u64 S))
    (hC : ∀ W, Below w.heap.size w W → ∀ x : Nat, x < n → Calls Tryd.prog ge (#[.int .i64 (x : Int)] ++ cap) W fun e w' => e = .returned (.int .u64 (E x)) ∧ Below W.heap.size W w') :
    Calls Tryd.prog 102 #[.int .i64 (n : Int), .int .u8 sign, .func (.func ge) #[] cap, .pointer (some ⟨Bs, 0, none⟩), .pointer (some ⟨Bo, 0, none⟩)] w fun e w' => e = .returned (.tuple #[]) ∧ ∃ O', FInv Bo base (acc ++ [strOfNums (rowF sign bt n)]) O' w' ∧ FrameBut O w w' ∧ ∀ k, O' k → O k ∨ w.heap.size ≤ k := by
  obtain ⟨v, c1, f1, hR, hO⟩ := hI
  have b1 : Bo < w.heap.size := World.block_lt_of_cell? w _ c1
  have hnv : some Bo ≠ v.ownBlock := fun h => hR.1 Bo h.symm rfl
  have HR := Aside0.mk hR
  have HO := Aside0.mk hO
  have HL := Aside0.mk hlen
  have HE := Aside0.mk hE
  have HC := Aside0.mk hC
  have HS := Aside0.mk hS
  have HN := Aside0.mk hn
  have HK1 := Aside0.mk c1
  have HK2 := Aside0.mk f1
  have HNV := Aside0.mk hnv
  have HLT := Aside0.mk b1
  have HBB := Aside0.mk hbo
  have hi5 : (Tryd.prog.info? 5).map (fun i => (i.zero, i.size, i.bytes)) = some (some (.int .u8 0), 1, 1) := by kernel_rfl
  have hi9 : (Tryd.prog.info? 9).map (fun i => (i.zero, i.size, i.bytes)) = some (some (.string ByteArray.empty), 1, 16) := by kernel_rfl
  have R0 : Aside0 (Kd.R (Kd.int .u8) 5 (w.alloc (.cells #[] 5)) w.heap.size (fun _ => True) (.slice (some ⟨w.heap.size, 0, none⟩) 0 0) (rowF sign bt 0)) := ⟨Kd.R_mono (R_lit0 (Kd.int .u8) 5 w w.heap.size (Nat.le_refl _)) (fun _ _ => trivial)⟩
  have B0 := Aside0.mk (below_alloc (Below.refl w.heap.size w) (.cells #[] 5))
  clear hR hO hlen hE hC hS hn c1 f1 b1 hnv hbo
  go_enter Tryd.func102, Tryd.ntmps102
  go_wp2_with fail
  go_loopg [8, 12] n (fun gg u8 u12 wr => ∃ i : Nat, i ≤ n ∧ n - i ≤ gg ∧ u12 = .int .i64 i ∧ Aside0 (Kd.R (Kd.int .u8) 5 wr w.heap.size (fun _ => True) u8 (rowF sign bt i)) ∧ Aside0 (Below w.heap.size w wr))
  case atStart => exact ⟨0, Nat.zero_le _, by omega, rfl, R0, B0⟩
  case round =>
    clear R0 B0
    obtain ⟨i, hi, hgg, rfl, HU, HB⟩ := hrel
    by_cases hlt : i < n
    · have hltz : (i : Int) < (n : Int) := by omega
      have HCX := Aside0.mk (fun W hW => HC.out W hW i hlt)
      have hEx := HE.out i hlt
      have hB2 : (Go.bits .and .u64 S (E i) == 0) = !bt i := by rw [← hEx]; unfold bne; rw [Bool.not_not]
      have HLU : Aside0 ((rowF sign bt i).length < 10) := ⟨by rw [rowF_len]; have := HN.out; omega⟩
      have HY := Aside0.mk (rowF_yes sign bt i)
      have HZ := Aside0.mk (rowF_no sign bt i)
      have hsc : wr.cell? ⟨Bs, 0, none⟩ = some (.int .u64 S) := pw_cell_below HB.out HS.out
      generalize E i = Ei at HCX hEx hB2
      go_wp2_with fail
      have tok0 : True := trivial
      go_region_held3 (fun w' => w'.cell? ⟨Bs, 0, none⟩ = some (.int .u64 S))
        (first | (exact hsc) | (exact pw_cell_below hbA (by assumption)))
        ((go_at_fn ge; have _t := tok0; refine (HCX.out _ ?xB).mono ?_; (case xB => first | exact HB.out | exact below_drew1 HB.out); rintro e wA ⟨rfl, hbA⟩; clear _t tok0))
      have HBA : Aside0 (Below w.heap.size w wA) := ⟨below_step (below_drew1 HB.out) hbA⟩
      have HUA : Aside0 (Kd.R (Kd.int .u8) 5 wA w.heap.size (fun _ => True) u8 (rowF sign bt i)) := ⟨Kd.R_below (Kd.R_drew HU.out) hbA⟩
      clear hbA hsc HB HU HCX hEx hB2
      cases hbt : bt i with
      | true =>
        have HY2 := Aside0.mk (HY.out hbt)
        clear hbt HY HZ
        go_wp2_with ((at_builtin; refine Kd.R_append_row (w0 := w) (h1 := fun _ => rfl) (Value.int .u8) (0 : Int) w.heap.size rfl _ _ _ _ _ 1 rfl Tryd.underlying127 hi5 rfl (by decide) u8 (rowF sign bt i) [sign] _ 1 _ (fun _ => True) rfl rfl (fun _ _ => trivial) ?xA ?xB ?xC ?xD ?xE ?_; (case xA => exact Kd.R_alloc HUA.out _); (case xB => exact lit1_C (Value.int .u8) (fun _ => rfl) 5 wA _); (case xC => exact below_alloc HBA.out _); (case xD => have h_ := HBA.out.size; (try simp); omega); (case xE => have h_ := HLU.out; (try simp only [List.length_append, List.length_cons, List.length_nil]); omega); intro v1 w1 ho hb hg hat; rw [HY2.out] at ho; have HO1 := Aside0.mk ho; have HB1 := Aside0.mk hb; clear ho hb hg hat))
        go_roundg (n - (i + 1))
        case measure => omega
        case rel => exact ⟨i + 1, by omega, by omega, by have hn5 := HN.out; exact congrArg _ (show wrap64 ((i : Int) + 1) = ((i + 1 : Nat) : Int) by unfold wrap64; omega), HO1, HB1⟩
      | false =>
        have HY2 := Aside0.mk (HZ.out hbt)
        clear hbt HY HZ
        go_wp2_with ((at_builtin; refine Kd.R_append_row (w0 := w) (h1 := fun _ => rfl) (Value.int .u8) (0 : Int) w.heap.size rfl _ _ _ _ _ 1 rfl Tryd.underlying127 hi5 rfl (by decide) u8 (rowF sign bt i) [46] _ 1 _ (fun _ => True) rfl rfl (fun _ _ => trivial) ?xA ?xB ?xC ?xD ?xE ?_; (case xA => exact Kd.R_alloc HUA.out _); (case xB => exact lit1_C (Value.int .u8) (fun _ => rfl) 5 wA _); (case xC => exact below_alloc HBA.out _); (case xD => have h_ := HBA.out.size; (try simp); omega); (case xE => have h_ := HLU.out; (try simp only [List.length_append, List.length_cons, List.length_nil]); omega); intro v1 w1 ho hb hg hat; rw [HY2.out] at ho; have HO1 := Aside0.mk ho; have HB1 := Aside0.mk hb; clear ho hb hg hat))
        go_roundg (n - (i + 1))
        case measure => omega
        case rel => exact ⟨i + 1, by omega, by omega, by have hn5 := HN.out; exact congrArg _ (show wrap64 ((i : Int) + 1) = ((i + 1 : Nat) : Int) by unfold wrap64; omega), HO1, HB1⟩
    · have hltz : ¬ (i : Int) < (n : Int) := by omega
      obtain rfl : i = n := by omega
      obtain ⟨A8, c8, rfl⟩ := Kd.R_slice HU.out
      have hcv : (convert 127 9 (.slice A8 (rowF sign bt i).length c8)).run Tryd.prog wr = .ok (.string (strOfNums (rowF sign bt i))) wr := own_string Tryd.underlying127 Tryd.underlying5 Tryd.underlying9 (Kd.own_of_R HU.out)
      generalize hstr : strOfNums (rowF sign bt i) = str at hcv
      have hco : wr.cell? ⟨Bo, 0, none⟩ = some v := pw_cell_below HB.out HK1.out
      have hfo : wr.frozen? ⟨Bo, 0, none⟩ = false := (World.frozen?_of_block (w := w) (a := ⟨Bo, 0, none⟩) (HB.out.block Bo HLT.out)).trans HK2.out
      have HRw := Aside0.mk (Kd.R_below HR.out (HB.out))
      have HBB2 : Aside0 (base ≤ w.heap.size) := ⟨by have := HBB.out; have := HLT.out; omega⟩
      have HBo : Aside0 (Bo < wr.heap.size) := ⟨by have := HB.out.size; have := HLT.out; omega⟩
      have HLN : Aside0 ((acc ++ [str]).length = acc.length + 1) := ⟨by simp⟩
      have HBA : Aside0 (∀ o, Bo < (wr.alloc o).heap.size) := ⟨fun o => by simp; have := HBo.out; omega⟩
      clear HU
      go_wp2_with ((at_builtin; refine Kd.R_append_row (w0 := w) (h1 := fun _ => rfl) Value.string ByteArray.empty base rfl _ _ _ _ _ 16 rfl Tryd.underlying72 hi9 rfl (by decide) v acc [str] _ 1 _ (fun k => k ≠ Bo) rfl rfl ?xF ?xA ?xB ?xC ?xD ?xE ?_; (case xF => exact fun k hk => by have h_ := HBo.out; simp at hk; omega); (case xA => exact Kd.R_alloc HRw.out _); (case xB => exact lit1F wr str); (case xC => exact (below_alloc HB.out _).mono HBB2.out); (case xD => have h_ := HB.out.size; simp; have := HBB2.out; omega); (case xE => have h_ := HL.out; (try simp); omega); intro v1 w1 ho hb hg hat; obtain ⟨A1, d1, rfl⟩ := Kd.R_slice ho; have cx : w1.cell? ⟨Bo, 0, none⟩ = some v := cell_grown hg ((World.cell?_alloc_lt _ _ _ HBo.out).trans hco) HNV.out; have fx : w1.frozen? ⟨Bo, 0, none⟩ = false := (World.frozen?_of_block (a := ⟨Bo, 0, none⟩) (hg.block Bo (HBA.out _) HNV.out)).trans ((World.frozen?_of_block (w := wr) (a := ⟨Bo, 0, none⟩) (Below.heap_alloc _ _ _ HBo.out)).trans hfo); have HO1 := Aside0.mk ho; have HB1 := Aside0.mk hb; have HG1 := Aside0.mk hg; have HA1 := Aside0.mk hat; clear ho hb hg hat))
      refine bodyPost_end (v := .tuple #[]) (by simp [results, Tryd.results102, go_sem]) rfl ⟨rfl, fun k => k = Bo ∨ some k = (Value.slice A1 (acc ++ [str]).length d1).ownBlock, ⟨_, ?_, ?_, ?_, fun k => Iff.rfl⟩, ?_, fun k hk => ?_⟩
      · rw [HLN.out]; apply World.cell?_setCell_same; exact cx
      · rw [World.frozen?_setCell]; exact fx
      · first | exact Kd.R_far (p := ⟨Bo, 0, none⟩) HO1.out (fun k hk => hk) _ | (rw [hstr]; exact Kd.R_far (p := ⟨Bo, 0, none⟩) HO1.out (fun k hk => hk) _)
      · exact ((((FrameBut.of_below HB.out).alloc _).grown HG1.out (fun k hk => .inl ((HO.out k).2 (.inr hk.symm)))).setCell (.inl ((HO.out Bo).2 (.inl rfl))) _)
      · rcases hk with hk | hk
        · exact .inl ((HO.out k).2 (.inl hk))
        · rcases HA1.out with h | ⟨b, h, hb⟩
          · exact .inl ((HO.out k).2 (.inr (hk.trans h)))
          · rw [h] at hk
            cases hk
            have h_ := HB.out.size
            exact .inr (by simp at hb; omega)
def figT_T1 : Bool × List (List Nat × List Nat) := (true, [([], []), ([0], [0]), ([], []), ([2, 1], [2]), ([], []), ([], []), ([], []), ([], []), ([5, 1, 3, 0, 1, 5, 6, 7], [1, 5]), ([6, 3, 8, 0, 1, 2, 3, 5, 6, 7, 8], [3, 6]), ([7, 4, 9, 0, 1, 2, 3, 4, 5, 6, 7, 8, 9], [4, 7])])
def figT_B1 : List Nat := [0, 1, 0, 7, 0, 0, 0, 0, 239, 495, 1023]
theorem figT_tab1 : rtab .any (opsOf Tryd.f57 1) = figT_T1 := by kernel_rfl
theorem figT_bits1 : waitsOk figT_T1.2 figT_B1 = true := by kernel_rfl
theorem FInv.move {Bo base : Nat} {acc : List ByteArray} {O : Nat → Prop} {W W' : World} (hI : FInv Bo base acc O W) (hk : ∀ k, O k → W'.heap[k]? = W.heap[k]?) : FInv Bo base acc O W' := by
  obtain ⟨v, c1, f1, hR, hO⟩ := hI
  have hm := hk Bo ((hO Bo).2 (.inl rfl))
  exact ⟨v, (World.cell?_of_block (w := W) (a := ⟨Bo, 0, none⟩) hm).trans c1, (World.frozen?_of_block (w := W) (a := ⟨Bo, 0, none⟩) hm).trans f1, Kd.R_mono (Kd.R_move (Kd.R_tight rfl hR) (fun k h => hk k ((hO k).2 (.inr h)))) (fun k h => hR.1 k h.symm), hO⟩
theorem FInv.lt {Bo base : Nat} {acc : List ByteArray} {O : Nat → Prop} {W : World} (hI : FInv Bo base acc O W) : ∀ k, O k → k < W.heap.size := by
  intro k hk
  obtain ⟨v, c1, f1, hR, hO⟩ := hI
  rcases (hO k).1 hk with rfl | h
  · exact World.block_lt_of_cell? W _ c1
  · exact Kd.R_lt hR k h.symm
theorem FInv.ge {Bo base : Nat} {acc : List ByteArray} {O : Nat → Prop} {W : World} (hI : FInv Bo base acc O W) (hb : base ≤ Bo) : ∀ k, O k → base ≤ k := by
  intro k hk
  obtain ⟨v, c1, f1, hR, hO⟩ := hI
  rcases (hO k).1 hk with rfl | h
  · exact hb
  · exact Kd.R_base hR k h.symm
def levB (gw gh : Nat) (S : Int) (y x : Nat) : Bool := Go.bits .and .u64 S ((impl_grid_level.f (gw : Int) (gh : Int) (x : Int) (y : Int)).getD 0) != 0
def uprB (gw gh : Nat) (S : Int) (y x : Nat) : Bool := Go.bits .and .u64 S ((impl_grid_upright.f (gw : Int) (gh : Int) (x : Int) (y : Int)).getD 0) != 0
def levR (gw gh : Nat) (S : Int) (y : Nat) : ByteArray := strOfNums (rowF 45 (levB gw gh S y) gw)
def uprR (gw gh : Nat) (S : Int) (y : Nat) : ByteArray := strOfNums (rowF 124 (uprB gw gh S y) (gw + 1))
def figRows (gw gh : Nat) (S : Int) : Nat → List ByteArray
  | 0 => []
  | y + 1 => if y < gh then (figRows gw gh S y ++ [levR gw gh S y]) ++ [uprR gw gh S y] else figRows gw gh S y ++ [levR gw gh S y]
theorem figRows_len (gw gh : Nat) (S : Int) : ∀ y, (figRows gw gh S y).length ≤ 2 * y
  | 0 => Nat.le_refl _
  | y + 1 => by
    have := figRows_len gw gh S y
    unfold figRows
    split
    · simp only [List.length_append, List.length_singleton]; omega
    · simp only [List.length_append, List.length_singleton]; omega
def FSt (w : World) (g5 : Nat) (K : Nat → Nat → Value → Prop) (acc : List ByteArray) (W : World) : Prop := (∃ O, FInv g5 w.heap.size acc O W ∧ ∀ b i v, K b i v → W.cell? ⟨b, i, none⟩ = some v ∧ ¬ O b) ∧ Below w.heap.size w W
theorem FSt.cell {w : World} {g5 : Nat} {K : Nat → Nat → Value → Prop} {acc : List ByteArray} {W : World} (h : FSt w g5 K acc W) {b i : Nat} {v : Value} (hk : K b i v) : W.cell? ⟨b, i, none⟩ = some v := by
  obtain ⟨⟨O, -, hK⟩, -⟩ := h
  exact (hK b i v hk).1
theorem FSt.weak {w : World} {g5 : Nat} {K K' : Nat → Nat → Value → Prop} {acc : List ByteArray} {W : World} (h : FSt w g5 K acc W) (hk : ∀ b i v, K' b i v → K b i v) : FSt w g5 K' acc W := by
  obtain ⟨⟨O, hI, hK⟩, hB⟩ := h
  exact ⟨⟨O, hI, fun b i v q => hK b i v (hk b i v q)⟩, hB⟩
theorem FSt.grow {w : World} {g5 : Nat} {K : Nat → Nat → Value → Prop} {acc : List ByteArray} {W : World} (h : FSt w g5 K acc W) (t : TypeId) (u : Value) : FSt w g5 (fun b i v => K b i v ∨ (b = W.heap.size ∧ i = 0 ∧ v = u)) acc (W.alloc (.cells #[u] t (0, 0))) := by
  obtain ⟨⟨O, hI, hK⟩, hB⟩ := h
  have F : FrameBut (fun _ => False) W (W.alloc (.cells #[u] t (0, 0))) := (FrameBut.refl _ W).alloc _
  refine ⟨⟨O, hI.move (fun k hk => F.block k (hI.lt k hk) id), fun b i v q => ?_⟩, hB.trans (F.toBelow hB.size (fun _ _ => id))⟩
  rcases q with q | ⟨rfl, rfl, rfl⟩
  · exact ⟨F.cell (hK b i v q).1 id, (hK b i v q).2⟩
  · exact ⟨(blk_cell (blk_new W _) 0).trans rfl, fun q => absurd (hI.lt _ q) (Nat.lt_irrefl _)⟩
theorem FSt.row {w : World} {g5 : Nat} {K : Nat → Nat → Value → Prop} {acc : List ByteArray} {W : World} (h : FSt w g5 K acc W) (hg5 : w.heap.size ≤ g5) (Bs : Nat) (S sign : Int) (hS : K Bs 0 (.int .u64 S)) (n : Nat) (hn : n ≤ 5) (bt : Nat → Bool) (ge : Nat) (cap : Array Value) (E : Nat → Int) (hE : ∀ x, x < n → (Go.bits .and .u64 S (E x) != 0) = bt x)
    (eg : ∀ args w, (callFunc ge args).run Tryd.prog w = .ok (.enter ge args) w) (hlen : acc.length < 1000)
    (hC : ∀ W', (∀ b i v, K b i v → W'.cell? ⟨b, i, none⟩ = some v) → ∀ x : Nat, x < n → Calls Tryd.prog ge (#[.int .i64 (x : Int)] ++ cap) W' fun e w' => e = .returned (.int .u64 (E x)) ∧ Below W'.heap.size W' w') :
    Calls Tryd.prog 102 #[.int .i64 (n : Int), .int .u8 sign, .func (.func ge) #[] cap, .pointer (some ⟨Bs, 0, none⟩), .pointer (some ⟨g5, 0, none⟩)] W fun e w' => e = .returned (.tuple #[]) ∧ FSt w g5 K (acc ++ [strOfNums (rowF sign bt n)]) w' := by
  obtain ⟨⟨O, hI, hK⟩, hB⟩ := h
  refine (figRow_any g5 Bs w.heap.size hg5 S sign n hn bt ge cap E hE eg acc O W hlen hI (hK _ _ _ hS).1 (fun W' hW => hC W' (fun b i v q => pw_cell_below hW (hK b i v q).1))).mono ?_
  rintro e w' ⟨rfl, O', hI', hF, hO'⟩
  refine ⟨rfl, ⟨O', hI', fun b i v q => ⟨hF.cell (hK b i v q).1 (hK b i v q).2, fun q2 => ?_⟩⟩, hB.trans (hF.toBelow hB.size (fun k hk q => ?_))⟩
  · rcases hO' _ q2 with q3 | q3
    · exact (hK b i v q).2 q3
    · exact absurd (World.block_lt_of_cell? W _ (hK b i v q).1) (Nat.not_lt.2 q3)
  · have := hI.ge hg5 k q
    omega
def K34 (g3 g4 : Nat) (gw gh : Nat) (S : Int) (b i : Nat) (v : Value) : Prop := (b = g3 ∧ i = 0 ∧ v = .int .i64 (gw : Int)) ∨ (b = g3 ∧ i = 1 ∧ v = .int .i64 (gh : Int)) ∨ (b = g4 ∧ i = 0 ∧ v = .int .u64 S)
set_option maxRecDepth 100000 in
set_option maxHeartbeats 16000000 in
theorem figText_main (gw gh : Nat) (hgw : gw ≤ 4) (hgh : gh ≤ 4) (A2 A3 : Option Addr) (c2 c3 : Nat) (l2 l3 : List Int) (S : Int) (w : World)
    (hGR : ∀ W', Below w.heap.size w W' → Calls Tryd.prog 71 #[.agg #[.int .i64 gw, .int .i64 gh, .slice A2 l2.length c2, .slice A3 l3.length c3]] W' fun e w' => e = .returned (.agg #[.int .i64 gw, .int .i64 gh]) ∧ Below W'.heap.size W' w')
    (hSE : ∀ W', Below w.heap.size w W' → Calls Tryd.prog 72 #[.agg #[.int .i64 gw, .int .i64 gh, .slice A2 l2.length c2, .slice A3 l3.length c3]] W' fun e w' => e = .returned (.int .u64 S) ∧ Below W'.heap.size W' w')
    (hLV : ∀ x y : Nat, x < gw → y ≤ gh → impl_grid_level.f (gw : Int) (gh : Int) (x : Int) (y : Int) = some ((impl_grid_level.f (gw : Int) (gh : Int) (x : Int) (y : Int)).getD 0))
    (hUV : ∀ x y : Nat, x ≤ gw → y < gh → impl_grid_upright.f (gw : Int) (gh : Int) (x : Int) (y : Int) = some ((impl_grid_upright.f (gw : Int) (gh : Int) (x : Int) (y : Int)).getD 0))
    (J : List ByteArray → ByteArray) (hJ : ∀ (W : World) (base : Nat) (ok : Nat → Prop) (A : Option Addr) (c : Nat), Kd.R Kd.string 9 W base ok (.slice A (figRows gw gh S (gh + 1)).length c) (figRows gw gh S (gh + 1)) → Calls Tryd.prog 105 #[.slice A (figRows gw gh S (gh + 1)).length c, .string ⟨#[47]⟩] W fun e w' => e = .returned (.string (J (figRows gw gh S (gh + 1)))) ∧ Below W.heap.size W w') :
    Calls Tryd.prog 57 #[.agg #[.int .i64 gw, .int .i64 gh, .slice A2 l2.length c2, .slice A3 l3.length c3]] w fun e w' => e = .returned (.string (J (figRows gw gh S (gh + 1)))) ∧ Below w.heap.size w w' := by
  have HLV := Aside0.mk hLV
  have HUV := Aside0.mk hUV
  have HJ := Aside0.mk hJ
  clear hLV hUV hJ
  have HGR0 := Aside0.mk hGR
  have HSE0 := Aside0.mk hSE
  have eg1 : ∀ args w, (callFunc 102 args).run Tryd.prog w = .ok (.enter 102 args) w := Go.Proofs.enters_of Tryd.func102 (by kernel_rfl) rfl
  have eg2 : ∀ args w, (callFunc 103 args).run Tryd.prog w = .ok (.enter 103 args) w := Go.Proofs.enters_of Tryd.func103 (by kernel_rfl) rfl
  have eg3 : ∀ args w, (callFunc 104 args).run Tryd.prog w = .ok (.enter 104 args) w := Go.Proofs.enters_of Tryd.func104 (by kernel_rfl) rfl
  have hmf : ∀ (fn : Fn) (first cap : Array Value) (w : World), (Instr.makeFunc fn first cap).run Tryd.prog w = .ok (.func fn first cap) w := fun _ _ _ _ => rfl
  clear hGR hSE
  go_enter Tryd.func57, Tryd.ntmps57
  go_wp2_with fail
  have HX0 : Aside0 ((w.alloc (.cells #[.int .i64 gw, .int .i64 gh, .slice A2 l2.length c2, .slice A3 l3.length c3] 36 (0, 0))).cell? ⟨w.heap.size, 0, none⟩ = some (.int .i64 gw) ∧ (w.alloc (.cells #[.int .i64 gw, .int .i64 gh, .slice A2 l2.length c2, .slice A3 l3.length c3] 36 (0, 0))).cell? ⟨w.heap.size, 1, none⟩ = some (.int .i64 gh) ∧ (w.alloc (.cells #[.int .i64 gw, .int .i64 gh, .slice A2 l2.length c2, .slice A3 l3.length c3] 36 (0, 0))).cell? ⟨w.heap.size, 2, none⟩ = some (.slice A2 l2.length c2) ∧ (w.alloc (.cells #[.int .i64 gw, .int .i64 gh, .slice A2 l2.length c2, .slice A3 l3.length c3] 36 (0, 0))).cell? ⟨w.heap.size, 3, none⟩ = some (.slice A3 l3.length c3)) := ⟨⟨by go_simp, by go_simp, by go_simp, by go_simp⟩⟩
  have HB0 := Aside0.mk (below_alloc (Below.refl w.heap.size w) (.cells #[.int .i64 gw, .int .i64 gh, .slice A2 l2.length c2, .slice A3 l3.length c3] 36 (0, 0)))
  generalize w.alloc (.cells #[.int .i64 gw, .int .i64 gh, .slice A2 l2.length c2, .slice A3 l3.length c3] 36 (0, 0)) = W4 at HX0 HB0 ⊢
  have HGR : Aside0 (∀ W', Below W4.drew.heap.size W4.drew W' → _) := ⟨fun W' h => HGR0.out W' (below_step (below_drew1 HB0.out) h)⟩
  have HSE : Aside0 (∀ W', Below W4.drew.heap.size W4.drew W' → _) := ⟨fun W' h => HSE0.out W' (below_step (below_drew1 HB0.out) h)⟩
  have HX : Aside0 (W4.drew.cell? ⟨w.heap.size, 0, none⟩ = some (.int .i64 gw) ∧ W4.drew.cell? ⟨w.heap.size, 1, none⟩ = some (.int .i64 gh) ∧ W4.drew.cell? ⟨w.heap.size, 2, none⟩ = some (.slice A2 l2.length c2) ∧ W4.drew.cell? ⟨w.heap.size, 3, none⟩ = some (.slice A3 l3.length c3)) := ⟨HX0.out⟩
  have HB5 := Aside0.mk (below_drew1 HB0.out)
  have HB := Aside0.mk (Below.refl W4.drew.heap.size W4.drew)
  clear HX0 HGR0 HSE0 HB0
  refine start_ (n := 11) (S := fun w' => True) (ds := []) #[false, false, false, false, false, false, false, false, false, false, false] (by kernel_rfl) rfl rfl trivial (fun hHeld => ?_)
  generalize W4.drew = W5 at HGR HSE HX HB5 HB hHeld ⊢
  refine with_tabW figT_tab1 figT_bits1 (fun HT_ HW_ => ?_)
  refine inv_at [0, 1, 2, 3, 4, 5, 6, 7, 8, 9, 10] (fun a0_ b a w' => ∃ (g3 : Nat) (g4 : Nat) (g5 : Nat) (g12 : Nat) (m4_ : Value) (m5_ : Value) (m6_ : Value) (m7_ : Value), a = putSel a0_ b [(0, 8, .agg #[.int .i64 gw, .int .i64 gh, .slice A2 l2.length c2, .slice A3 l3.length c3]), (1, 9, .agg #[.int .i64 gw, .int .i64 gh]), (2, 10, .agg #[.int .i64 gw, .int .i64 gh, .slice A2 l2.length c2, .slice A3 l3.length c3]), (3, 11, .int .u64 S), (4, 12, m4_), (5, 3, m5_), (6, 4, m6_), (7, 5, m7_)] ∧ (Below W5.heap.size W5 w') ∧ (b 5 = true → b 8 = false → w'.heap[g3]? = some (.cells #[.int .i64 0, .int .i64 0] 75 (0, 0))) ∧ (b 8 = true → w'.heap[g3]? = some (.cells #[.int .i64 gw, .int .i64 gh] 75 (0, 0))) ∧ (b 5 = true → W5.heap.size ≤ g3) ∧ (b 6 = true → b 9 = false → w'.heap[g4]? = some (.cells #[.int .u64 0] 56 (0, 0))) ∧ (b 9 = true → w'.heap[g4]? = some (.cells #[.int .u64 S] 56 (0, 0))) ∧ (b 6 = true → W5.heap.size ≤ g4) ∧ (b 7 = true → b 10 = false → w'.heap[g5]? = some (.cells #[.slice none 0 0] 72 (0, 0))) ∧ (b 10 = true → w'.heap[g5]? = some (.cells #[.slice (some ⟨g12, 0, none⟩) 0 0] 72 (0, 0))) ∧ (b 7 = true → W5.heap.size ≤ g5) ∧ (b 4 = true → (w'.heap[g12]? = some (.cells #[] 9 (0, 0))) ∧ W5.heap.size ≤ g12 ∧ Kd.R Kd.string 9 w' W5.heap.size (fun k_ => k_ = g12) (.slice (some ⟨g12, 0, none⟩) 0 0) []) ∧ (b 4 = true → (m4_ : Value) = .slice (some ⟨g12, 0, none⟩) 0 0) ∧ (b 5 = true → (m5_ : Value) = .pointer (some ⟨g3, 0, none⟩)) ∧ (b 6 = true → (m6_ : Value) = .pointer (some ⟨g4, 0, none⟩)) ∧ (b 7 = true → (m7_ : Value) = .pointer (some ⟨g5, 0, none⟩))) HT_.out HW_.out (by kernel_rfl) (by kernel_rfl) ?_ ?_ ?_
  · exact ⟨0, 0, 0, 0, .bool false, .bool false, .bool false, .bool false, by simp only [putSel, Bool.false_eq_true, if_false], HB.out, fun h_ => absurd h_ (by decide), fun h_ => absurd h_ (by decide), fun h_ => absurd h_ (by decide), fun h_ => absurd h_ (by decide), fun h_ => absurd h_ (by decide), fun h_ => absurd h_ (by decide), fun h_ => absurd h_ (by decide), fun h_ => absurd h_ (by decide), fun h_ => absurd h_ (by decide), fun h_ => absurd h_ (by decide), fun h_ => absurd h_ (by decide), fun h_ => absurd h_ (by decide), fun h_ => absurd h_ (by decide), fun h_ => absurd h_ (by decide)⟩
  · skip
    clear HB
    refine steps_cons ?_ ?_
    · rintro b a w' ⟨g3, g4, g5, g12, m4_, m5_, m6_, m7_, ha, Q_HB, Q_H3, Q_H3b, Q_G3, Q_H4, Q_H4b, Q_G4, Q_H5, Q_H5b, Q_G5, Q_HR, Q_X4_, Q_X5_, Q_X6_, Q_X7_⟩ hb_ hon hoff
      refine ⟨_, rfl, fun K hK => ?_⟩
      have e1 : a.tmps[1]? = some (.pointer (some ⟨w.heap.size, 0, none⟩)) := by rw [ha]; exact (putSel_off rfl).trans rfl
      replace ha := Aside0.mk ha
      have HB := Aside0.mk Q_HB
      have hs0_ := (pw_cell_below HB.out HX.out.1)
      have hs1_ := (pw_cell_below HB.out HX.out.2.1)
      have hs2_ := (pw_cell_below HB.out HX.out.2.2.1)
      have hs3_ := (pw_cell_below HB.out HX.out.2.2.2)
      refine value_ (w1 := w') (v := .agg #[.int .i64 gw, .int .i64 gh, .slice A2 l2.length c2, .slice A3 l3.length c3]) (by rfl) rfl ?_ ?_
      · go_simp
        (try simp only [i64_w])
        try rfl
      refine hK.out _ _ ⟨g3, g4, g5, g12, m4_, m5_, m6_, m7_, (by rw [ha.out]; exact putSel_upk 0 hb_ rfl rfl rfl), Q_HB, Q_H3, fun h0_ => absurd ((hoff 8 (by kernel_rfl)).symm.trans h0_) (by decide), Q_G3, Q_H4, fun h0_ => absurd ((hoff 9 (by kernel_rfl)).symm.trans h0_) (by decide), Q_G4, Q_H5, fun h0_ => absurd ((hoff 10 (by kernel_rfl)).symm.trans h0_) (by decide), Q_G5, Q_HR, Q_X4_, Q_X5_, Q_X6_, Q_X7_⟩
    refine steps_cons ?_ ?_
    · rintro b a w' ⟨g3, g4, g5, g12, m4_, m5_, m6_, m7_, ha, Q_HB, Q_H3, Q_H3b, Q_G3, Q_H4, Q_H4b, Q_G4, Q_H5, Q_H5b, Q_G5, Q_HR, Q_X4_, Q_X5_, Q_X6_, Q_X7_⟩ hb_ hon hoff
      refine ⟨_, rfl, fun K hK => ?_⟩
      have e8 : a.tmps[8]? = some (.agg #[.int .i64 gw, .int .i64 gh, .slice A2 l2.length c2, .slice A3 l3.length c3]) := by rw [ha]; exact putSel_on (e := (0, 8, .agg #[.int .i64 gw, .int .i64 gh, .slice A2 l2.length c2, .slice A3 l3.length c3])) 0 rfl rfl (hon 0 (by kernel_rfl)) rfl
      replace ha := Aside0.mk ha
      have HB := Aside0.mk Q_HB
      refine goes_ Tryd.func71 (by kernel_rfl) rfl #[.agg #[.int .i64 gw, .int .i64 gh, .slice A2 l2.length c2, .slice A3 l3.length c3]] (by rfl) rfl rfl (by first | (simp only [List.map_toArray, List.map_cons, List.map_nil, Act.eval, Array.getD_eq_getD_getElem?, Option.getD_some, e8]; done) | (simp only [List.map_toArray, List.map_cons, List.map_nil, Act.eval, Array.getD_eq_getD_getElem?, Option.getD_some, e8]; rfl)) ?_
      refine (HGR.out w' HB.out).mono ?_
      rintro e v6 ⟨rfl, hb⟩
      refine ⟨_, rfl, ?_⟩
      refine hK.out _ _ ⟨g3, g4, g5, g12, m4_, m5_, m6_, m7_, (by rw [ha.out]; exact putSel_upk 1 hb_ rfl rfl rfl), below_step HB.out hb, fun h0_ h1_ => blk_below (Q_H3 h0_ h1_) hb, fun h0_ => absurd ((hoff 8 (by kernel_rfl)).symm.trans h0_) (by decide), Q_G3, fun h0_ h1_ => blk_below (Q_H4 h0_ h1_) hb, fun h0_ => absurd ((hoff 9 (by kernel_rfl)).symm.trans h0_) (by decide), Q_G4, fun h0_ h1_ => blk_below (Q_H5 h0_ h1_) hb, fun h0_ => absurd ((hoff 10 (by kernel_rfl)).symm.trans h0_) (by decide), Q_G5, fun h0_ => ⟨blk_below (Q_HR h0_).1 hb, (Q_HR h0_).2.1, Kd.R_below (Q_HR h0_).2.2 hb⟩, Q_X4_, Q_X5_, Q_X6_, Q_X7_⟩
    refine steps_cons ?_ ?_
    · rintro b a w' ⟨g3, g4, g5, g12, m4_, m5_, m6_, m7_, ha, Q_HB, Q_H3, Q_H3b, Q_G3, Q_H4, Q_H4b, Q_G4, Q_H5, Q_H5b, Q_G5, Q_HR, Q_X4_, Q_X5_, Q_X6_, Q_X7_⟩ hb_ hon hoff
      refine ⟨_, rfl, fun K hK => ?_⟩
      have e1 : a.tmps[1]? = some (.pointer (some ⟨w.heap.size, 0, none⟩)) := by rw [ha]; exact (putSel_off rfl).trans rfl
      replace ha := Aside0.mk ha
      have HB := Aside0.mk Q_HB
      have hs0_ := (pw_cell_below HB.out HX.out.1)
      have hs1_ := (pw_cell_below HB.out HX.out.2.1)
      have hs2_ := (pw_cell_below HB.out HX.out.2.2.1)
      have hs3_ := (pw_cell_below HB.out HX.out.2.2.2)
      refine value_ (w1 := w') (v := .agg #[.int .i64 gw, .int .i64 gh, .slice A2 l2.length c2, .slice A3 l3.length c3]) (by rfl) rfl ?_ ?_
      · go_simp
        (try simp only [i64_w])
        try rfl
      refine hK.out _ _ ⟨g3, g4, g5, g12, m4_, m5_, m6_, m7_, (by rw [ha.out]; exact putSel_upk 2 hb_ rfl rfl rfl), Q_HB, Q_H3, fun h0_ => absurd ((hoff 8 (by kernel_rfl)).symm.trans h0_) (by decide), Q_G3, Q_H4, fun h0_ => absurd ((hoff 9 (by kernel_rfl)).symm.trans h0_) (by decide), Q_G4, Q_H5, fun h0_ => absurd ((hoff 10 (by kernel_rfl)).symm.trans h0_) (by decide), Q_G5, Q_HR, Q_X4_, Q_X5_, Q_X6_, Q_X7_⟩
    refine steps_cons ?_ ?_
    · rintro b a w' ⟨g3, g4, g5, g12, m4_, m5_, m6_, m7_, ha, Q_HB, Q_H3, Q_H3b, Q_G3, Q_H4, Q_H4b, Q_G4, Q_H5, Q_H5b, Q_G5, Q_HR, Q_X4_, Q_X5_, Q_X6_, Q_X7_⟩ hb_ hon hoff
      refine ⟨_, rfl, fun K hK => ?_⟩
      have e10 : a.tmps[10]? = some (.agg #[.int .i64 gw, .int .i64 gh, .slice A2 l2.length c2, .slice A3 l3.length c3]) := by rw [ha]; exact putSel_on (e := (2, 10, .agg #[.int .i64 gw, .int .i64 gh, .slice A2 l2.length c2, .slice A3 l3.length c3])) 2 rfl rfl (hon 2 (by kernel_rfl)) rfl
      replace ha := Aside0.mk ha
      have HB := Aside0.mk Q_HB
      refine goes_ Tryd.func72 (by kernel_rfl) rfl #[.agg #[.int .i64 gw, .int .i64 gh, .slice A2 l2.length c2, .slice A3 l3.length c3]] (by rfl) rfl rfl (by first | (simp only [List.map_toArray, List.map_cons, List.map_nil, Act.eval, Array.getD_eq_getD_getElem?, Option.getD_some, e10]; done) | (simp only [List.map_toArray, List.map_cons, List.map_nil, Act.eval, Array.getD_eq_getD_getElem?, Option.getD_some, e10]; rfl)) ?_
      refine (HSE.out w' HB.out).mono ?_
      rintro e v6 ⟨rfl, hb⟩
      refine ⟨_, rfl, ?_⟩
      refine hK.out _ _ ⟨g3, g4, g5, g12, m4_, m5_, m6_, m7_, (by rw [ha.out]; exact putSel_upk 3 hb_ rfl rfl rfl), below_step HB.out hb, fun h0_ h1_ => blk_below (Q_H3 h0_ h1_) hb, fun h0_ => absurd ((hoff 8 (by kernel_rfl)).symm.trans h0_) (by decide), Q_G3, fun h0_ h1_ => blk_below (Q_H4 h0_ h1_) hb, fun h0_ => absurd ((hoff 9 (by kernel_rfl)).symm.trans h0_) (by decide), Q_G4, fun h0_ h1_ => blk_below (Q_H5 h0_ h1_) hb, fun h0_ => absurd ((hoff 10 (by kernel_rfl)).symm.trans h0_) (by decide), Q_G5, fun h0_ => ⟨blk_below (Q_HR h0_).1 hb, (Q_HR h0_).2.1, Kd.R_below (Q_HR h0_).2.2 hb⟩, Q_X4_, Q_X5_, Q_X6_, Q_X7_⟩
    refine steps_cons ?_ ?_
    · rintro b a w' ⟨g3, g4, g5, g12, m4_, m5_, m6_, m7_, ha, Q_HB, Q_H3, Q_H3b, Q_G3, Q_H4, Q_H4b, Q_G4, Q_H5, Q_H5b, Q_G5, Q_HR, Q_X4_, Q_X5_, Q_X6_, Q_X7_⟩ hb_ hon hoff
      refine ⟨_, rfl, fun K hK => ?_⟩
      replace ha := Aside0.mk ha
      have HB := Aside0.mk Q_HB
      refine value_ (w1 := w'.alloc (.cells #[] 9)) (v := .slice (some ⟨w'.heap.size, 0, none⟩) 0 0) (by rfl) rfl ?hrun4 ?hrest4
      case hrun4 =>
        first | (go_simp; done) | (go_simp; rfl)
      have hb : Below w'.heap.size w' (w'.alloc (.cells #[] 9)) := below_alloc (Below.refl _ _) _
      refine hK.out _ _ ⟨g3, g4, g5, w'.heap.size, (.slice (some ⟨w'.heap.size, 0, none⟩) 0 0), m5_, m6_, m7_, (by rw [ha.out]; exact putSel_upk 4 hb_ rfl rfl rfl), below_step HB.out hb, fun h0_ h1_ => blk_below (Q_H3 h0_ h1_) hb, fun h0_ => blk_below (Q_H3b h0_) hb, Q_G3, fun h0_ h1_ => blk_below (Q_H4 h0_ h1_) hb, fun h0_ => blk_below (Q_H4b h0_) hb, Q_G4, fun h0_ h1_ => blk_below (Q_H5 h0_ h1_) hb, fun h0_ => absurd ((hoff 10 (by kernel_rfl)).symm.trans h0_) (by decide), Q_G5, fun _ => ⟨heap_alloc_new w' _, HB.out.size, R_lit0 Kd.string 9 w' _ HB.out.size⟩, fun _ => rfl, Q_X5_, Q_X6_, Q_X7_⟩
    refine steps_cons ?_ ?_
    · rintro b a w' ⟨g3, g4, g5, g12, m4_, m5_, m6_, m7_, ha, Q_HB, Q_H3, Q_H3b, Q_G3, Q_H4, Q_H4b, Q_G4, Q_H5, Q_H5b, Q_G5, Q_HR, Q_X4_, Q_X5_, Q_X6_, Q_X7_⟩ hb_ hon hoff
      refine ⟨_, rfl, fun K hK => ?_⟩
      replace ha := Aside0.mk ha
      have HB := Aside0.mk Q_HB
      refine box_step ?hg (N := 3) ?hd (cs := #[.int .i64 0, .int .i64 0]) (t := 75) ?hr ?_; (case hd => rfl); (case hg => rfl); (case hr => first | (go_simp; done) | (go_simp; rfl))
      intro b3 hg w2 hbox hb
      have hge : W5.heap.size ≤ b3 := by rw [hg]; exact HB.out.size
      refine hK.out _ _ ⟨b3, g4, g5, g12, m4_, (.pointer (some ⟨b3, 0, none⟩)), m6_, m7_, (by rw [ha.out]; exact putSel_upk 5 hb_ rfl rfl rfl), below_step HB.out hb, fun _ _ => hbox, fun h0_ => absurd ((hoff 8 (by kernel_rfl)).symm.trans h0_) (by decide), fun _ => hge, fun h0_ h1_ => blk_below (Q_H4 h0_ h1_) hb, fun h0_ => absurd ((hoff 9 (by kernel_rfl)).symm.trans h0_) (by decide), Q_G4, fun h0_ h1_ => blk_below (Q_H5 h0_ h1_) hb, fun h0_ => absurd ((hoff 10 (by kernel_rfl)).symm.trans h0_) (by decide), Q_G5, fun h0_ => ⟨blk_below (Q_HR h0_).1 hb, (Q_HR h0_).2.1, Kd.R_below (Q_HR h0_).2.2 hb⟩, Q_X4_, fun _ => rfl, Q_X6_, Q_X7_⟩
    refine steps_cons ?_ ?_
    · rintro b a w' ⟨g3, g4, g5, g12, m4_, m5_, m6_, m7_, ha, Q_HB, Q_H3, Q_H3b, Q_G3, Q_H4, Q_H4b, Q_G4, Q_H5, Q_H5b, Q_G5, Q_HR, Q_X4_, Q_X5_, Q_X6_, Q_X7_⟩ hb_ hon hoff
      refine ⟨_, rfl, fun K hK => ?_⟩
      replace ha := Aside0.mk ha
      have HB := Aside0.mk Q_HB
      refine box_step ?hg (N := 4) ?hd (cs := #[.int .u64 0]) (t := 56) ?hr ?_; (case hd => rfl); (case hg => rfl); (case hr => first | (go_simp; done) | (go_simp; rfl))
      intro b4 hg w2 hbox hb
      have hge : W5.heap.size ≤ b4 := by rw [hg]; exact HB.out.size
      refine hK.out _ _ ⟨g3, b4, g5, g12, m4_, m5_, (.pointer (some ⟨b4, 0, none⟩)), m7_, (by rw [ha.out]; exact putSel_upk 6 hb_ rfl rfl rfl), below_step HB.out hb, fun h0_ h1_ => blk_below (Q_H3 h0_ h1_) hb, fun h0_ => absurd ((hoff 8 (by kernel_rfl)).symm.trans h0_) (by decide), Q_G3, fun _ _ => hbox, fun h0_ => absurd ((hoff 9 (by kernel_rfl)).symm.trans h0_) (by decide), fun _ => hge, fun h0_ h1_ => blk_below (Q_H5 h0_ h1_) hb, fun h0_ => absurd ((hoff 10 (by kernel_rfl)).symm.trans h0_) (by decide), Q_G5, fun h0_ => ⟨blk_below (Q_HR h0_).1 hb, (Q_HR h0_).2.1, Kd.R_below (Q_HR h0_).2.2 hb⟩, Q_X4_, Q_X5_, fun _ => rfl, Q_X7_⟩
    refine steps_cons ?_ ?_
    · rintro b a w' ⟨g3, g4, g5, g12, m4_, m5_, m6_, m7_, ha, Q_HB, Q_H3, Q_H3b, Q_G3, Q_H4, Q_H4b, Q_G4, Q_H5, Q_H5b, Q_G5, Q_HR, Q_X4_, Q_X5_, Q_X6_, Q_X7_⟩ hb_ hon hoff
      refine ⟨_, rfl, fun K hK => ?_⟩
      replace ha := Aside0.mk ha
      have HB := Aside0.mk Q_HB
      refine box_step ?hg (N := 5) ?hd (cs := #[.slice none 0 0]) (t := 72) ?hr ?_; (case hd => rfl); (case hg => rfl); (case hr => first | (go_simp; done) | (go_simp; rfl))
      intro b5 hg w2 hbox hb
      have hge : W5.heap.size ≤ b5 := by rw [hg]; exact HB.out.size
      refine hK.out _ _ ⟨g3, g4, b5, g12, m4_, m5_, m6_, (.pointer (some ⟨b5, 0, none⟩)), (by rw [ha.out]; exact putSel_upk 7 hb_ rfl rfl rfl), below_step HB.out hb, fun h0_ h1_ => blk_below (Q_H3 h0_ h1_) hb, fun h0_ => absurd ((hoff 8 (by kernel_rfl)).symm.trans h0_) (by decide), Q_G3, fun h0_ h1_ => blk_below (Q_H4 h0_ h1_) hb, fun h0_ => absurd ((hoff 9 (by kernel_rfl)).symm.trans h0_) (by decide), Q_G4, fun _ _ => hbox, fun h0_ => absurd ((hoff 10 (by kernel_rfl)).symm.trans h0_) (by decide), fun _ => hge, fun h0_ => ⟨blk_below (Q_HR h0_).1 hb, (Q_HR h0_).2.1, Kd.R_below (Q_HR h0_).2.2 hb⟩, Q_X4_, Q_X5_, Q_X6_, fun _ => rfl⟩
    refine steps_cons ?_ ?_
    · rintro b a w' ⟨g3, g4, g5, g12, m4_, m5_, m6_, m7_, ha, Q_HB, Q_H3, Q_H3b, Q_G3, Q_H4, Q_H4b, Q_G4, Q_H5, Q_H5b, Q_G5, Q_HR, Q_X4_, Q_X5_, Q_X6_, Q_X7_⟩ hb_ hon hoff
      refine ⟨_, rfl, fun K hK => ?_⟩
      have e3 : a.tmps[3]? = some (m5_) := by rw [ha]; exact putSel_on (e := (5, 3, m5_)) 5 rfl rfl (hon 5 (by kernel_rfl)) rfl
      rw [Q_X5_ (hon 5 (by kernel_rfl))] at e3
      have e9 : a.tmps[9]? = some (.agg #[.int .i64 gw, .int .i64 gh]) := by rw [ha]; exact putSel_on (e := (1, 9, .agg #[.int .i64 gw, .int .i64 gh])) 1 rfl rfl (hon 1 (by kernel_rfl)) rfl
      replace ha := Aside0.mk ha
      have HB := Aside0.mk Q_HB
      have H3 := Aside0.mk (Q_H3 (hon 5 (by kernel_rfl)) hb_)
      have G3 := Aside0.mk (Q_G3 (hon 5 (by kernel_rfl)))
      have H4 := Aside0.mk (Q_H4 (hon 6 (by kernel_rfl)) (hoff 9 (by kernel_rfl)))
      have G4 := Aside0.mk (Q_G4 (hon 6 (by kernel_rfl)))
      have H5 := Aside0.mk (Q_H5 (hon 7 (by kernel_rfl)) (hoff 10 (by kernel_rfl)))
      have G5 := Aside0.mk (Q_G5 (hon 7 (by kernel_rfl)))
      have hs30 := (blk_cell H3.out 0).trans rfl
      have hs31 := (blk_cell H3.out 1).trans rfl
      have hf30 := blk_frozen H3.out 0
      have hf31 := blk_frozen H3.out 1
      refine skip_ (w1 := (w'.setCell ⟨g3, 0, none⟩ (.int .i64 gw)).setCell ⟨g3, 1, none⟩ (.int .i64 gh)) (by rfl) rfl ?hrun8 ?hrest8
      case hrun8 =>
        first | (go_simp; done) | (go_simp; rfl)
      have n34 : g3 ≠ g4 := fun h_ => blk_ne H3.out H4.out (by decide) h_
      have n35 : g3 ≠ g5 := fun h_ => blk_ne H3.out H5.out (by decide) h_
      refine hK.out _ _ ⟨g3, g4, g5, g12, m4_, m5_, m6_, m7_, (by rw [ha.out]; exact putSel_none (v := undef) rfl), below_set (below_set HB.out G3.out) G3.out, fun _ h1_ => absurd ((up_self b 8).symm.trans h1_) (by decide), fun _ => blk_put (cs := #[.int .i64 gw, .int .i64 0]) (blk_put (cs := #[.int .i64 0, .int .i64 0]) H3.out 0 _ rfl) 1 _ rfl, Q_G3, fun _ _ => blk_far (blk_far H4.out n34.symm _) n34.symm _, fun h0_ => absurd ((hoff 9 (by kernel_rfl)).symm.trans h0_) (by decide), Q_G4, fun _ _ => blk_far (blk_far H5.out n35.symm _) n35.symm _, fun h0_ => absurd ((hoff 10 (by kernel_rfl)).symm.trans h0_) (by decide), Q_G5, fun h0_ => ⟨blk_far (blk_far (Q_HR h0_).1 (fun h_ => blk_ne (Q_HR h0_).1 H3.out (by decide) h_) _) (fun h_ => blk_ne (Q_HR h0_).1 H3.out (by decide) h_) _, (Q_HR h0_).2.1, Kd.R_far (p := ⟨g3, 1, none⟩) (Kd.R_far (p := ⟨g3, 0, none⟩) (Q_HR h0_).2.2 (fun k_ hk_ => hk_ ▸ (fun h_ => blk_ne (Q_HR h0_).1 H3.out (by decide) h_)) _) (fun k_ hk_ => hk_ ▸ (fun h_ => blk_ne (Q_HR h0_).1 H3.out (by decide) h_)) _⟩, Q_X4_, Q_X5_, Q_X6_, Q_X7_⟩
    refine steps_cons ?_ ?_
    · rintro b a w' ⟨g3, g4, g5, g12, m4_, m5_, m6_, m7_, ha, Q_HB, Q_H3, Q_H3b, Q_G3, Q_H4, Q_H4b, Q_G4, Q_H5, Q_H5b, Q_G5, Q_HR, Q_X4_, Q_X5_, Q_X6_, Q_X7_⟩ hb_ hon hoff
      refine ⟨_, rfl, fun K hK => ?_⟩
      have e4 : a.tmps[4]? = some (m6_) := by rw [ha]; exact putSel_on (e := (6, 4, m6_)) 6 rfl rfl (hon 6 (by kernel_rfl)) rfl
      rw [Q_X6_ (hon 6 (by kernel_rfl))] at e4
      have e11 : a.tmps[11]? = some (.int .u64 S) := by rw [ha]; exact putSel_on (e := (3, 11, .int .u64 S)) 3 rfl rfl (hon 3 (by kernel_rfl)) rfl
      replace ha := Aside0.mk ha
      have HB := Aside0.mk Q_HB
      have H3b := Aside0.mk (Q_H3b (hon 8 (by kernel_rfl)))
      have G3 := Aside0.mk (Q_G3 (hon 5 (by kernel_rfl)))
      have H4 := Aside0.mk (Q_H4 (hon 6 (by kernel_rfl)) hb_)
      have G4 := Aside0.mk (Q_G4 (hon 6 (by kernel_rfl)))
      have H5 := Aside0.mk (Q_H5 (hon 7 (by kernel_rfl)) (hoff 10 (by kernel_rfl)))
      have G5 := Aside0.mk (Q_G5 (hon 7 (by kernel_rfl)))
      have hs40 := (blk_cell H4.out 0).trans rfl
      have hf40 := blk_frozen H4.out 0
      refine skip_ (w1 := w'.setCell ⟨g4, 0, none⟩ (.int .u64 S)) (by rfl) rfl ?hrun9 ?hrest9
      case hrun9 =>
        first | (go_simp; done) | (go_simp; rfl)
      have n43 : g4 ≠ g3 := fun h_ => blk_ne H4.out H3b.out (by decide) h_
      have n45 : g4 ≠ g5 := fun h_ => blk_ne H4.out H5.out (by decide) h_
      refine hK.out _ _ ⟨g3, g4, g5, g12, m4_, m5_, m6_, m7_, (by rw [ha.out]; exact putSel_none (v := undef) rfl), below_set HB.out G4.out, fun _ h1_ => absurd ((hon 8 (by kernel_rfl)).symm.trans h1_) (by decide), fun _ => blk_far H3b.out n43.symm _, Q_G3, fun _ h1_ => absurd ((up_self b 9).symm.trans h1_) (by decide), fun _ => blk_put (cs := #[.int .u64 0]) H4.out 0 _ rfl, Q_G4, fun _ _ => blk_far H5.out n45.symm _, fun h0_ => absurd ((hoff 10 (by kernel_rfl)).symm.trans h0_) (by decide), Q_G5, fun h0_ => ⟨blk_far (Q_HR h0_).1 (fun h_ => blk_ne (Q_HR h0_).1 H4.out (by decide) h_) _, (Q_HR h0_).2.1, Kd.R_far (p := ⟨g4, 0, none⟩) (Q_HR h0_).2.2 (fun k_ hk_ => hk_ ▸ (fun h_ => blk_ne (Q_HR h0_).1 H4.out (by decide) h_)) _⟩, Q_X4_, Q_X5_, Q_X6_, Q_X7_⟩
    refine steps_cons ?_ ?_
    · rintro b a w' ⟨g3, g4, g5, g12, m4_, m5_, m6_, m7_, ha, Q_HB, Q_H3, Q_H3b, Q_G3, Q_H4, Q_H4b, Q_G4, Q_H5, Q_H5b, Q_G5, Q_HR, Q_X4_, Q_X5_, Q_X6_, Q_X7_⟩ hb_ hon hoff
      refine ⟨_, rfl, fun K hK => ?_⟩
      have e5 : a.tmps[5]? = some (m7_) := by rw [ha]; exact putSel_on (e := (7, 5, m7_)) 7 rfl rfl (hon 7 (by kernel_rfl)) rfl
      rw [Q_X7_ (hon 7 (by kernel_rfl))] at e5
      have e12 : a.tmps[12]? = some (m4_) := by rw [ha]; exact putSel_on (e := (4, 12, m4_)) 4 rfl rfl (hon 4 (by kernel_rfl)) rfl
      rw [Q_X4_ (hon 4 (by kernel_rfl))] at e12
      replace ha := Aside0.mk ha
      have HB := Aside0.mk Q_HB
      have H3b := Aside0.mk (Q_H3b (hon 8 (by kernel_rfl)))
      have G3 := Aside0.mk (Q_G3 (hon 5 (by kernel_rfl)))
      have H4b := Aside0.mk (Q_H4b (hon 9 (by kernel_rfl)))
      have G4 := Aside0.mk (Q_G4 (hon 6 (by kernel_rfl)))
      have H5 := Aside0.mk (Q_H5 (hon 7 (by kernel_rfl)) hb_)
      have G5 := Aside0.mk (Q_G5 (hon 7 (by kernel_rfl)))
      have HR := Aside0.mk (Q_HR (hon 4 (by kernel_rfl)))
      have hs50 := (blk_cell H5.out 0).trans rfl
      have hf50 := blk_frozen H5.out 0
      refine skip_ (w1 := w'.setCell ⟨g5, 0, none⟩ (.slice (some ⟨g12, 0, none⟩) 0 0)) (by rfl) rfl ?hrun10 ?hrest10
      case hrun10 =>
        first | (go_simp; done) | (go_simp; rfl)
      have n53 : g5 ≠ g3 := fun h_ => blk_ne H5.out H3b.out (by decide) h_
      have n54 : g5 ≠ g4 := fun h_ => blk_ne H5.out H4b.out (by decide) h_
      have n5r : g5 ≠ g12 := fun h_ => blk_ne H5.out HR.out.1 (by decide) h_
      refine hK.out _ _ ⟨g3, g4, g5, g12, m4_, m5_, m6_, m7_, (by rw [ha.out]; exact putSel_none (v := undef) rfl), below_set HB.out G5.out, fun _ h1_ => absurd ((hon 8 (by kernel_rfl)).symm.trans h1_) (by decide), fun _ => blk_far H3b.out n53.symm _, Q_G3, fun _ h1_ => absurd ((hon 9 (by kernel_rfl)).symm.trans h1_) (by decide), fun _ => blk_far H4b.out n54.symm _, Q_G4, fun _ h1_ => absurd ((up_self b 10).symm.trans h1_) (by decide), fun _ => blk_put (cs := #[.slice none 0 0]) H5.out 0 _ rfl, Q_G5, fun _ => ⟨blk_far HR.out.1 n5r.symm _, HR.out.2.1, Kd.R_far (p := ⟨g5, 0, none⟩) HR.out.2.2 (fun k_ hk_ => hk_ ▸ n5r.symm) _⟩, Q_X4_, Q_X5_, Q_X6_, Q_X7_⟩
    exact steps_nil
  rintro b a w' hall ⟨g3, g4, g5, g12, m4_, m5_, m6_, m7_, ha, Q_HB, Q_H3, Q_H3b, Q_G3, Q_H4, Q_H4b, Q_G4, Q_H5, Q_H5b, Q_G5, Q_HR, Q_X4_, Q_X5_, Q_X6_, Q_X7_⟩
  clear HB
  have hb0_ := hall 0 (by kernel_rfl)
  have hb1_ := hall 1 (by kernel_rfl)
  have hb2_ := hall 2 (by kernel_rfl)
  have hb3_ := hall 3 (by kernel_rfl)
  have hb4_ := hall 4 (by kernel_rfl)
  have hb5_ := hall 5 (by kernel_rfl)
  have hb6_ := hall 6 (by kernel_rfl)
  have hb7_ := hall 7 (by kernel_rfl)
  have hb8_ := hall 8 (by kernel_rfl)
  have hb9_ := hall 9 (by kernel_rfl)
  have hb10_ := hall 10 (by kernel_rfl)
  subst ha
  obtain rfl := Q_X4_ hb4_
  obtain rfl := Q_X5_ hb5_
  obtain rfl := Q_X6_ hb6_
  obtain rfl := Q_X7_ hb7_
  simp only [putSel, hb0_, hb1_, hb2_, hb3_, hb4_, hb5_, hb6_, hb7_, hb8_, hb9_, hb10_, if_true, Act.put, List.setIfInBounds_toArray, List.set_cons_zero, List.set_cons_succ]
  have HB := Aside0.mk Q_HB
  clear Q_HB
  clear Q_H3
  have H3b := Aside0.mk (Q_H3b hb8_)
  clear Q_H3b
  have G3 := Aside0.mk (Q_G3 hb5_)
  clear Q_G3
  clear Q_H4
  have H4b := Aside0.mk (Q_H4b hb9_)
  clear Q_H4b
  have G4 := Aside0.mk (Q_G4 hb6_)
  clear Q_G4
  clear Q_H5
  have H5b := Aside0.mk (Q_H5b hb10_)
  clear Q_H5b
  have G5 := Aside0.mk (Q_G5 hb7_)
  clear Q_G5
  have HR := Aside0.mk (Q_HR hb4_)
  clear Q_HR
  clear hall hb0_ hb1_ hb2_ hb3_ hb4_ hb5_ hb6_ hb7_ hb8_ hb9_ hb10_
  have N53 : g5 ≠ g3 := fun h_ => blk_ne H5b.out H3b.out (by decide) h_
  have N54 : g5 ≠ g4 := fun h_ => blk_ne H5b.out H4b.out (by decide) h_
  have N5r : g5 ≠ g12 := fun h_ => blk_ne H5b.out HR.out.1 (by decide) h_
  have N3r : g3 ≠ g12 := fun h_ => blk_ne H3b.out HR.out.1 (by decide) h_
  have N4r : g4 ≠ g12 := fun h_ => blk_ne H4b.out HR.out.1 (by decide) h_
  have SZ : w.heap.size ≤ W5.heap.size := HB5.out.size
  have HI0 : Aside0 (FSt w g5 (K34 g3 g4 gw gh S) (figRows gw gh S 0) w') := ⟨⟨⟨fun k => k = g5 ∨ some k = (Value.slice (some ⟨g12, 0, none⟩) 0 0).ownBlock, ⟨_, (blk_cell H5b.out 0).trans rfl, blk_frozen H5b.out 0, Kd.R_mono (Kd.R_lower HR.out.2.2 SZ) (fun k hk => hk ▸ N5r.symm), fun k => Iff.rfl⟩, fun b i v q => by
    have no : ∀ b, b ≠ g5 → b ≠ g12 → ¬ (b = g5 ∨ some b = (Value.slice (some ⟨g12, 0, none⟩) 0 0).ownBlock) := fun b h1 h2 h => by
      rcases h with h | h
      · exact h1 h
      · simp only [Value.ownBlock] at h
        injection h with h
        exact h2 h
    rcases q with ⟨rfl, rfl, rfl⟩ | ⟨rfl, rfl, rfl⟩ | ⟨rfl, rfl, rfl⟩
    · exact ⟨(blk_cell H3b.out 0).trans rfl, no _ N53.symm N3r⟩
    · exact ⟨(blk_cell H3b.out 1).trans rfl, no _ N53.symm N3r⟩
    · exact ⟨(blk_cell H4b.out 0).trans rfl, no _ N54.symm N4r⟩⟩, below_step HB5.out (HB.out.mono (Nat.le_refl _))⟩⟩
  have HG5 : Aside0 (w.heap.size ≤ g5) := ⟨Nat.le_trans SZ G5.out⟩
  have hc31 : w'.cell? ⟨g3, 1, none⟩ = some (.int .i64 (gh : Int)) := (blk_cell H3b.out 1).trans rfl
  have hw1 : wrap64 ((gh : Int) + 1) = ((gh + 1 : Nat) : Int) := by unfold wrap64; omega
  clear N53 N54 N5r N3r N4r SZ H3b H4b H5b G3 G4 G5 HR HB HB5 HX HGR HSE hHeld
  go_wp2_with fail
  go_loopg [17] (gh + 1) (fun gg u17 wr => ∃ y : Nat, y ≤ gh + 1 ∧ gh + 1 - y ≤ gg ∧ u17 = .int .i64 y ∧ Aside0 (FSt w g5 (K34 g3 g4 gw gh S) (figRows gw gh S y) wr))
  case atStart => exact ⟨0, Nat.zero_le _, by omega, rfl, HI0⟩
  case round =>
    clear HI0 hc31
    obtain ⟨y, hy, hgg, rfl, HI⟩ := hrel
    by_cases hlt : y < gh + 1
    · have hltz : (y : Int) < (gh : Int) + 1 := by omega
      have HN := Aside0.mk (HI.out.grow 3 (.int .i64 (y : Int)))
      have hn30 := HN.out.cell (.inl (.inl ⟨rfl, rfl, rfl⟩))
      have hn31 := HN.out.cell (.inl (.inr (.inl ⟨rfl, rfl, rfl⟩)))
      have hn7 := HN.out.cell (.inr ⟨rfl, rfl, rfl⟩)
      have HL := figRows_len gw gh S y
      have HGW : Aside0 (gw ≤ 4 ∧ gh ≤ 4) := ⟨hgw, hgh⟩
      have HLN : Aside0 ((figRows gw gh S y).length ≤ 10) := ⟨by omega⟩
      have HY : Aside0 (y ≤ gh) := ⟨by omega⟩
      have hgz : wrap64 ((gw : Int) + 1) = ((gw + 1 : Nat) : Int) := by unfold wrap64; omega
      have hyz : wrap64 ((y : Int) + 1) = ((y + 1 : Nat) : Int) := by unfold wrap64; omega
      clear HL HI
      have tok0 : True := trivial
      by_cases c : y < gh
      · have HC := Aside0.mk c
        have cz : (y : Int) < (gh : Int) := by omega
        go_wp2_with (first
          | (go_at_fn 102; have _t := tok0; refine (HN.out.row HG5.out g4 S 45 (.inl (.inr (.inr ⟨rfl, rfl, rfl⟩))) gw (by have := HGW.out; omega) (levB gw gh S y) 103 #[.pointer (some ⟨g3, 0, none⟩), .pointer (some ⟨wr.heap.size, 0, none⟩)] (fun x => (impl_grid_level.f (gw : Int) (gh : Int) (x : Int) (y : Int)).getD 0) (fun x _ => rfl) eg2 (by have := HLN.out; omega) ?hL).mono ?_
             (case hL => exact fun W' hW x hx => figE_level _ _ _ _ _ g3 _ W' (hW _ _ _ (.inl (.inl ⟨rfl, rfl, rfl⟩))) (hW _ _ _ (.inl (.inr (.inl ⟨rfl, rfl, rfl⟩)))) (hW _ _ _ (.inr ⟨rfl, rfl, rfl⟩)) (HLV.out x y hx HY.out))
             rintro e w7 ⟨rfl, hst⟩
             have HM := Aside0.mk hst
             have hm30 := hst.cell (.inl (.inl ⟨rfl, rfl, rfl⟩))
             have hm31 := hst.cell (.inl (.inr (.inl ⟨rfl, rfl, rfl⟩)))
             have hm7 := hst.cell (.inr ⟨rfl, rfl, rfl⟩)
             clear hst hn30 hn31 hn7 _t tok0
             have tok1 : True := trivial)
          | (go_at_fn 102; have _t := tok1; refine (HM.out.row HG5.out g4 S 124 (.inl (.inr (.inr ⟨rfl, rfl, rfl⟩))) (gw + 1) (by have := HGW.out; omega) (uprB gw gh S y) 104 #[.pointer (some ⟨g3, 0, none⟩), .pointer (some ⟨wr.heap.size, 0, none⟩)] (fun x => (impl_grid_upright.f (gw : Int) (gh : Int) (x : Int) (y : Int)).getD 0) (fun x _ => rfl) eg3 (by have := HLN.out; simp only [List.length_append, List.length_singleton]; omega) ?hU).mono ?_
             (case hU => exact fun W' hW x hx => figE_upright _ _ _ _ _ g3 _ W' (hW _ _ _ (.inl (.inl ⟨rfl, rfl, rfl⟩))) (hW _ _ _ (.inl (.inr (.inl ⟨rfl, rfl, rfl⟩)))) (hW _ _ _ (.inr ⟨rfl, rfl, rfl⟩)) (HUV.out x y (by omega) HC.out))
             rintro e w8 ⟨rfl, hst⟩
             have HP := Aside0.mk hst
             clear hst hm30 hm31 hm7 _t tok1))
        go_roundg (gh + 1 - (y + 1))
        case measure => omega
        case rel => exact ⟨y + 1, by omega, by omega, by first | rfl | (exact congrArg _ hyz) | go_num, ⟨by unfold figRows; rw [if_pos HC.out]; exact HP.out.weak (fun b i v q => .inl q)⟩⟩
      · have HC := Aside0.mk c
        have cz : ¬ (y : Int) < (gh : Int) := by omega
        go_wp2_with (first
          | (go_at_fn 102; have _t := tok0; refine (HN.out.row HG5.out g4 S 45 (.inl (.inr (.inr ⟨rfl, rfl, rfl⟩))) gw (by have := HGW.out; omega) (levB gw gh S y) 103 #[.pointer (some ⟨g3, 0, none⟩), .pointer (some ⟨wr.heap.size, 0, none⟩)] (fun x => (impl_grid_level.f (gw : Int) (gh : Int) (x : Int) (y : Int)).getD 0) (fun x _ => rfl) eg2 (by have := HLN.out; omega) ?hL).mono ?_
             (case hL => exact fun W' hW x hx => figE_level _ _ _ _ _ g3 _ W' (hW _ _ _ (.inl (.inl ⟨rfl, rfl, rfl⟩))) (hW _ _ _ (.inl (.inr (.inl ⟨rfl, rfl, rfl⟩)))) (hW _ _ _ (.inr ⟨rfl, rfl, rfl⟩)) (HLV.out x y hx HY.out))
             rintro e w7 ⟨rfl, hst⟩
             have HM := Aside0.mk hst
             have hm30 := hst.cell (.inl (.inl ⟨rfl, rfl, rfl⟩))
             have hm31 := hst.cell (.inl (.inr (.inl ⟨rfl, rfl, rfl⟩)))
             have hm7 := hst.cell (.inr ⟨rfl, rfl, rfl⟩)
             clear hst hn30 hn31 hn7 _t tok0
             have tok1 : True := trivial))
        go_roundg (gh + 1 - (y + 1))
        case measure => omega
        case rel => exact ⟨y + 1, by omega, by omega, by first | rfl | (exact congrArg _ hyz) | go_num, ⟨by unfold figRows; rw [if_neg HC.out]; exact HM.out.weak (fun b i v q => .inl q)⟩⟩
    · obtain rfl : y = gh + 1 := by omega
      have hltz : ¬ (((gh + 1 : Nat) : Int)) < (gh : Int) + 1 := by omega
      obtain ⟨⟨O, hI, -⟩, hB⟩ := HI.out
      obtain ⟨v, c1, f1, hR, hO⟩ := hI
      obtain ⟨Av, cv, rfl⟩ := Kd.R_slice hR
      have HR := Aside0.mk hR
      have HB := Aside0.mk hB
      clear hR hB hO HI f1
      go_wp2_with (go_at_call 105; refine (HJ.out _ _ _ Av cv HR.out).mono ?_; rintro e w9 ⟨rfl, hb⟩; have HB9 := Aside0.mk (below_step HB.out hb); clear hb)
      go_ret
      exact ⟨rfl, HB9.out⟩
theorem join_len (sep : List UInt8) (m : Nat) : ∀ (xs : List (List UInt8)), (∀ x ∈ xs, x.length ≤ m) → (Lib.join xs sep).length ≤ xs.length * (m + sep.length) := by
  have tail : ∀ (r : List (List UInt8)), (∀ x ∈ r, x.length ≤ m) → (Lib.joinTail sep r).length ≤ r.length * (m + sep.length) := by
    intro r
    induction r with
    | nil => intro _; exact Nat.zero_le _
    | cons x r ih =>
      intro h
      have h1 := h x List.mem_cons_self
      have h2 := ih (fun y hy => h y (List.mem_cons_of_mem _ hy))
      unfold Lib.joinTail at h2 ⊢
      rw [List.map_cons, List.flatten_cons, List.length_append, List.length_append, List.length_cons, Nat.succ_mul]
      omega
  intro xs h
  cases xs with
  | nil => exact Nat.zero_le _
  | cons x r =>
    rw [Lib.join_cons, List.length_append, List.length_cons, Nat.succ_mul]
    have h1 := h x List.mem_cons_self
    have h2 := tail r (fun y hy => h y (List.mem_cons_of_mem _ hy))
    omega
theorem figRows_size (gw gh : Nat) (S : Int) : ∀ y, ∀ x ∈ figRows gw gh S y, x.size ≤ gw + 1
  | 0, x, h => by cases h
  | y + 1, x, h => by
    have ih := figRows_size gw gh S y
    have e1 : (levR gw gh S y).size = gw := by unfold levR; rw [strOfNums_size, rowF_len]
    have e2 : (uprR gw gh S y).size = gw + 1 := by unfold uprR; rw [strOfNums_size, rowF_len]
    unfold figRows at h
    split at h
    · rcases List.mem_append.1 h with h | h
      · rcases List.mem_append.1 h with h | h
        · exact ih x h
        · rw [List.mem_singleton.1 h]; omega
      · rw [List.mem_singleton.1 h]; omega
    · rcases List.mem_append.1 h with h | h
      · exact ih x h
      · rw [List.mem_singleton.1 h]; omega
def impl_figureText.f (k : Nat) (a0_0 a0_1 : Int) (l0_2 l0_3 : List Int) : Option ByteArray := (impl_Figure_set.f k a0_0 a0_1 l0_2 l0_3).bind fun S => if (1 ≤ a0_0 ∧ a0_0 ≤ 4) ∧ (1 ≤ a0_1 ∧ a0_1 ≤ 4) then some (joinB (figRows a0_0.toNat a0_1.toNat S (a0_1.toNat + 1)) ⟨#[47]⟩) else none
theorem impl_figureText.mono : ∀ a0 a1 a2 a3 k, LeO (impl_figureText.f k a0 a1 a2 a3) (impl_figureText.f (k + 1) a0 a1 a2 a3) := by
  intro a0 a1 a2 a3 k
  unfold impl_figureText.f
  exact LeO.bind (impl_Figure_set.mono _ _ _ _ _) (fun _ => LeO.refl _)
theorem impl_figureText.calls (k : Nat) (a0_0 : Int) (a0_1 : Int) (A0_2 : Option Addr) (c0_2 : Nat) (l0_2 : List Int) (A0_3 : Option Addr) (c0_3 : Nat) (l0_3 : List Int) (r : ByteArray) (w : World) (hr0_2 : Kd.C (Kd.int .i64) w A0_2 l0_2.length l0_2) (hc0_2 : l0_2.length ≤ c0_2) (hr0_3 : Kd.C (Kd.int .i64) w A0_3 l0_3.length l0_3) (hc0_3 : l0_3.length ≤ c0_3) (h : impl_figureText.f k a0_0 a0_1 l0_2 l0_3 = some r) :
    Calls Tryd.prog 57 #[.agg #[.int .i64 a0_0, .int .i64 a0_1, .slice A0_2 l0_2.length c0_2, .slice A0_3 l0_3.length c0_3]] w fun e w' => e = .returned (.string r) ∧ Below w.heap.size w w' := by
  unfold impl_figureText.f at h
  obtain ⟨S, h1, h⟩ := Option.bind_eq_some_iff.mp h
  split at h
  · rename_i hb
    obtain rfl := Option.some.inj h
    obtain ⟨gw, rfl⟩ := Int.eq_ofNat_of_zero_le (show 0 ≤ a0_0 by omega)
    obtain ⟨gh, rfl⟩ := Int.eq_ofNat_of_zero_le (show 0 ≤ a0_1 by omega)
    have g : GridOK (gw : Int) (gh : Int) := ⟨hb.1.1, hb.1.2, hb.2.1, hb.2.2⟩
    have hgw : gw ≤ 4 := by omega
    have hgh : gh ≤ 4 := by omega
    rw [Int.toNat_natCast, Int.toNat_natCast]
    have hlen := figRows_len gw gh S (gh + 1)
    refine figText_main gw gh hgw hgh A0_2 A0_3 c0_2 c0_3 l0_2 l0_3 S w ?_ ?_ ?_ ?_ (fun xs => joinB xs ⟨#[47]⟩) ?_
    · intro W' hW
      exact impl_Figure_grid.calls _ _ _ _ _ _ _ _ _ _ W' (Kd.C_below hr0_2 hW) hc0_2 (Kd.C_below hr0_3 hW) hc0_3 rfl
    · intro W' hW
      exact impl_Figure_set.calls k _ _ _ _ _ _ _ _ _ W' (Kd.C_below hr0_2 hW) hc0_2 (Kd.C_below hr0_3 hW) hc0_3 h1
    · intro x y hx hy
      rw [level_f g (Int.natCast_nonneg x) (by omega) (Int.natCast_nonneg y) (by omega)]
      rfl
    · intro x y hx hy
      rw [upright_f g (Int.natCast_nonneg x) (by omega) (Int.natCast_nonneg y) (by omega)]
      rfl
    · intro W base ok A c hR
      refine Join_any _ _ (by omega) ?_ W base ok A c hR
      have hj := join_len (⟨#[47]⟩ : ByteArray).data.toList 5 ((figRows gw gh S (gh + 1)).map (·.data.toList)) (fun x hx => by
        obtain ⟨b, hb2, rfl⟩ := List.mem_map.1 hx
        have := figRows_size gw gh S (gh + 1) b hb2
        have e : b.data.toList.length = b.size := by simp
        omega)
      rw [List.length_map] at hj
      have e1 : (⟨#[47]⟩ : ByteArray).data.toList.length = 1 := rfl
      rw [e1] at hj
      refine Nat.le_trans hj ?_
      have : (figRows gw gh S (gh + 1)).length * (5 + 1) ≤ 10 * 6 := Nat.mul_le_mul_right 6 (by omega)
      omega
  · cases h


mutual
def impl_ParseFigure.j0 : Nat → ByteArray → List ByteArray → Bool → Int → Int → Option (Int × Int × List Int × List Int × Bool)
 | 0, _, _, _, _, _ => none
 | k + 1, x0, x4, x35, x165000, x165001 => if x35 = true then (some (0, 0, ([] : List Int), ([] : List Int), false)) else (impl_ParseFigure.l0 k x0 0 x4 (x4.length : Int) 0 x165000 x165001)
def impl_ParseFigure.l0 : Nat → ByteArray → Int → List ByteArray → Int → Int → Int → Int → Option (Int × Int × List Int × List Int × Bool)
 | 0, _, _, _, _, _, _, _ => none
 | k + 1, x0, x6, x37, x38, x39, x165000, x165001 => if x39 < x38 then (if 0 ≤ x39 then (if x39 < (x37.length : Int) then (if ((rdOf ByteArray.empty x37 x39).size : Int) = (wrap64 (x165000 + (Int.tmod x39 2))) then (impl_ParseFigure.l1 k x0 x6 x39 (rdOf ByteArray.empty x37 x39) x37 x38 x39 ((rdOf ByteArray.empty x37 x39).size : Int) 0 x165000 x165001) else (some (0, 0, ([] : List Int), ([] : List Int), false))) else (none)) else (none)) else ((impl_grid_figure.f x165000 x165001 x6).bind fun bt169 => ((impl_figureText.f k bt169.1 bt169.2.1 bt169.2.2.1 bt169.2.2.2).bind fun t178 => (if t178.toList = x0.toList then (some (bt169.1, bt169.2.1, bt169.2.2.1, bt169.2.2.2, true)) else (some (0, 0, ([] : List Int), ([] : List Int), false)))))
def impl_ParseFigure.l1 : Nat → ByteArray → Int → Int → ByteArray → List ByteArray → Int → Int → Int → Int → Int → Int → Option (Int × Int × List Int × List Int × Bool)
 | 0, _, _, _, _, _, _, _, _, _, _, _ => none
 | k + 1, x0, x6, x7, x8, x37, x38, x39, x54, x55, x165000, x165001 => if x55 < x54 then (if 0 ≤ x55 then (if x55 < (x8.size : Int) then (if (bt x8 x55) = 46 then (impl_ParseFigure.l1 k x0 x6 x7 x8 x37 x38 x39 x54 (wrap64 (x55 + 1)) x165000 x165001) else (if (Int.tmod x7 2) = 0 then ((impl_grid_level.f x165000 x165001 x55 (wrap64 (Int.tdiv x7 2))).bind fun t167 => (impl_ParseFigure.l1 k x0 (Go.bits .or .u64 x6 t167) x7 x8 x37 x38 x39 x54 (wrap64 (x55 + 1)) x165000 x165001)) else ((impl_grid_upright.f x165000 x165001 x55 (wrap64 (Int.tdiv x7 2))).bind fun t168 => (impl_ParseFigure.l1 k x0 (Go.bits .or .u64 x6 t168) x7 x8 x37 x38 x39 x54 (wrap64 (x55 + 1)) x165000 x165001)))) else (none)) else (none)) else (impl_ParseFigure.l0 k x0 x6 x37 x38 (wrap64 (x39 + 1)) x165000 x165001)
end
def impl_ParseFigure.f (k : Nat) (a0 : ByteArray) : Option (Int × Int × List Int × List Int × Bool) := (strings_Split.f a0 (⟨#[47]⟩ : ByteArray)).bind fun t160 => (if 0 < (t160.length : Int) then ((impl_isGrid.f ((rdOf ByteArray.empty t160 0).size : Int) (wrap64 ((t160.length : Int) / 2))).bind fun t165 => (if t165 = true then (impl_ParseFigure.j0 k a0 t160 ((t160.length : Int) != (wrap64 ((wrap64 (2 * (wrap64 ((t160.length : Int) / 2)))) + 1))) ((rdOf ByteArray.empty t160 0).size : Int) (wrap64 ((t160.length : Int) / 2))) else (impl_ParseFigure.j0 k a0 t160 true ((rdOf ByteArray.empty t160 0).size : Int) (wrap64 ((t160.length : Int) / 2))))) else (none))
theorem impl_ParseFigure.mono_l : ∀ k, (∀ y0 y1 y2 y3 y4, LeO (impl_ParseFigure.j0 k y0 y1 y2 y3 y4) (impl_ParseFigure.j0 (k + 1) y0 y1 y2 y3 y4)) ∧ (∀ y0 y1 y2 y3 y4 y5 y6, LeO (impl_ParseFigure.l0 k y0 y1 y2 y3 y4 y5 y6) (impl_ParseFigure.l0 (k + 1) y0 y1 y2 y3 y4 y5 y6)) ∧ (∀ y0 y1 y2 y3 y4 y5 y6 y7 y8 y9 y10, LeO (impl_ParseFigure.l1 k y0 y1 y2 y3 y4 y5 y6 y7 y8 y9 y10) (impl_ParseFigure.l1 (k + 1) y0 y1 y2 y3 y4 y5 y6 y7 y8 y9 y10))
 | 0 => ⟨fun _ _ _ _ _ r h => by simp [impl_ParseFigure.j0] at h, fun _ _ _ _ _ _ _ r h => by simp [impl_ParseFigure.l0] at h, fun _ _ _ _ _ _ _ _ _ _ _ r h => by simp [impl_ParseFigure.l1] at h⟩
 | k + 1 => by
  obtain ⟨ih0, ih1, ih2⟩ := impl_ParseFigure.mono_l k
  refine ⟨?_, ?_, ?_⟩
  ·intro y0 y1 y2 y3 y4
   unfold impl_ParseFigure.j0
   repeat' first
   | (with_reducible exact ih0 _ _ _ _ _)
   | (with_reducible exact ih1 _ _ _ _ _ _ _)
   | (with_reducible exact ih2 _ _ _ _ _ _ _ _ _ _ _)
   | (with_reducible exact impl_figureText.mono _ _ _ _ _)
   | (with_reducible exact LeO.refl _)
   | (with_reducible exact LeO.none _)
   | (with_reducible refine LeO.ite ?_ ?_)
   | (with_reducible refine LeO.bind ?_ (fun _ => ?_))
   | exact ih0 _ _ _ _ _
   | exact ih1 _ _ _ _ _ _ _
   | exact ih2 _ _ _ _ _ _ _ _ _ _ _
   | exact impl_figureText.mono _ _ _ _ _
   | exact LeO.none _
   | refine LeO.ite ?_ ?_
   | refine LeO.bind ?_ (fun _ => ?_)
  ·intro y0 y1 y2 y3 y4 y5 y6
   unfold impl_ParseFigure.l0
   repeat' first
   | (with_reducible exact ih0 _ _ _ _ _)
   | (with_reducible exact ih1 _ _ _ _ _ _ _)
   | (with_reducible exact ih2 _ _ _ _ _ _ _ _ _ _ _)
   | (with_reducible exact impl_figureText.mono _ _ _ _ _)
   | (with_reducible exact LeO.refl _)
   | (with_reducible exact LeO.none _)
   | (with_reducible refine LeO.ite ?_ ?_)
   | (with_reducible refine LeO.bind ?_ (fun _ => ?_))
   | exact ih0 _ _ _ _ _
   | exact ih1 _ _ _ _ _ _ _
   | exact ih2 _ _ _ _ _ _ _ _ _ _ _
   | exact impl_figureText.mono _ _ _ _ _
   | exact LeO.none _
   | refine LeO.ite ?_ ?_
   | refine LeO.bind ?_ (fun _ => ?_)
  ·intro y0 y1 y2 y3 y4 y5 y6 y7 y8 y9 y10
   unfold impl_ParseFigure.l1
   repeat' first
   | (with_reducible exact ih0 _ _ _ _ _)
   | (with_reducible exact ih1 _ _ _ _ _ _ _)
   | (with_reducible exact ih2 _ _ _ _ _ _ _ _ _ _ _)
   | (with_reducible exact impl_figureText.mono _ _ _ _ _)
   | (with_reducible exact LeO.refl _)
   | (with_reducible exact LeO.none _)
   | (with_reducible refine LeO.ite ?_ ?_)
   | (with_reducible refine LeO.bind ?_ (fun _ => ?_))
   | exact ih0 _ _ _ _ _
   | exact ih1 _ _ _ _ _ _ _
   | exact ih2 _ _ _ _ _ _ _ _ _ _ _
   | exact impl_figureText.mono _ _ _ _ _
   | exact LeO.none _
   | refine LeO.ite ?_ ?_
   | refine LeO.bind ?_ (fun _ => ?_)
theorem impl_ParseFigure.mono : ∀ a0 k, LeO (impl_ParseFigure.f k a0) (impl_ParseFigure.f (k + 1) a0) := by
 intro a0 k
 obtain ⟨ih0, ih1, ih2⟩ := impl_ParseFigure.mono_l k
 unfold impl_ParseFigure.f
 repeat' first
   | (with_reducible exact ih0 _ _ _ _ _)
   | (with_reducible exact ih1 _ _ _ _ _ _ _)
   | (with_reducible exact ih2 _ _ _ _ _ _ _ _ _ _ _)
   | (with_reducible exact impl_figureText.mono _ _ _ _ _)
   | (with_reducible exact LeO.refl _)
   | (with_reducible exact LeO.none _)
   | (with_reducible refine LeO.ite ?_ ?_)
   | (with_reducible refine LeO.bind ?_ (fun _ => ?_))
   | exact ih0 _ _ _ _ _
   | exact ih1 _ _ _ _ _ _ _
   | exact ih2 _ _ _ _ _ _ _ _ _ _ _
   | exact impl_figureText.mono _ _ _ _ _
   | exact LeO.none _
   | refine LeO.ite ?_ ?_
   | refine LeO.bind ?_ (fun _ => ?_)
set_option maxHeartbeats 8000000 in
set_option maxRecDepth 100000 in
theorem impl_ParseFigure.calls (k : Nat) (a0 : ByteArray) (r1 : Int) (r2 : Int) (r3 : List Int) (r4 : List Int) (r5 : Bool) (w : World) (hT_ : TB w) (h : impl_ParseFigure.f k a0 = some (r1, r2, r3, r4, r5)) :
  Calls Tryd.prog 22 #[.string a0] w fun e w' => ∃ v2_ v3_ : Value, e = .returned (.tuple #[.agg #[.int .i64 r1, .int .i64 r2, v2_, v3_], .bool r5]) ∧ Kd.R (Kd.int .i64) 3 w' w.heap.size (fun k_ => some k_ ≠ (v3_ : Value).ownBlock) v2_ r3 ∧ Kd.R (Kd.int .i64) 3 w' w.heap.size (fun k_ => some k_ ≠ (v2_ : Value).ownBlock) v3_ r4 ∧ Below w.heap.size w w' := by
 have hu36 := Tryd.underlying36
 have hu75 := Tryd.underlying75
 have HB := Aside0.mk (Below.refl w.heap.size w)
 have HTB := Aside0.mk hT_
 clear hT_
 have H : ((strings_Split.f a0 (⟨#[47]⟩ : ByteArray)).bind fun t160 => (if 0 < (t160.length : Int) then ((impl_isGrid.f ((rdOf ByteArray.empty t160 0).size : Int) (wrap64 ((t160.length : Int) / 2))).bind fun t165 => (if t165 = true then (impl_ParseFigure.j0 k a0 t160 ((t160.length : Int) != (wrap64 ((wrap64 (2 * (wrap64 ((t160.length : Int) / 2)))) + 1))) ((rdOf ByteArray.empty t160 0).size : Int) (wrap64 ((t160.length : Int) / 2))) else (impl_ParseFigure.j0 k a0 t160 true ((rdOf ByteArray.empty t160 0).size : Int) (wrap64 ((t160.length : Int) / 2))))) else (none))) = some (r1, r2, r3, r4, r5) := h
 clear h
 replace H := Option.bind_eq_some_iff.mp H
 obtain ⟨t160, A20, H⟩ := H
 replace H : (if 0 < (t160.length : Int) then ((impl_isGrid.f ((rdOf ByteArray.empty t160 0).size : Int) (wrap64 ((t160.length : Int) / 2))).bind fun t165 => (if t165 = true then (impl_ParseFigure.j0 k a0 t160 ((t160.length : Int) != (wrap64 ((wrap64 (2 * (wrap64 ((t160.length : Int) / 2)))) + 1))) ((rdOf ByteArray.empty t160 0).size : Int) (wrap64 ((t160.length : Int) / 2))) else (impl_ParseFigure.j0 k a0 t160 true ((rdOf ByteArray.empty t160 0).size : Int) (wrap64 ((t160.length : Int) / 2))))) else (none)) = some (r1, r2, r3, r4, r5) := H
 have A2 := Aside0.mk A20
 clear A20
 by_cases c3 : 0 < (t160.length : Int)
 ·rw [if_pos c3] at H
  have c3b0 : decide (0 < (t160.length : Int)) = true := decide_eq_true c3
  have c3b1 : decide (0 < t160.length) = true := decide_eq_true (by omega)
  clear c3
  have HC4 := Aside0.mk H
  clear H
  go_enter Tryd.func22, Tryd.ntmps22
  go_upto_region 3 with (first | ((with_reducible refine gate_dst (N := 2) rfl ?_); (try (refine gate_guard (by rfl) ?_; dsimp only)); refine boxE_ (N := 2) (cs := #[.int .i64 0, .int .i64 0, .slice none 0 0, .slice none 0 0]) (t := 36) ?_; intro gb159 hg w5 hbox hb; have n0_ := Aside0.mk (below_step (bl0_ HB.out) hb); have n1_ := Aside0.mk (hbox); have n2_ := Aside0.mk ((bs0_ hg HB.out : w.heap.size ≤ gb159)); have n3_ := Aside0.mk ((bs0_ hg HB.out : w.heap.size ≤ gb159)); clear HB; have HB := n0_; have BK159 := n1_; have GW159 := n2_; have GE159 := n3_; clear n0_ n1_ n2_ n3_; clear hb hbox hg) | ((with_reducible refine gate_callee (f := 52) rfl ?_); refine goesL_ (some 12) rfl rfl Tryd.func52 (by kernel_rfl) rfl #[.string a0, .string (⟨#[47]⟩ : ByteArray)] rfl ob_ ?_; (with_reducible refine (strings_Split.calls a0 (⟨#[47]⟩ : ByteArray) t160 _ (TB.below HTB.out (bl1_ HB.out GE159.out)) A2.out).mono ?_); rintro e w6 ⟨v161, rfl, ho0, hb⟩; refine ⟨_, rfl, ?_⟩; have n0_ := Aside0.mk (Kd.R_lower ho0 (below_size (bl1_ HB.out GE159.out))); have n1_ := Aside0.mk (bb_ BK159.out hb); have n2_ := Aside0.mk (below_step (bl1_ HB.out GE159.out) hb); clear BK159; clear HB; have HO162 := n0_; have BK159 := n1_; have HB := n2_; clear n0_ n1_ n2_; (try clear hb); (try clear hb2); (try clear hk); (try clear hi); (try clear ho0); obtain ⟨Ao7, co7, eo7⟩ := Kd.R_slice HO162.out; subst eo7; have p163 : 0 ≤ (0 : Int) := (by omega); have q163 : 0 < (t160.length : Int) := of_decide_eq_true as_; obtain ⟨ad163, e163, hx163_0⟩ := Kd.at_string (Kd.R_reads' HO162.out).2.2 0 p163 q163; cases e163; have qi163 : (0 < t160.length) = True := eq_true (by omega); (try rw [show ((0 : Int)).toNat = 0 from rfl] at hx163_0); (try rw [Addr.add_zero'] at hx163_0); replace p163 := eq_true p163; replace q163 := eq_true q163) | ((with_reducible refine gate_dst (N := 5) rfl ?_); (try (refine gate_guard (by rfl) ?_; dsimp only)); refine boxE_ (N := 5) (cs := #[.int .i64 0, .int .i64 0]) (t := 75) ?_; intro gb164 hg w8 hbox hb; have n0_ := Aside0.mk (Kd.R_below (kr_ HO162.out) hb); have n1_ := Aside0.mk (bb_ BK159.out hb); have n2_ := Aside0.mk (below_step (bl1_ HB.out GE159.out) hb); have n3_ := Aside0.mk (hbox); have n4_ := Aside0.mk ((bs1_ hg HB.out GE159.out : w.heap.size ≤ gb164)); have n5_ := Aside0.mk ((bs1_ hg HB.out GE159.out : w.heap.size ≤ gb164)); have n6_ := Aside0.mk ((nl_ hg BK159.out : gb159 ≠ gb164)); have n7_ := Aside0.mk ((ng_ hg BK159.out : gb164 ≠ gb159)); clear HO162; clear BK159; clear HB; have HO162 := n0_; have BK159 := n1_; have HB := n2_; have BK164 := n3_; have GW164 := n4_; have GE164 := n5_; have NB159_164 := n6_; have NB164_159 := n7_; clear n0_ n1_ n2_ n3_ n4_ n5_ n6_ n7_; clear hb hbox hg; have hnb9 := NB164_159.out; have hnc9 := NB159_164.out; have hcz10_0 : w8.cell? ⟨gb164, 0, none⟩ = some (.int .i64 0) := (blk_cell BK164.out 0).trans rfl; have hcz10_1 : w8.cell? ⟨gb164, 1, none⟩ = some (.int .i64 0) := (blk_cell BK164.out 1).trans rfl; have hfz10_0 := blk_frozen BK164.out 0; have hfz10_1 := blk_frozen BK164.out 1))
  (try simp only [Act.put, List.setIfInBounds_toArray, List.set_cons_zero, List.set_cons_succ])
  go_cut [35] (fun v35 wc => ∃ (kq : Nat) (x35_3 : Bool), v35 = .bool x35_3 ∧ Aside0 (impl_ParseFigure.j0 kq a0 t160 x35_3 ((rdOf ByteArray.empty t160 0).size : Int) (wrap64 ((t160.length : Int) / 2)) = some (r1, r2, r3, r4, r5)) ∧ Aside0 (kq ≤ k) ∧ Aside0 (Kd.R Kd.string 9 wc w.heap.size (fun _ => True) (.slice (some ad163) t160.length co7) t160) ∧ Aside0 (wc.heap[gb159]? = some (.cells #[.int .i64 0, .int .i64 0, (.slice none 0 0), (.slice none 0 0)] 36 (0, 0))) ∧ Aside0 (wc.heap[gb164]? = some (.cells #[.int .i64 ((rdOf ByteArray.empty t160 0).size : Int), .int .i64 (wrap64 ((t160.length : Int) / 2))] 75 (0, 0))) ∧ Aside0 (Below w.heap.size w wc))
  case first =>
   have H := HC4.out
   clear HC4
   replace H := Option.bind_eq_some_iff.mp H
   obtain ⟨t165, A110, H⟩ := H
   replace H : (if t165 = true then (impl_ParseFigure.j0 k a0 t160 ((t160.length : Int) != (wrap64 ((wrap64 (2 * (wrap64 ((t160.length : Int) / 2)))) + 1))) ((rdOf ByteArray.empty t160 0).size : Int) (wrap64 ((t160.length : Int) / 2))) else (impl_ParseFigure.j0 k a0 t160 true ((rdOf ByteArray.empty t160 0).size : Int) (wrap64 ((t160.length : Int) / 2)))) = some (r1, r2, r3, r4, r5) := H
   have A11 := Aside0.mk A110
   clear A110
   by_cases c12 : t165 = true
   ·subst c12
    have H1 : (impl_ParseFigure.j0 k a0 t160 ((t160.length : Int) != (wrap64 ((wrap64 (2 * (wrap64 ((t160.length : Int) / 2)))) + 1))) ((rdOf ByteArray.empty t160 0).size : Int) (wrap64 ((t160.length : Int) / 2))) = some (r1, r2, r3, r4, r5) := by rw [if_pos rfl] at H; exact H
    clear H
    have H := H1
    clear H1
    have H' := Aside0.mk H
    clear H
    have hnb13 := NB164_159.out
    have hnc13 := NB159_164.out
    have hcz14_0 : w8.cell? ⟨gb164, 0, none⟩ = some (.int .i64 0) := (blk_cell BK164.out 0).trans rfl
    have hcz14_1 : w8.cell? ⟨gb164, 1, none⟩ = some (.int .i64 0) := (blk_cell BK164.out 1).trans rfl
    have hfz14_0 := blk_frozen BK164.out 0
    have hfz14_1 := blk_frozen BK164.out 1
    have hLL : ∀ (nd : Nat) (w' : World), w' = ((w8.setCell ⟨gb164, 0, none⟩ (.int .i64 ((rdOf ByteArray.empty t160 0).size : Int))).setCell ⟨gb164, 1, none⟩ (.int .i64 (wrap64 ((t160.length : Int) / 2)))).drewN nd → w'.cell? ⟨gb164, 1, none⟩ = some (.int .i64 (wrap64 ((t160.length : Int) / 2))) := by
     intro nd w' hw'
     rw [hw', World.cell?_drewN]
     have z : (w8.setCell ⟨gb164, 0, none⟩ (.int .i64 ((rdOf ByteArray.empty t160 0).size : Int))).cell? ⟨gb164, 1, none⟩ = some (.int .i64 0) := by
      rw [World.cell?_setCell_other]
      ·exact hcz14_1
      ·intro q; injection q with q1 q2; exact absurd q2 (by decide)
     exact World.cell?_setCell_same _ _ _ z
    have HLL := Aside0.mk hLL
    clear hLL
    go_wp2_with (first | ((with_reducible refine gate_callee (f := 53) rfl ?_); refine goesL_ (some 25) rfl rfl Tryd.func53 (by kernel_rfl) rfl #[.int .i64 ((rdOf ByteArray.empty t160 0).size : Int), .int .i64 (wrap64 ((t160.length : Int) / 2))] rfl ob_ ?_; (with_reducible refine (impl_isGrid.calls ((rdOf ByteArray.empty t160 0).size : Int) (wrap64 ((t160.length : Int) / 2)) true _ A11.out).mono ?_); rintro e w' ⟨rfl, ⟨nd, hw'⟩⟩; have hL := HLL.out nd w' hw'; have HW_ := Aside0.mk hw'; clear hw'; refine ⟨_, rfl, ?_⟩))
    go_meet
    case rel => (obtain ⟨hw'⟩ := HW_; subst hw'); exact ⟨_, (((t160.length : Int) != (wrap64 ((wrap64 (2 * (wrap64 ((t160.length : Int) / 2)))) + 1)))), rs_, H', ⟨by first | omega | exact Nat.le_refl _⟩, ⟨by (with_reducible repeat (first | apply Kd.R_alloc | apply Kd.R_drewN | apply Kd.R_drew)); exact Kd.R_mono (Kd.R_far (p := ⟨gb164, 1, none⟩) (Kd.R_far (p := ⟨gb164, 0, none⟩) (Kd.R_types HO162.out BK164.out (by decide)) (fun _ hk => hk.2) (.int .i64 ((rdOf ByteArray.empty t160 0).size : Int))) (fun _ hk => hk.2) (.int .i64 (wrap64 ((t160.length : Int) / 2)))) (fun _ hk => trivial)⟩, ⟨bf2_ NB159_164.out NB159_164.out BK159.out⟩, ⟨by (with_reducible repeat (first | refine blk_drewN ?_ _ | refine blk_drew ?_ | refine blk_alloc ?_ _)); refine blk_put (cs := #[.int .i64 ((rdOf ByteArray.empty t160 0).size : Int), .int .i64 0]) ?_ 1 _ rfl; (with_reducible repeat (first | refine blk_drewN ?_ _ | refine blk_drew ?_ | refine blk_alloc ?_ _)); refine blk_put (cs := #[.int .i64 0, .int .i64 0]) ?_ 0 _ rfl; (with_reducible repeat (first | refine blk_drewN ?_ _ | refine blk_drew ?_ | refine blk_alloc ?_ _)); exact BK164.out⟩, ⟨bl2_ HB.out GE159.out GE164.out⟩⟩
   ·replace c12 := Bool.eq_false_iff.mpr c12
    subst c12
    have H1 : (impl_ParseFigure.j0 k a0 t160 true ((rdOf ByteArray.empty t160 0).size : Int) (wrap64 ((t160.length : Int) / 2))) = some (r1, r2, r3, r4, r5) := by rw [if_neg (show ¬ (false = true) by decide)] at H; exact H
    clear H
    have H := H1
    clear H1
    have H' := Aside0.mk H
    clear H
    have hnb15 := NB164_159.out
    have hnc15 := NB159_164.out
    have hcz16_0 : w8.cell? ⟨gb164, 0, none⟩ = some (.int .i64 0) := (blk_cell BK164.out 0).trans rfl
    have hcz16_1 : w8.cell? ⟨gb164, 1, none⟩ = some (.int .i64 0) := (blk_cell BK164.out 1).trans rfl
    have hfz16_0 := blk_frozen BK164.out 0
    have hfz16_1 := blk_frozen BK164.out 1
    go_wp2_with (first | ((with_reducible refine gate_callee (f := 53) rfl ?_); refine goesL_ (some 25) rfl rfl Tryd.func53 (by kernel_rfl) rfl #[.int .i64 ((rdOf ByteArray.empty t160 0).size : Int), .int .i64 (wrap64 ((t160.length : Int) / 2))] rfl ob_ ?_; (with_reducible refine (impl_isGrid.calls ((rdOf ByteArray.empty t160 0).size : Int) (wrap64 ((t160.length : Int) / 2)) false _ A11.out).mono ?_); rintro e w' ⟨rfl, ⟨nd, rfl⟩⟩; refine ⟨_, rfl, ?_⟩))
    go_meet
    case rel => exact ⟨_, (true), rs_, H', ⟨by first | omega | exact Nat.le_refl _⟩, ⟨by (with_reducible repeat (first | apply Kd.R_alloc | apply Kd.R_drewN | apply Kd.R_drew)); exact Kd.R_mono (Kd.R_far (p := ⟨gb164, 1, none⟩) (Kd.R_far (p := ⟨gb164, 0, none⟩) (Kd.R_types HO162.out BK164.out (by decide)) (fun _ hk => hk.2) (.int .i64 ((rdOf ByteArray.empty t160 0).size : Int))) (fun _ hk => hk.2) (.int .i64 (wrap64 ((t160.length : Int) / 2)))) (fun _ hk => trivial)⟩, ⟨bf2_ NB159_164.out NB159_164.out BK159.out⟩, ⟨by (with_reducible repeat (first | refine blk_drewN ?_ _ | refine blk_drew ?_ | refine blk_alloc ?_ _)); refine blk_put (cs := #[.int .i64 ((rdOf ByteArray.empty t160 0).size : Int), .int .i64 0]) ?_ 1 _ rfl; (with_reducible repeat (first | refine blk_drewN ?_ _ | refine blk_drew ?_ | refine blk_alloc ?_ _)); refine blk_put (cs := #[.int .i64 0, .int .i64 0]) ?_ 0 _ rfl; (with_reducible repeat (first | refine blk_drewN ?_ _ | refine blk_drew ?_ | refine blk_alloc ?_ _)); exact BK164.out⟩, ⟨bl2_ HB.out GE159.out GE164.out⟩⟩
  case rest =>
   clear HC4
   try clear c1
   try clear p1
   try clear q1
   try clear hx1
   try clear qi1
   try clear c2
   try clear p2
   try clear c3
   try clear c3b0
   try clear c3b1
   try clear c5
   try clear p6
   try clear c9
   try clear c12
   try clear c13
   try clear c15
   try clear p16
   try clear q16
   try clear hx16
   try clear qi16
   try clear hcz10_0
   try clear hcz10_1
   try clear hcz14_0
   try clear hcz14_1
   try clear hcz16_0
   try clear hcz16_1
   try clear hfz10_0
   try clear hfz10_1
   try clear hfz14_0
   try clear hfz14_1
   try clear hfz16_0
   try clear hfz16_1
   try clear hx163_0
   try clear p163
   try clear q163
   obtain ⟨kq, x35_3, rfl, HA, HJ3, HO_4, BK159, BK164, HB⟩ := hcut
   cases kq with
   | zero => exact absurd HA.out (by simp [impl_ParseFigure.j0])
   | succ kj3 =>
    have H := HA.out
    clear HA
    simp only [impl_ParseFigure.j0] at H
    by_cases c17 : x35_3 = true
    ·subst c17
     have H1 : (some (0, 0, ([] : List Int), ([] : List Int), false)) = some (r1, r2, r3, r4, r5) := by rw [if_pos rfl] at H; exact H
     clear H
     have H := H1
     clear H1
     simp only [Option.some.injEq, Prod.mk.injEq] at H
     obtain ⟨rfl, rfl, rfl, rfl, rfl⟩ := H
     have hnb18 := NB159_164.out
     have hnc18 := NB164_159.out
     have hcz19_0 : wc.cell? ⟨gb159, 0, none⟩ = some (.int .i64 0) := (blk_cell BK159.out 0).trans rfl
     have hcz19_1 : wc.cell? ⟨gb159, 1, none⟩ = some (.int .i64 0) := (blk_cell BK159.out 1).trans rfl
     have hcz19_2 : wc.cell? ⟨gb159, 2, none⟩ = some (.slice none 0 0) := (blk_cell BK159.out 2).trans rfl
     have hcz19_3 : wc.cell? ⟨gb159, 3, none⟩ = some (.slice none 0 0) := (blk_cell BK159.out 3).trans rfl
     have hfz19_0 := blk_frozen BK159.out 0
     have hfz19_1 := blk_frozen BK159.out 1
     have hfz19_2 := blk_frozen BK159.out 2
     have hfz19_3 := blk_frozen BK159.out 3
     go_wp2
     refine bodyPost_ret (results_ct rfl _ _ gb159 36 #[.int .i64 0, .int .i64 0, .slice none 0 0, .slice none 0 0] (0, 0) _ rfl (by (with_reducible repeat (first | refine blk_drewN ?_ _ | refine blk_drew ?_ | refine blk_alloc ?_ _)); refine blk_put (cs := #[.int .i64 0, .int .i64 0, .slice none 0 0, .slice none 0 0]) ?_ 3 _ rfl; (with_reducible repeat (first | refine blk_drewN ?_ _ | refine blk_drew ?_ | refine blk_alloc ?_ _)); refine blk_put (cs := #[.int .i64 0, .int .i64 0, .slice none 0 0, .slice none 0 0]) ?_ 2 _ rfl; (with_reducible repeat (first | refine blk_drewN ?_ _ | refine blk_drew ?_ | refine blk_alloc ?_ _)); refine blk_put (cs := #[.int .i64 0, .int .i64 0, .slice none 0 0, .slice none 0 0]) ?_ 1 _ rfl; (with_reducible repeat (first | refine blk_drewN ?_ _ | refine blk_drew ?_ | refine blk_alloc ?_ _)); refine blk_put (cs := #[.int .i64 0, .int .i64 0, .slice none 0 0, .slice none 0 0]) ?_ 0 _ rfl; (with_reducible repeat (first | refine blk_drewN ?_ _ | refine blk_drew ?_ | refine blk_alloc ?_ _)); exact BK159.out) Tryd.underlying36 rfl (by kernel_rfl)) rfl ?_
     exact ⟨_, _, er_, by first | exact Kd.R_nil _ _ _ _ _ | exact Kd.N_nil _ _ _ _ _ | exact Kd.V_nil _ _ _ _ _ | exact Kd.Q_nil _ _ _ _ _ | exact Kd.S_nil _ _ _ _ _, by first | exact Kd.R_nil _ _ _ _ _ | exact Kd.N_nil _ _ _ _ _ | exact Kd.V_nil _ _ _ _ _ | exact Kd.Q_nil _ _ _ _ _ | exact Kd.S_nil _ _ _ _ _, bl2_ HB.out GE159.out GE164.out⟩
    ·replace c17 := Bool.eq_false_iff.mpr c17
     subst c17
     have H1 : (impl_ParseFigure.l0 kj3 a0 0 t160 (t160.length : Int) 0 ((rdOf ByteArray.empty t160 0).size : Int) (wrap64 ((t160.length : Int) / 2))) = some (r1, r2, r3, r4, r5) := by rw [if_neg (show ¬ (false = true) by decide)] at H; exact H
     clear H
     have H := H1
     clear H1
     have H' := Aside0.mk H
     clear H
     go_wp2
     go_loopg [6, 39] kj3 (fun kq v6 v39 w' => ∃ (x6_2 : Int) (x39_2 : Int) (x160000_2 : Int) (x160001_2 : Int), v6 = .int .u64 x6_2 ∧ v39 = .int .i64 x39_2 ∧ Aside0 (impl_ParseFigure.l0 kq a0 x6_2 t160 (t160.length : Int) x39_2 ((rdOf ByteArray.empty t160 0).size : Int) (wrap64 ((t160.length : Int) / 2)) = some (r1, r2, r3, r4, r5)) ∧ Aside0 (kq ≤ kj3) ∧ Aside0 (Kd.R Kd.string 9 w' w.heap.size (fun _ => True) (.slice (some ad163) t160.length co7) t160) ∧ Aside0 (w'.heap[gb159]? = some (.cells #[.int .i64 x160000_2, .int .i64 x160001_2, (.slice none 0 0), (.slice none 0 0)] 36 (0, 0))) ∧ Aside0 (w'.heap[gb164]? = some (.cells #[.int .i64 ((rdOf ByteArray.empty t160 0).size : Int), .int .i64 (wrap64 ((t160.length : Int) / 2))] 75 (0, 0))) ∧ Aside0 (Below w.heap.size w w'))
     case atStart => exact ⟨(0), (0), (0), (0), rs_, rs_, H', ⟨Nat.le_refl _⟩, ⟨kr_ HO_4.out⟩, ⟨bk_ BK159.out⟩, ⟨bk_ BK164.out⟩, ⟨bl2_ HB.out GE159.out GE164.out⟩⟩
     case round =>
      clear H'
      try clear c1
      try clear p1
      try clear q1
      try clear hx1
      try clear qi1
      try clear c2
      try clear p2
      try clear c3
      try clear c3b0
      try clear c3b1
      try clear c5
      try clear p6
      try clear c9
      try clear c12
      try clear c13
      try clear c15
      try clear p16
      try clear q16
      try clear hx16
      try clear qi16
      try clear c17
      try clear c18
      try clear hcz10_0
      try clear hcz10_1
      try clear hcz14_0
      try clear hcz14_1
      try clear hcz16_0
      try clear hcz16_1
      try clear hcz19_0
      try clear hcz19_1
      try clear hcz19_2
      try clear hcz19_3
      try clear hfz10_0
      try clear hfz10_1
      try clear hfz14_0
      try clear hfz14_1
      try clear hfz16_0
      try clear hfz16_1
      try clear hfz19_0
      try clear hfz19_1
      try clear hfz19_2
      try clear hfz19_3
      try clear hx163_0
      try clear p1
      try clear p16
      try clear p163
      try clear p2
      try clear p6
      try clear q1
      try clear q16
      try clear q163
      obtain ⟨x6_2, x39_2, x160000_2, x160001_2, rfl, rfl, HA, HK2, HO_37, BK159, BK164, HB⟩ := hrel
      cases gk with
      | zero => exact absurd HA.out (by simp [impl_ParseFigure.l0])
      | succ k2 =>
       have H := HA.out
       clear HA
       simp only [impl_ParseFigure.l0] at H
       by_cases c20 : x39_2 < (t160.length : Int)
       ·rw [if_pos c20] at H
        have c20b0 : decide (x39_2 < (t160.length : Int)) = true := decide_eq_true c20
        clear c20
        by_cases c21 : 0 ≤ x39_2
        ·rw [if_pos c21] at H
         have c21b0 : decide (0 ≤ x39_2) = true := decide_eq_true c21
         clear c21
         by_cases c22 : x39_2 < (t160.length : Int)
         ·rw [if_pos c22] at H
          have c22b0 : decide (x39_2 < (t160.length : Int)) = true := decide_eq_true c22
          clear c22
          by_cases c23 : ((rdOf ByteArray.empty t160 x39_2).size : Int) = (wrap64 (((rdOf ByteArray.empty t160 0).size : Int) + (Int.tmod x39_2 2)))
          ·rw [if_pos c23] at H
           have c23b0 : (((rdOf ByteArray.empty t160 x39_2).size : Int) == (wrap64 (((rdOf ByteArray.empty t160 0).size : Int) + (Int.tmod x39_2 2)))) = true := beq_iff_eq.mpr c23
           have c23b1 : (((rdOf ByteArray.empty t160 x39_2).size : Int) != (wrap64 (((rdOf ByteArray.empty t160 0).size : Int) + (Int.tmod x39_2 2)))) = false := bne_eq_false_iff_eq.mpr c23
           clear c23
           have H' := Aside0.mk H
           clear H
           have p166 : 0 ≤ (x39_2 : Int) := of_decide_eq_true as_
           have q166 : x39_2 < (t160.length : Int) := of_decide_eq_true as_
           obtain ⟨ad166, e166, hx166_0⟩ := Kd.at_string (Kd.R_reads' HO_37.out).2.2 x39_2 p166 q166
           obtain rfl : ad163 = ad166 := (by injection e166)
           replace p166 := eq_true p166
           replace q166 := eq_true q166
           have hnb24 := NB164_159.out
           have hnc24 := NB159_164.out
           have hcz25_0 : wr.cell? ⟨gb164, 0, none⟩ = some (.int .i64 ((rdOf ByteArray.empty t160 0).size : Int)) := (blk_cell BK164.out 0).trans rfl
           have hcz25_1 : wr.cell? ⟨gb164, 1, none⟩ = some (.int .i64 (wrap64 ((t160.length : Int) / 2))) := (blk_cell BK164.out 1).trans rfl
           have hfz25_0 := blk_frozen BK164.out 0
           have hfz25_1 := blk_frozen BK164.out 1
           go_wp2
           go_loopg [6, 55] k2 (fun kq v6 v55 w' => ∃ (x6_3 : Int) (x55_3 : Int), v6 = .int .u64 x6_3 ∧ v55 = .int .i64 x55_3 ∧ Aside0 (impl_ParseFigure.l1 kq a0 x6_3 x39_2 (rdOf ByteArray.empty t160 x39_2) t160 (t160.length : Int) x39_2 ((rdOf ByteArray.empty t160 x39_2).size : Int) x55_3 ((rdOf ByteArray.empty t160 0).size : Int) (wrap64 ((t160.length : Int) / 2)) = some (r1, r2, r3, r4, r5)) ∧ Aside0 (kq ≤ k2) ∧ Aside0 (Kd.R Kd.string 9 w' w.heap.size (fun _ => True) (.slice (some ad163) t160.length co7) t160) ∧ Aside0 (w'.heap[gb159]? = some (.cells #[.int .i64 x160000_2, .int .i64 x160001_2, (.slice none 0 0), (.slice none 0 0)] 36 (0, 0))) ∧ Aside0 (w'.heap[gb164]? = some (.cells #[.int .i64 ((rdOf ByteArray.empty t160 0).size : Int), .int .i64 (wrap64 ((t160.length : Int) / 2))] 75 (0, 0))) ∧ Aside0 (Below w.heap.size w w'))
           case atStart => exact ⟨(x6_2), (0), rs_, rs_, H', ⟨Nat.le_refl _⟩, ⟨kr_ HO_37.out⟩, ⟨bk_ BK159.out⟩, ⟨bk_ BK164.out⟩, ⟨bl2_ HB.out GE159.out GE164.out⟩⟩
           case round =>
            clear H'
            try clear c1
            try clear p1
            try clear q1
            try clear hx1
            try clear qi1
            try clear c2
            try clear p2
            try clear c3
            try clear c3b0
            try clear c3b1
            try clear c5
            try clear p6
            try clear c9
            try clear c12
            try clear c13
            try clear c15
            try clear p16
            try clear q16
            try clear hx16
            try clear qi16
            try clear c17
            try clear c18
            try clear c20
            try clear c20b0
            try clear c21
            try clear c21b0
            try clear c22
            try clear c22b0
            try clear c23
            try clear c23b0
            try clear c23b1
            try clear c24
            try clear hcz10_0
            try clear hcz10_1
            try clear hcz14_0
            try clear hcz14_1
            try clear hcz16_0
            try clear hcz16_1
            try clear hcz19_0
            try clear hcz19_1
            try clear hcz19_2
            try clear hcz19_3
            try clear hcz25_0
            try clear hcz25_1
            try clear hfz10_0
            try clear hfz10_1
            try clear hfz14_0
            try clear hfz14_1
            try clear hfz16_0
            try clear hfz16_1
            try clear hfz19_0
            try clear hfz19_1
            try clear hfz19_2
            try clear hfz19_3
            try clear hfz25_0
            try clear hfz25_1
            try clear hx163_0
            try clear hx166_0
            try clear p1
            try clear p16
            try clear p163
            try clear p166
            try clear p2
            try clear p6
            try clear q1
            try clear q16
            try clear q163
            try clear q166
            obtain ⟨x6_3, x55_3, rfl, rfl, HA, HK3, HO_37, BK159, BK164, HB⟩ := hrel
            cases gk with
            | zero => exact absurd HA.out (by simp [impl_ParseFigure.l1])
            | succ k3 =>
             have H := HA.out
             clear HA
             simp only [impl_ParseFigure.l1] at H
             by_cases c26 : x55_3 < ((rdOf ByteArray.empty t160 x39_2).size : Int)
             ·rw [if_pos c26] at H
              have c26b0 : decide (x55_3 < ((rdOf ByteArray.empty t160 x39_2).size : Int)) = true := decide_eq_true c26
              clear c26
              by_cases c27 : 0 ≤ x55_3
              ·rw [if_pos c27] at H
               have c27b0 : decide (0 ≤ x55_3) = true := decide_eq_true c27
               clear c27
               by_cases c28 : x55_3 < ((rdOf ByteArray.empty t160 x39_2).size : Int)
               ·rw [if_pos c28] at H
                have c28b0 : decide (x55_3 < ((rdOf ByteArray.empty t160 x39_2).size : Int)) = true := decide_eq_true c28
                clear c28
                by_cases c30 : (bt (rdOf ByteArray.empty t160 x39_2) x55_3) = 46
                ·rw [if_pos c30] at H
                 have c30b0 : ((bt (rdOf ByteArray.empty t160 x39_2) x55_3) == 46) = true := beq_iff_eq.mpr c30
                 have c30b1 : ((bt (rdOf ByteArray.empty t160 x39_2) x55_3) != 46) = false := bne_eq_false_iff_eq.mpr c30
                 clear c30
                 have H' := Aside0.mk H
                 clear H
                 have p29 : 0 ≤ (x55_3 : Int) := of_decide_eq_true as_
                 have q29 : x55_3 < ((rdOf ByteArray.empty t160 x39_2).size : Int) := of_decide_eq_true as_
                 have hx29 := bt_at (rdOf ByteArray.empty t160 x39_2) x55_3
                 replace p29 := eq_true p29
                 replace q29 := eq_true q29
                 go_wp2
                 go_roundg k3
                 case measure => have := HJ3.out; have := HK2.out; have := HK3.out; omega
                 case rel => exact ⟨(x6_3), (wrap64 (x55_3 + 1)), rs_, rs_, H', ⟨by have := HJ3.out; have := HK2.out; have := HK3.out; omega⟩, ⟨kr_ HO_37.out⟩, ⟨bk_ BK159.out⟩, ⟨bk_ BK164.out⟩, ⟨bl2_ HB.out GE159.out GE164.out⟩⟩
                ·rw [if_neg c30] at H
                 have c30b0 : ((bt (rdOf ByteArray.empty t160 x39_2) x55_3) == 46) = false := beq_eq_false_iff_ne.mpr c30
                 have c30b1 : ((bt (rdOf ByteArray.empty t160 x39_2) x55_3) != 46) = true := bne_iff_ne.mpr c30
                 by_cases c31 : (Int.tmod x39_2 2) = 0
                 ·rw [if_pos c31] at H
                  have c31b0 : ((Int.tmod x39_2 2) == 0) = true := beq_iff_eq.mpr c31
                  have c31b1 : ((Int.tmod x39_2 2) != 0) = false := bne_eq_false_iff_eq.mpr c31
                  clear c31
                  replace H := Option.bind_eq_some_iff.mp H
                  obtain ⟨t167, A320, H⟩ := H
                  replace H : (impl_ParseFigure.l1 k3 a0 (Go.bits .or .u64 x6_3 t167) x39_2 (rdOf ByteArray.empty t160 x39_2) t160 (t160.length : Int) x39_2 ((rdOf ByteArray.empty t160 x39_2).size : Int) (wrap64 (x55_3 + 1)) ((rdOf ByteArray.empty t160 0).size : Int) (wrap64 ((t160.length : Int) / 2))) = some (r1, r2, r3, r4, r5) := H
                  have A32 := Aside0.mk A320
                  clear A320
                  have H' := Aside0.mk H
                  clear H
                  have p29 : 0 ≤ (x55_3 : Int) := of_decide_eq_true as_
                  have q29 : x55_3 < ((rdOf ByteArray.empty t160 x39_2).size : Int) := of_decide_eq_true as_
                  have hx29 := bt_at (rdOf ByteArray.empty t160 x39_2) x55_3
                  replace p29 := eq_true p29
                  replace q29 := eq_true q29
                  have hnb33 := NB164_159.out
                  have hnc33 := NB159_164.out
                  have hcz34_0 : wr.cell? ⟨gb164, 0, none⟩ = some (.int .i64 ((rdOf ByteArray.empty t160 0).size : Int)) := (blk_cell BK164.out 0).trans rfl
                  have hcz34_1 : wr.cell? ⟨gb164, 1, none⟩ = some (.int .i64 (wrap64 ((t160.length : Int) / 2))) := (blk_cell BK164.out 1).trans rfl
                  have hfz34_0 := blk_frozen BK164.out 0
                  have hfz34_1 := blk_frozen BK164.out 1
                  go_wp2_with (first | ((with_reducible refine gate_callee (f := 54) rfl ?_); refine goesL_ (some 79) rfl rfl Tryd.func54 (by kernel_rfl) rfl #[.agg #[.int .i64 ((rdOf ByteArray.empty t160 0).size : Int), .int .i64 (wrap64 ((t160.length : Int) / 2))], .int .i64 x55_3, .int .i64 (wrap64 (Int.tdiv x39_2 2))] rfl ob_ ?_; (with_reducible refine (impl_grid_level.calls ((rdOf ByteArray.empty t160 0).size : Int) (wrap64 ((t160.length : Int) / 2)) x55_3 (wrap64 (Int.tdiv x39_2 2)) t167 _ A32.out).mono ?_); rintro e w35 ⟨rfl, hb⟩; refine ⟨_, rfl, ?_⟩; have n0_ := Aside0.mk (Kd.R_below (kr_ HO_37.out) hb); have n1_ := Aside0.mk (bb_ BK159.out hb); have n2_ := Aside0.mk (bb_ BK164.out hb); have n3_ := Aside0.mk (below_step (bl2_ HB.out GE159.out GE164.out) hb); clear HO_37; clear BK159; clear BK164; clear HB; have HO_37 := n0_; have BK159 := n1_; have BK164 := n2_; have HB := n3_; clear n0_ n1_ n2_ n3_; (try clear hb); (try clear hb2); (try clear hk); (try clear hi)))
                  go_roundg k3
                  case measure => have := HJ3.out; have := HK2.out; have := HK3.out; omega
                  case rel => exact ⟨(Go.bits .or .u64 x6_3 t167), (wrap64 (x55_3 + 1)), rs_, rs_, H', ⟨by have := HJ3.out; have := HK2.out; have := HK3.out; omega⟩, ⟨kr_ HO_37.out⟩, ⟨bk_ BK159.out⟩, ⟨bk_ BK164.out⟩, ⟨bl2_ HB.out GE159.out GE164.out⟩⟩
                 ·rw [if_neg c31] at H
                  have c31b0 : ((Int.tmod x39_2 2) == 0) = false := beq_eq_false_iff_ne.mpr c31
                  have c31b1 : ((Int.tmod x39_2 2) != 0) = true := bne_iff_ne.mpr c31
                  replace H := Option.bind_eq_some_iff.mp H
                  obtain ⟨t168, A360, H⟩ := H
                  replace H : (impl_ParseFigure.l1 k3 a0 (Go.bits .or .u64 x6_3 t168) x39_2 (rdOf ByteArray.empty t160 x39_2) t160 (t160.length : Int) x39_2 ((rdOf ByteArray.empty t160 x39_2).size : Int) (wrap64 (x55_3 + 1)) ((rdOf ByteArray.empty t160 0).size : Int) (wrap64 ((t160.length : Int) / 2))) = some (r1, r2, r3, r4, r5) := H
                  have A36 := Aside0.mk A360
                  clear A360
                  have H' := Aside0.mk H
                  clear H
                  have p29 : 0 ≤ (x55_3 : Int) := of_decide_eq_true as_
                  have q29 : x55_3 < ((rdOf ByteArray.empty t160 x39_2).size : Int) := of_decide_eq_true as_
                  have hx29 := bt_at (rdOf ByteArray.empty t160 x39_2) x55_3
                  replace p29 := eq_true p29
                  replace q29 := eq_true q29
                  have hnb37 := NB164_159.out
                  have hnc37 := NB159_164.out
                  have hcz38_0 : wr.cell? ⟨gb164, 0, none⟩ = some (.int .i64 ((rdOf ByteArray.empty t160 0).size : Int)) := (blk_cell BK164.out 0).trans rfl
                  have hcz38_1 : wr.cell? ⟨gb164, 1, none⟩ = some (.int .i64 (wrap64 ((t160.length : Int) / 2))) := (blk_cell BK164.out 1).trans rfl
                  have hfz38_0 := blk_frozen BK164.out 0
                  have hfz38_1 := blk_frozen BK164.out 1
                  go_wp2_with (first | ((with_reducible refine gate_callee (f := 55) rfl ?_); refine goesL_ (some 63) rfl rfl Tryd.func55 (by kernel_rfl) rfl #[.agg #[.int .i64 ((rdOf ByteArray.empty t160 0).size : Int), .int .i64 (wrap64 ((t160.length : Int) / 2))], .int .i64 x55_3, .int .i64 (wrap64 (Int.tdiv x39_2 2))] rfl ob_ ?_; (with_reducible refine (impl_grid_upright.calls ((rdOf ByteArray.empty t160 0).size : Int) (wrap64 ((t160.length : Int) / 2)) x55_3 (wrap64 (Int.tdiv x39_2 2)) t168 _ A36.out).mono ?_); rintro e w39 ⟨rfl, hb⟩; refine ⟨_, rfl, ?_⟩; have n0_ := Aside0.mk (Kd.R_below (kr_ HO_37.out) hb); have n1_ := Aside0.mk (bb_ BK159.out hb); have n2_ := Aside0.mk (bb_ BK164.out hb); have n3_ := Aside0.mk (below_step (bl2_ HB.out GE159.out GE164.out) hb); clear HO_37; clear BK159; clear BK164; clear HB; have HO_37 := n0_; have BK159 := n1_; have BK164 := n2_; have HB := n3_; clear n0_ n1_ n2_ n3_; (try clear hb); (try clear hb2); (try clear hk); (try clear hi)))
                  go_roundg k3
                  case measure => have := HJ3.out; have := HK2.out; have := HK3.out; omega
                  case rel => exact ⟨(Go.bits .or .u64 x6_3 t168), (wrap64 (x55_3 + 1)), rs_, rs_, H', ⟨by have := HJ3.out; have := HK2.out; have := HK3.out; omega⟩, ⟨kr_ HO_37.out⟩, ⟨bk_ BK159.out⟩, ⟨bk_ BK164.out⟩, ⟨bl2_ HB.out GE159.out GE164.out⟩⟩
               ·rw [if_neg c28] at H
                exact absurd H (by simp)
              ·rw [if_neg c27] at H
               exact absurd H (by simp)
             ·rw [if_neg c26] at H
              have c26b0 : decide (x55_3 < ((rdOf ByteArray.empty t160 x39_2).size : Int)) = false := decide_eq_false c26
              clear c26
              have H' := Aside0.mk H
              clear H
              go_wp2
              go_roundg k3
              case measure => have := HJ3.out; have := HK2.out; have := HK3.out; omega
              case rel => exact ⟨(x6_3), (wrap64 (x39_2 + 1)), (x160000_2), (x160001_2), rs_, rs_, H', ⟨by have := HJ3.out; have := HK2.out; have := HK3.out; omega⟩, ⟨kr_ HO_37.out⟩, ⟨bk_ BK159.out⟩, ⟨bk_ BK164.out⟩, ⟨bl2_ HB.out GE159.out GE164.out⟩⟩
          ·rw [if_neg c23] at H
           have c23b0 : (((rdOf ByteArray.empty t160 x39_2).size : Int) == (wrap64 (((rdOf ByteArray.empty t160 0).size : Int) + (Int.tmod x39_2 2)))) = false := beq_eq_false_iff_ne.mpr c23
           have c23b1 : (((rdOf ByteArray.empty t160 x39_2).size : Int) != (wrap64 (((rdOf ByteArray.empty t160 0).size : Int) + (Int.tmod x39_2 2)))) = true := bne_iff_ne.mpr c23
           simp only [Option.some.injEq, Prod.mk.injEq] at H
           obtain ⟨rfl, rfl, rfl, rfl, rfl⟩ := H
           have p166 : 0 ≤ (x39_2 : Int) := of_decide_eq_true as_
           have q166 : x39_2 < (t160.length : Int) := of_decide_eq_true as_
           obtain ⟨ad166, e166, hx166_0⟩ := Kd.at_string (Kd.R_reads' HO_37.out).2.2 x39_2 p166 q166
           obtain rfl : ad163 = ad166 := (by injection e166)
           replace p166 := eq_true p166
           replace q166 := eq_true q166
           have hnb40 := NB164_159.out
           have hnc40 := NB159_164.out
           have hcz41_0 : wr.cell? ⟨gb164, 0, none⟩ = some (.int .i64 ((rdOf ByteArray.empty t160 0).size : Int)) := (blk_cell BK164.out 0).trans rfl
           have hcz41_1 : wr.cell? ⟨gb164, 1, none⟩ = some (.int .i64 (wrap64 ((t160.length : Int) / 2))) := (blk_cell BK164.out 1).trans rfl
           have hfz41_0 := blk_frozen BK164.out 0
           have hfz41_1 := blk_frozen BK164.out 1
           have hcz42_0 : wr.cell? ⟨gb159, 0, none⟩ = some (.int .i64 x160000_2) := (blk_cell BK159.out 0).trans rfl
           have hcz42_1 : wr.cell? ⟨gb159, 1, none⟩ = some (.int .i64 x160001_2) := (blk_cell BK159.out 1).trans rfl
           have hcz42_2 : wr.cell? ⟨gb159, 2, none⟩ = some (.slice none 0 0) := (blk_cell BK159.out 2).trans rfl
           have hcz42_3 : wr.cell? ⟨gb159, 3, none⟩ = some (.slice none 0 0) := (blk_cell BK159.out 3).trans rfl
           have hfz42_0 := blk_frozen BK159.out 0
           have hfz42_1 := blk_frozen BK159.out 1
           have hfz42_2 := blk_frozen BK159.out 2
           have hfz42_3 := blk_frozen BK159.out 3
           go_wp2
           refine bodyPost_ret (results_ct rfl _ _ gb159 36 #[.int .i64 0, .int .i64 0, .slice none 0 0, .slice none 0 0] (0, 0) _ rfl (by (with_reducible repeat (first | refine blk_drewN ?_ _ | refine blk_drew ?_ | refine blk_alloc ?_ _)); refine blk_put (cs := #[.int .i64 0, .int .i64 0, .slice none 0 0, .slice none 0 0]) ?_ 3 _ rfl; (with_reducible repeat (first | refine blk_drewN ?_ _ | refine blk_drew ?_ | refine blk_alloc ?_ _)); refine blk_put (cs := #[.int .i64 0, .int .i64 0, .slice none 0 0, .slice none 0 0]) ?_ 2 _ rfl; (with_reducible repeat (first | refine blk_drewN ?_ _ | refine blk_drew ?_ | refine blk_alloc ?_ _)); refine blk_put (cs := #[.int .i64 0, .int .i64 x160001_2, .slice none 0 0, .slice none 0 0]) ?_ 1 _ rfl; (with_reducible repeat (first | refine blk_drewN ?_ _ | refine blk_drew ?_ | refine blk_alloc ?_ _)); refine blk_put (cs := #[.int .i64 x160000_2, .int .i64 x160001_2, .slice none 0 0, .slice none 0 0]) ?_ 0 _ rfl; (with_reducible repeat (first | refine blk_drewN ?_ _ | refine blk_drew ?_ | refine blk_alloc ?_ _)); exact BK159.out) Tryd.underlying36 rfl (by kernel_rfl)) rfl ?_
           exact ⟨_, _, er_, by first | exact Kd.R_nil _ _ _ _ _ | exact Kd.N_nil _ _ _ _ _ | exact Kd.V_nil _ _ _ _ _ | exact Kd.Q_nil _ _ _ _ _ | exact Kd.S_nil _ _ _ _ _, by first | exact Kd.R_nil _ _ _ _ _ | exact Kd.N_nil _ _ _ _ _ | exact Kd.V_nil _ _ _ _ _ | exact Kd.Q_nil _ _ _ _ _ | exact Kd.S_nil _ _ _ _ _, bl2_ HB.out GE159.out GE164.out⟩
         ·rw [if_neg c22] at H
          exact absurd H (by simp)
        ·rw [if_neg c21] at H
         exact absurd H (by simp)
       ·rw [if_neg c20] at H
        have c20b0 : decide (x39_2 < (t160.length : Int)) = false := decide_eq_false c20
        clear c20
        replace H := Option.bind_eq_some_iff.mp H
        obtain ⟨⟨t169, t170, t171, t174⟩, A430, H⟩ := H
        replace H : ((impl_figureText.f k2 t169 t170 t171 t174).bind fun t178 => (if t178.toList = a0.toList then (some (t169, t170, t171, t174, true)) else (some (0, 0, ([] : List Int), ([] : List Int), false)))) = some (r1, r2, r3, r4, r5) := H
        have A43 := Aside0.mk A430
        clear A430
        replace H := Option.bind_eq_some_iff.mp H
        obtain ⟨t178, A440, H⟩ := H
        replace H : (if t178.toList = a0.toList then (some (t169, t170, t171, t174, true)) else (some (0, 0, ([] : List Int), ([] : List Int), false))) = some (r1, r2, r3, r4, r5) := H
        have A44 := Aside0.mk A440
        clear A440
        by_cases c45 : t178.toList = a0.toList
        ·rw [if_pos c45] at H
         have c45b0 : (t178.toList == a0.toList) = true := beq_iff_eq.mpr c45
         have c45b1 : (t178.toList != a0.toList) = false := bne_eq_false_iff_eq.mpr c45
         clear c45
         simp only [Option.some.injEq, Prod.mk.injEq] at H
         obtain ⟨rfl, rfl, rfl, rfl, rfl⟩ := H
         have hnb46 := NB164_159.out
         have hnc46 := NB159_164.out
         have hcz47_0 : wr.cell? ⟨gb164, 0, none⟩ = some (.int .i64 ((rdOf ByteArray.empty t160 0).size : Int)) := (blk_cell BK164.out 0).trans rfl
         have hcz47_1 : wr.cell? ⟨gb164, 1, none⟩ = some (.int .i64 (wrap64 ((t160.length : Int) / 2))) := (blk_cell BK164.out 1).trans rfl
         have hfz47_0 := blk_frozen BK164.out 0
         have hfz47_1 := blk_frozen BK164.out 1
         go_wp2_with (first | ((with_reducible refine gate_callee (f := 56) rfl ?_); refine goesL_ (some 85) rfl rfl Tryd.func56 (by kernel_rfl) rfl #[.agg #[.int .i64 ((rdOf ByteArray.empty t160 0).size : Int), .int .i64 (wrap64 ((t160.length : Int) / 2))], .int .u64 x6_2] rfl ob_ ?_; (with_reducible refine (impl_grid_figure.calls ((rdOf ByteArray.empty t160 0).size : Int) (wrap64 ((t160.length : Int) / 2)) x6_2 t169 t170 t171 t174 _ (TB.below HTB.out (bl2_ HB.out GE159.out GE164.out)) A43.out).mono ?_); rintro e w48 ⟨v172, v175, rfl, ho0, ho1, hb⟩; refine ⟨_, rfl, ?_⟩; have n0_ := Aside0.mk (Kd.R_below (kr_ HO_37.out) hb); have n1_ := Aside0.mk (Kd.R_lower ho0 (below_size (bl2_ HB.out GE159.out GE164.out))); have n2_ := Aside0.mk (Kd.R_lower ho1 (below_size (bl2_ HB.out GE159.out GE164.out))); have n3_ := Aside0.mk (bb_ BK159.out hb); have n4_ := Aside0.mk (bb_ BK164.out hb); have n5_ := Aside0.mk (below_step (bl2_ HB.out GE159.out GE164.out) hb); clear HO_37; clear BK159; clear BK164; clear HB; have HO_37 := n0_; have HO173 := n1_; have HO176 := n2_; have BK159 := n3_; have BK164 := n4_; have HB := n5_; clear n0_ n1_ n2_ n3_ n4_ n5_; (try clear hb); (try clear hb2); (try clear hk); (try clear hi); (try clear ho0); (try clear ho1)) | ((with_reducible refine gate_dst (N := 10) rfl ?_); (try (refine gate_guard (by rfl) ?_; dsimp only)); refine boxE_ (N := 10) (cs := #[.int .i64 0, .int .i64 0, .slice none 0 0, .slice none 0 0]) (t := 36) ?_; intro gb177 hg w49 hbox hb; have n0_ := Aside0.mk (Kd.R_below (kr_ HO_37.out) hb); have n1_ := Aside0.mk (Kd.R_below (kr_ HO173.out) hb); have n2_ := Aside0.mk (Kd.R_below (kr_ HO176.out) hb); have n3_ := Aside0.mk (bb_ BK159.out hb); have n4_ := Aside0.mk (bb_ BK164.out hb); have n5_ := Aside0.mk (below_step (bl2_ HB.out GE159.out GE164.out) hb); have n6_ := Aside0.mk (hbox); have n7_ := Aside0.mk ((bs2_ hg HB.out GE159.out GE164.out : w.heap.size ≤ gb177)); have n8_ := Aside0.mk ((bs2_ hg HB.out GE159.out GE164.out : w.heap.size ≤ gb177)); have n9_ := Aside0.mk ((nl_ hg BK159.out : gb159 ≠ gb177)); have n10_ := Aside0.mk ((ng_ hg BK159.out : gb177 ≠ gb159)); have n11_ := Aside0.mk ((nl_ hg BK164.out : gb164 ≠ gb177)); have n12_ := Aside0.mk ((ng_ hg BK164.out : gb177 ≠ gb164)); clear HO_37; clear HO173; clear HO176; clear BK159; clear BK164; clear HB; have HO_37 := n0_; have HO173 := n1_; have HO176 := n2_; have BK159 := n3_; have BK164 := n4_; have HB := n5_; have BK177 := n6_; have GW177 := n7_; have GE177 := n8_; have NB159_177 := n9_; have NB177_159 := n10_; have NB164_177 := n11_; have NB177_164 := n12_; clear n0_ n1_ n2_ n3_ n4_ n5_ n6_ n7_ n8_ n9_ n10_ n11_ n12_; clear hb hbox hg; have hnb50 := NB177_159.out; have hnc50 := NB159_177.out; have hnb51 := NB177_164.out; have hnc51 := NB164_177.out; have hcz52_0 : w49.cell? ⟨gb177, 0, none⟩ = some (.int .i64 0) := (blk_cell BK177.out 0).trans rfl; have hcz52_1 : w49.cell? ⟨gb177, 1, none⟩ = some (.int .i64 0) := (blk_cell BK177.out 1).trans rfl; have hcz52_2 : w49.cell? ⟨gb177, 2, none⟩ = some (.slice none 0 0) := (blk_cell BK177.out 2).trans rfl; have hcz52_3 : w49.cell? ⟨gb177, 3, none⟩ = some (.slice none 0 0) := (blk_cell BK177.out 3).trans rfl; have hfz52_0 := blk_frozen BK177.out 0; have hfz52_1 := blk_frozen BK177.out 1; have hfz52_2 := blk_frozen BK177.out 2; have hfz52_3 := blk_frozen BK177.out 3; obtain ⟨Ao53, co53, eo53⟩ := Kd.R_slice HO173.out; subst eo53; obtain ⟨Ao54, co54, eo54⟩ := Kd.R_slice HO176.out; subst eo54) | ((with_reducible refine gate_callee (f := 57) rfl ?_); refine goesL_ (some 87) rfl rfl Tryd.func57 (by kernel_rfl) rfl #[.agg #[.int .i64 t169, .int .i64 t170, .slice Ao53 t171.length co53, .slice Ao54 t174.length co54]] rfl ob_ ?_; (with_reducible refine (impl_figureText.calls k2 t169 t170 _ _ t171 _ _ t174 t178 _ ?side1 ?side2 ?side3 ?side4 A44.out).mono ?_); (case side1 => refine (Kd.R_reads' (e := 3) (base := w.heap.size) (ok := fun k_ => some k_ ≠ (.slice Ao54 t174.length co54 : Value).ownBlock) (n := t171.length) (c := co53) ?_).2.2; exact (by (with_reducible repeat (first | apply Kd.R_alloc | apply Kd.R_drewN | apply Kd.R_drew)); exact (Kd.R_mono (Kd.R_far (p := ⟨gb177, 3, none⟩) (Kd.R_far (p := ⟨gb177, 2, none⟩) (Kd.R_far (p := ⟨gb177, 1, none⟩) (Kd.R_far (p := ⟨gb177, 0, none⟩) (Kd.R_types HO173.out BK177.out (by decide)) (fun _ hk => hk.2) (.int .i64 t169)) (fun _ hk => hk.2) (.int .i64 t170)) (fun _ hk => hk.2) (.slice Ao53 t171.length co53)) (fun _ hk => hk.2) (.slice Ao54 t174.length co54)) (fun _ h_ => h_.1)))); (case side2 => exact (Kd.R_reads' HO173.out).2.1); (case side3 => refine (Kd.R_reads' (e := 3) (base := w.heap.size) (ok := fun k_ => some k_ ≠ (.slice Ao53 t171.length co53 : Value).ownBlock) (n := t174.length) (c := co54) ?_).2.2; exact (by (with_reducible repeat (first | apply Kd.R_alloc | apply Kd.R_drewN | apply Kd.R_drew)); exact (Kd.R_mono (Kd.R_far (p := ⟨gb177, 3, none⟩) (Kd.R_far (p := ⟨gb177, 2, none⟩) (Kd.R_far (p := ⟨gb177, 1, none⟩) (Kd.R_far (p := ⟨gb177, 0, none⟩) (Kd.R_types HO176.out BK177.out (by decide)) (fun _ hk => hk.2) (.int .i64 t169)) (fun _ hk => hk.2) (.int .i64 t170)) (fun _ hk => hk.2) (.slice Ao53 t171.length co53)) (fun _ hk => hk.2) (.slice Ao54 t174.length co54)) (fun _ h_ => h_.1)))); (case side4 => exact (Kd.R_reads' HO176.out).2.1); rintro e w55 ⟨rfl, hb⟩; refine ⟨_, rfl, ?_⟩; have n0_ := Aside0.mk (Kd.R_below (by (with_reducible repeat (first | apply Kd.R_alloc | apply Kd.R_drewN | apply Kd.R_drew)); exact (Kd.R_mono (Kd.R_far (p := ⟨gb177, 3, none⟩) (Kd.R_far (p := ⟨gb177, 2, none⟩) (Kd.R_far (p := ⟨gb177, 1, none⟩) (Kd.R_far (p := ⟨gb177, 0, none⟩) (Kd.R_types HO_37.out BK177.out (by decide)) (fun _ hk => hk.2) (.int .i64 t169)) (fun _ hk => hk.2) (.int .i64 t170)) (fun _ hk => hk.2) (.slice Ao53 t171.length co53)) (fun _ hk => hk.2) (.slice Ao54 t174.length co54)) (fun _ h_ => h_.1))) hb); have n1_ := Aside0.mk (Kd.R_below (by (with_reducible repeat (first | apply Kd.R_alloc | apply Kd.R_drewN | apply Kd.R_drew)); exact (Kd.R_mono (Kd.R_far (p := ⟨gb177, 3, none⟩) (Kd.R_far (p := ⟨gb177, 2, none⟩) (Kd.R_far (p := ⟨gb177, 1, none⟩) (Kd.R_far (p := ⟨gb177, 0, none⟩) (Kd.R_types HO173.out BK177.out (by decide)) (fun _ hk => hk.2) (.int .i64 t169)) (fun _ hk => hk.2) (.int .i64 t170)) (fun _ hk => hk.2) (.slice Ao53 t171.length co53)) (fun _ hk => hk.2) (.slice Ao54 t174.length co54)) (fun _ h_ => h_.1))) hb); have n2_ := Aside0.mk (Kd.R_below (by (with_reducible repeat (first | apply Kd.R_alloc | apply Kd.R_drewN | apply Kd.R_drew)); exact (Kd.R_mono (Kd.R_far (p := ⟨gb177, 3, none⟩) (Kd.R_far (p := ⟨gb177, 2, none⟩) (Kd.R_far (p := ⟨gb177, 1, none⟩) (Kd.R_far (p := ⟨gb177, 0, none⟩) (Kd.R_types HO176.out BK177.out (by decide)) (fun _ hk => hk.2) (.int .i64 t169)) (fun _ hk => hk.2) (.int .i64 t170)) (fun _ hk => hk.2) (.slice Ao53 t171.length co53)) (fun _ hk => hk.2) (.slice Ao54 t174.length co54)) (fun _ h_ => h_.1))) hb); have n3_ := Aside0.mk (blk_below (g := gb159) (o := .cells #[.int .i64 x160000_2, .int .i64 x160001_2, .slice none 0 0, .slice none 0 0] 36 (0, 0)) (bf4_ NB159_177.out NB159_177.out NB159_177.out NB159_177.out BK159.out) hb); have n4_ := Aside0.mk (blk_below (g := gb164) (o := .cells #[.int .i64 ((rdOf ByteArray.empty t160 0).size : Int), .int .i64 (wrap64 ((t160.length : Int) / 2))] 75 (0, 0)) (bf4_ NB164_177.out NB164_177.out NB164_177.out NB164_177.out BK164.out) hb); have n5_ := Aside0.mk (blk_below (g := gb177) (o := .cells #[.int .i64 t169, .int .i64 t170, .slice Ao53 t171.length co53, .slice Ao54 t174.length co54] 36 (0, 0)) (by (with_reducible repeat (first | refine blk_drewN ?_ _ | refine blk_drew ?_ | refine blk_alloc ?_ _)); refine blk_put (cs := #[.int .i64 t169, .int .i64 t170, .slice Ao53 t171.length co53, .slice none 0 0]) ?_ 3 _ rfl; (with_reducible repeat (first | refine blk_drewN ?_ _ | refine blk_drew ?_ | refine blk_alloc ?_ _)); refine blk_put (cs := #[.int .i64 t169, .int .i64 t170, .slice none 0 0, .slice none 0 0]) ?_ 2 _ rfl; (with_reducible repeat (first | refine blk_drewN ?_ _ | refine blk_drew ?_ | refine blk_alloc ?_ _)); refine blk_put (cs := #[.int .i64 t169, .int .i64 0, .slice none 0 0, .slice none 0 0]) ?_ 1 _ rfl; (with_reducible repeat (first | refine blk_drewN ?_ _ | refine blk_drew ?_ | refine blk_alloc ?_ _)); refine blk_put (cs := #[.int .i64 0, .int .i64 0, .slice none 0 0, .slice none 0 0]) ?_ 0 _ rfl; (with_reducible repeat (first | refine blk_drewN ?_ _ | refine blk_drew ?_ | refine blk_alloc ?_ _)); exact BK177.out) hb); have n6_ := Aside0.mk (below_step (bl3_ HB.out GE159.out GE164.out GE177.out) hb); clear HO_37; clear HO173; clear HO176; clear BK159; clear BK164; clear BK177; clear HB; have HO_37 := n0_; have HO173 := n1_; have HO176 := n2_; have BK159 := n3_; have BK164 := n4_; have BK177 := n5_; have HB := n6_; clear n0_ n1_ n2_ n3_ n4_ n5_ n6_; (try clear hb); (try clear hb2); (try clear hk); (try clear hi); have hcz56_0 : w55.cell? ⟨gb177, 0, none⟩ = some (.int .i64 t169) := (blk_cell BK177.out 0).trans rfl; have hcz56_1 : w55.cell? ⟨gb177, 1, none⟩ = some (.int .i64 t170) := (blk_cell BK177.out 1).trans rfl; have hcz56_2 : w55.cell? ⟨gb177, 2, none⟩ = some (.slice Ao53 t171.length co53) := (blk_cell BK177.out 2).trans rfl; have hcz56_3 : w55.cell? ⟨gb177, 3, none⟩ = some (.slice Ao54 t174.length co54) := (blk_cell BK177.out 3).trans rfl; have hfz56_0 := blk_frozen BK177.out 0; have hfz56_1 := blk_frozen BK177.out 1; have hfz56_2 := blk_frozen BK177.out 2; have hfz56_3 := blk_frozen BK177.out 3; have hcz57_0 : w55.cell? ⟨gb159, 0, none⟩ = some (.int .i64 x160000_2) := (blk_cell BK159.out 0).trans rfl; have hcz57_1 : w55.cell? ⟨gb159, 1, none⟩ = some (.int .i64 x160001_2) := (blk_cell BK159.out 1).trans rfl; have hcz57_2 : w55.cell? ⟨gb159, 2, none⟩ = some (.slice none 0 0) := (blk_cell BK159.out 2).trans rfl; have hcz57_3 : w55.cell? ⟨gb159, 3, none⟩ = some (.slice none 0 0) := (blk_cell BK159.out 3).trans rfl; have hfz57_0 := blk_frozen BK159.out 0; have hfz57_1 := blk_frozen BK159.out 1; have hfz57_2 := blk_frozen BK159.out 2; have hfz57_3 := blk_frozen BK159.out 3))
         refine bodyPost_ret (results_ct rfl _ _ gb159 36 #[.int .i64 t169, .int .i64 t170, .slice Ao53 t171.length co53, .slice Ao54 t174.length co54] (0, 0) _ rfl (by (with_reducible repeat (first | refine blk_drewN ?_ _ | refine blk_drew ?_ | refine blk_alloc ?_ _)); refine blk_put (cs := #[.int .i64 t169, .int .i64 t170, .slice Ao53 t171.length co53, .slice none 0 0]) ?_ 3 _ rfl; (with_reducible repeat (first | refine blk_drewN ?_ _ | refine blk_drew ?_ | refine blk_alloc ?_ _)); refine blk_put (cs := #[.int .i64 t169, .int .i64 t170, .slice none 0 0, .slice none 0 0]) ?_ 2 _ rfl; (with_reducible repeat (first | refine blk_drewN ?_ _ | refine blk_drew ?_ | refine blk_alloc ?_ _)); refine blk_put (cs := #[.int .i64 t169, .int .i64 x160001_2, .slice none 0 0, .slice none 0 0]) ?_ 1 _ rfl; (with_reducible repeat (first | refine blk_drewN ?_ _ | refine blk_drew ?_ | refine blk_alloc ?_ _)); refine blk_put (cs := #[.int .i64 x160000_2, .int .i64 x160001_2, .slice none 0 0, .slice none 0 0]) ?_ 0 _ rfl; (with_reducible repeat (first | refine blk_drewN ?_ _ | refine blk_drew ?_ | refine blk_alloc ?_ _)); exact BK159.out) Tryd.underlying36 rfl (by kernel_rfl)) rfl ?_
         exact ⟨_, _, er_, by (with_reducible repeat (first | apply Kd.R_alloc | apply Kd.R_drewN | apply Kd.R_drew)); exact Kd.R_mono (Kd.R_far (p := ⟨gb159, 3, none⟩) (Kd.R_far (p := ⟨gb159, 2, none⟩) (Kd.R_far (p := ⟨gb159, 1, none⟩) (Kd.R_far (p := ⟨gb159, 0, none⟩) (Kd.R_types HO173.out BK159.out (by decide)) (fun _ hk => hk.2) (.int .i64 t169)) (fun _ hk => hk.2) (.int .i64 t170)) (fun _ hk => hk.2) (.slice Ao53 t171.length co53)) (fun _ hk => hk.2) (.slice Ao54 t174.length co54)) (fun _ hk => hk.1), by (with_reducible repeat (first | apply Kd.R_alloc | apply Kd.R_drewN | apply Kd.R_drew)); exact Kd.R_mono (Kd.R_far (p := ⟨gb159, 3, none⟩) (Kd.R_far (p := ⟨gb159, 2, none⟩) (Kd.R_far (p := ⟨gb159, 1, none⟩) (Kd.R_far (p := ⟨gb159, 0, none⟩) (Kd.R_types HO176.out BK159.out (by decide)) (fun _ hk => hk.2) (.int .i64 t169)) (fun _ hk => hk.2) (.int .i64 t170)) (fun _ hk => hk.2) (.slice Ao53 t171.length co53)) (fun _ hk => hk.2) (.slice Ao54 t174.length co54)) (fun _ hk => hk.1), bl3_ HB.out GE159.out GE164.out GE177.out⟩
        ·rw [if_neg c45] at H
         have c45b0 : (t178.toList == a0.toList) = false := beq_eq_false_iff_ne.mpr c45
         have c45b1 : (t178.toList != a0.toList) = true := bne_iff_ne.mpr c45
         simp only [Option.some.injEq, Prod.mk.injEq] at H
         obtain ⟨rfl, rfl, rfl, rfl, rfl⟩ := H
         have hnb58 := NB164_159.out
         have hnc58 := NB159_164.out
         have hcz59_0 : wr.cell? ⟨gb164, 0, none⟩ = some (.int .i64 ((rdOf ByteArray.empty t160 0).size : Int)) := (blk_cell BK164.out 0).trans rfl
         have hcz59_1 : wr.cell? ⟨gb164, 1, none⟩ = some (.int .i64 (wrap64 ((t160.length : Int) / 2))) := (blk_cell BK164.out 1).trans rfl
         have hfz59_0 := blk_frozen BK164.out 0
         have hfz59_1 := blk_frozen BK164.out 1
         go_wp2_with (first | ((with_reducible refine gate_callee (f := 56) rfl ?_); refine goesL_ (some 85) rfl rfl Tryd.func56 (by kernel_rfl) rfl #[.agg #[.int .i64 ((rdOf ByteArray.empty t160 0).size : Int), .int .i64 (wrap64 ((t160.length : Int) / 2))], .int .u64 x6_2] rfl ob_ ?_; (with_reducible refine (impl_grid_figure.calls ((rdOf ByteArray.empty t160 0).size : Int) (wrap64 ((t160.length : Int) / 2)) x6_2 t169 t170 t171 t174 _ (TB.below HTB.out (bl2_ HB.out GE159.out GE164.out)) A43.out).mono ?_); rintro e w60 ⟨v172, v175, rfl, ho0, ho1, hb⟩; refine ⟨_, rfl, ?_⟩; have n0_ := Aside0.mk (Kd.R_below (kr_ HO_37.out) hb); have n1_ := Aside0.mk (Kd.R_lower ho0 (below_size (bl2_ HB.out GE159.out GE164.out))); have n2_ := Aside0.mk (Kd.R_lower ho1 (below_size (bl2_ HB.out GE159.out GE164.out))); have n3_ := Aside0.mk (bb_ BK159.out hb); have n4_ := Aside0.mk (bb_ BK164.out hb); have n5_ := Aside0.mk (below_step (bl2_ HB.out GE159.out GE164.out) hb); clear HO_37; clear BK159; clear BK164; clear HB; have HO_37 := n0_; have HO173 := n1_; have HO176 := n2_; have BK159 := n3_; have BK164 := n4_; have HB := n5_; clear n0_ n1_ n2_ n3_ n4_ n5_; (try clear hb); (try clear hb2); (try clear hk); (try clear hi); (try clear ho0); (try clear ho1)) | ((with_reducible refine gate_dst (N := 10) rfl ?_); (try (refine gate_guard (by rfl) ?_; dsimp only)); refine boxE_ (N := 10) (cs := #[.int .i64 0, .int .i64 0, .slice none 0 0, .slice none 0 0]) (t := 36) ?_; intro gb177 hg w61 hbox hb; have n0_ := Aside0.mk (Kd.R_below (kr_ HO_37.out) hb); have n1_ := Aside0.mk (Kd.R_below (kr_ HO173.out) hb); have n2_ := Aside0.mk (Kd.R_below (kr_ HO176.out) hb); have n3_ := Aside0.mk (bb_ BK159.out hb); have n4_ := Aside0.mk (bb_ BK164.out hb); have n5_ := Aside0.mk (below_step (bl2_ HB.out GE159.out GE164.out) hb); have n6_ := Aside0.mk (hbox); have n7_ := Aside0.mk ((bs2_ hg HB.out GE159.out GE164.out : w.heap.size ≤ gb177)); have n8_ := Aside0.mk ((bs2_ hg HB.out GE159.out GE164.out : w.heap.size ≤ gb177)); have n9_ := Aside0.mk ((nl_ hg BK159.out : gb159 ≠ gb177)); have n10_ := Aside0.mk ((ng_ hg BK159.out : gb177 ≠ gb159)); have n11_ := Aside0.mk ((nl_ hg BK164.out : gb164 ≠ gb177)); have n12_ := Aside0.mk ((ng_ hg BK164.out : gb177 ≠ gb164)); clear HO_37; clear HO173; clear HO176; clear BK159; clear BK164; clear HB; have HO_37 := n0_; have HO173 := n1_; have HO176 := n2_; have BK159 := n3_; have BK164 := n4_; have HB := n5_; have BK177 := n6_; have GW177 := n7_; have GE177 := n8_; have NB159_177 := n9_; have NB177_159 := n10_; have NB164_177 := n11_; have NB177_164 := n12_; clear n0_ n1_ n2_ n3_ n4_ n5_ n6_ n7_ n8_ n9_ n10_ n11_ n12_; clear hb hbox hg; have hnb62 := NB177_159.out; have hnc62 := NB159_177.out; have hnb63 := NB177_164.out; have hnc63 := NB164_177.out; have hcz64_0 : w61.cell? ⟨gb177, 0, none⟩ = some (.int .i64 0) := (blk_cell BK177.out 0).trans rfl; have hcz64_1 : w61.cell? ⟨gb177, 1, none⟩ = some (.int .i64 0) := (blk_cell BK177.out 1).trans rfl; have hcz64_2 : w61.cell? ⟨gb177, 2, none⟩ = some (.slice none 0 0) := (blk_cell BK177.out 2).trans rfl; have hcz64_3 : w61.cell? ⟨gb177, 3, none⟩ = some (.slice none 0 0) := (blk_cell BK177.out 3).trans rfl; have hfz64_0 := blk_frozen BK177.out 0; have hfz64_1 := blk_frozen BK177.out 1; have hfz64_2 := blk_frozen BK177.out 2; have hfz64_3 := blk_frozen BK177.out 3; obtain ⟨Ao65, co65, eo65⟩ := Kd.R_slice HO173.out; subst eo65; obtain ⟨Ao66, co66, eo66⟩ := Kd.R_slice HO176.out; subst eo66) | ((with_reducible refine gate_callee (f := 57) rfl ?_); refine goesL_ (some 87) rfl rfl Tryd.func57 (by kernel_rfl) rfl #[.agg #[.int .i64 t169, .int .i64 t170, .slice Ao65 t171.length co65, .slice Ao66 t174.length co66]] rfl ob_ ?_; (with_reducible refine (impl_figureText.calls k2 t169 t170 _ _ t171 _ _ t174 t178 _ ?side1 ?side2 ?side3 ?side4 A44.out).mono ?_); (case side1 => refine (Kd.R_reads' (e := 3) (base := w.heap.size) (ok := fun k_ => some k_ ≠ (.slice Ao66 t174.length co66 : Value).ownBlock) (n := t171.length) (c := co65) ?_).2.2; exact (by (with_reducible repeat (first | apply Kd.R_alloc | apply Kd.R_drewN | apply Kd.R_drew)); exact (Kd.R_mono (Kd.R_far (p := ⟨gb177, 3, none⟩) (Kd.R_far (p := ⟨gb177, 2, none⟩) (Kd.R_far (p := ⟨gb177, 1, none⟩) (Kd.R_far (p := ⟨gb177, 0, none⟩) (Kd.R_types HO173.out BK177.out (by decide)) (fun _ hk => hk.2) (.int .i64 t169)) (fun _ hk => hk.2) (.int .i64 t170)) (fun _ hk => hk.2) (.slice Ao65 t171.length co65)) (fun _ hk => hk.2) (.slice Ao66 t174.length co66)) (fun _ h_ => h_.1)))); (case side2 => exact (Kd.R_reads' HO173.out).2.1); (case side3 => refine (Kd.R_reads' (e := 3) (base := w.heap.size) (ok := fun k_ => some k_ ≠ (.slice Ao65 t171.length co65 : Value).ownBlock) (n := t174.length) (c := co66) ?_).2.2; exact (by (with_reducible repeat (first | apply Kd.R_alloc | apply Kd.R_drewN | apply Kd.R_drew)); exact (Kd.R_mono (Kd.R_far (p := ⟨gb177, 3, none⟩) (Kd.R_far (p := ⟨gb177, 2, none⟩) (Kd.R_far (p := ⟨gb177, 1, none⟩) (Kd.R_far (p := ⟨gb177, 0, none⟩) (Kd.R_types HO176.out BK177.out (by decide)) (fun _ hk => hk.2) (.int .i64 t169)) (fun _ hk => hk.2) (.int .i64 t170)) (fun _ hk => hk.2) (.slice Ao65 t171.length co65)) (fun _ hk => hk.2) (.slice Ao66 t174.length co66)) (fun _ h_ => h_.1)))); (case side4 => exact (Kd.R_reads' HO176.out).2.1); rintro e w67 ⟨rfl, hb⟩; refine ⟨_, rfl, ?_⟩; have n0_ := Aside0.mk (Kd.R_below (by (with_reducible repeat (first | apply Kd.R_alloc | apply Kd.R_drewN | apply Kd.R_drew)); exact (Kd.R_mono (Kd.R_far (p := ⟨gb177, 3, none⟩) (Kd.R_far (p := ⟨gb177, 2, none⟩) (Kd.R_far (p := ⟨gb177, 1, none⟩) (Kd.R_far (p := ⟨gb177, 0, none⟩) (Kd.R_types HO_37.out BK177.out (by decide)) (fun _ hk => hk.2) (.int .i64 t169)) (fun _ hk => hk.2) (.int .i64 t170)) (fun _ hk => hk.2) (.slice Ao65 t171.length co65)) (fun _ hk => hk.2) (.slice Ao66 t174.length co66)) (fun _ h_ => h_.1))) hb); have n1_ := Aside0.mk (Kd.R_below (by (with_reducible repeat (first | apply Kd.R_alloc | apply Kd.R_drewN | apply Kd.R_drew)); exact (Kd.R_mono (Kd.R_far (p := ⟨gb177, 3, none⟩) (Kd.R_far (p := ⟨gb177, 2, none⟩) (Kd.R_far (p := ⟨gb177, 1, none⟩) (Kd.R_far (p := ⟨gb177, 0, none⟩) (Kd.R_types HO173.out BK177.out (by decide)) (fun _ hk => hk.2) (.int .i64 t169)) (fun _ hk => hk.2) (.int .i64 t170)) (fun _ hk => hk.2) (.slice Ao65 t171.length co65)) (fun _ hk => hk.2) (.slice Ao66 t174.length co66)) (fun _ h_ => h_.1))) hb); have n2_ := Aside0.mk (Kd.R_below (by (with_reducible repeat (first | apply Kd.R_alloc | apply Kd.R_drewN | apply Kd.R_drew)); exact (Kd.R_mono (Kd.R_far (p := ⟨gb177, 3, none⟩) (Kd.R_far (p := ⟨gb177, 2, none⟩) (Kd.R_far (p := ⟨gb177, 1, none⟩) (Kd.R_far (p := ⟨gb177, 0, none⟩) (Kd.R_types HO176.out BK177.out (by decide)) (fun _ hk => hk.2) (.int .i64 t169)) (fun _ hk => hk.2) (.int .i64 t170)) (fun _ hk => hk.2) (.slice Ao65 t171.length co65)) (fun _ hk => hk.2) (.slice Ao66 t174.length co66)) (fun _ h_ => h_.1))) hb); have n3_ := Aside0.mk (blk_below (g := gb159) (o := .cells #[.int .i64 x160000_2, .int .i64 x160001_2, .slice none 0 0, .slice none 0 0] 36 (0, 0)) (bf4_ NB159_177.out NB159_177.out NB159_177.out NB159_177.out BK159.out) hb); have n4_ := Aside0.mk (blk_below (g := gb164) (o := .cells #[.int .i64 ((rdOf ByteArray.empty t160 0).size : Int), .int .i64 (wrap64 ((t160.length : Int) / 2))] 75 (0, 0)) (bf4_ NB164_177.out NB164_177.out NB164_177.out NB164_177.out BK164.out) hb); have n5_ := Aside0.mk (blk_below (g := gb177) (o := .cells #[.int .i64 t169, .int .i64 t170, .slice Ao65 t171.length co65, .slice Ao66 t174.length co66] 36 (0, 0)) (by (with_reducible repeat (first | refine blk_drewN ?_ _ | refine blk_drew ?_ | refine blk_alloc ?_ _)); refine blk_put (cs := #[.int .i64 t169, .int .i64 t170, .slice Ao65 t171.length co65, .slice none 0 0]) ?_ 3 _ rfl; (with_reducible repeat (first | refine blk_drewN ?_ _ | refine blk_drew ?_ | refine blk_alloc ?_ _)); refine blk_put (cs := #[.int .i64 t169, .int .i64 t170, .slice none 0 0, .slice none 0 0]) ?_ 2 _ rfl; (with_reducible repeat (first | refine blk_drewN ?_ _ | refine blk_drew ?_ | refine blk_alloc ?_ _)); refine blk_put (cs := #[.int .i64 t169, .int .i64 0, .slice none 0 0, .slice none 0 0]) ?_ 1 _ rfl; (with_reducible repeat (first | refine blk_drewN ?_ _ | refine blk_drew ?_ | refine blk_alloc ?_ _)); refine blk_put (cs := #[.int .i64 0, .int .i64 0, .slice none 0 0, .slice none 0 0]) ?_ 0 _ rfl; (with_reducible repeat (first | refine blk_drewN ?_ _ | refine blk_drew ?_ | refine blk_alloc ?_ _)); exact BK177.out) hb); have n6_ := Aside0.mk (below_step (bl3_ HB.out GE159.out GE164.out GE177.out) hb); clear HO_37; clear HO173; clear HO176; clear BK159; clear BK164; clear BK177; clear HB; have HO_37 := n0_; have HO173 := n1_; have HO176 := n2_; have BK159 := n3_; have BK164 := n4_; have BK177 := n5_; have HB := n6_; clear n0_ n1_ n2_ n3_ n4_ n5_ n6_; (try clear hb); (try clear hb2); (try clear hk); (try clear hi); have hcz68_0 : w67.cell? ⟨gb159, 0, none⟩ = some (.int .i64 x160000_2) := (blk_cell BK159.out 0).trans rfl; have hcz68_1 : w67.cell? ⟨gb159, 1, none⟩ = some (.int .i64 x160001_2) := (blk_cell BK159.out 1).trans rfl; have hcz68_2 : w67.cell? ⟨gb159, 2, none⟩ = some (.slice none 0 0) := (blk_cell BK159.out 2).trans rfl; have hcz68_3 : w67.cell? ⟨gb159, 3, none⟩ = some (.slice none 0 0) := (blk_cell BK159.out 3).trans rfl; have hfz68_0 := blk_frozen BK159.out 0; have hfz68_1 := blk_frozen BK159.out 1; have hfz68_2 := blk_frozen BK159.out 2; have hfz68_3 := blk_frozen BK159.out 3))
         refine bodyPost_ret (results_ct rfl _ _ gb159 36 #[.int .i64 0, .int .i64 0, .slice none 0 0, .slice none 0 0] (0, 0) _ rfl (by (with_reducible repeat (first | refine blk_drewN ?_ _ | refine blk_drew ?_ | refine blk_alloc ?_ _)); refine blk_put (cs := #[.int .i64 0, .int .i64 0, .slice none 0 0, .slice none 0 0]) ?_ 3 _ rfl; (with_reducible repeat (first | refine blk_drewN ?_ _ | refine blk_drew ?_ | refine blk_alloc ?_ _)); refine blk_put (cs := #[.int .i64 0, .int .i64 0, .slice none 0 0, .slice none 0 0]) ?_ 2 _ rfl; (with_reducible repeat (first | refine blk_drewN ?_ _ | refine blk_drew ?_ | refine blk_alloc ?_ _)); refine blk_put (cs := #[.int .i64 0, .int .i64 x160001_2, .slice none 0 0, .slice none 0 0]) ?_ 1 _ rfl; (with_reducible repeat (first | refine blk_drewN ?_ _ | refine blk_drew ?_ | refine blk_alloc ?_ _)); refine blk_put (cs := #[.int .i64 x160000_2, .int .i64 x160001_2, .slice none 0 0, .slice none 0 0]) ?_ 0 _ rfl; (with_reducible repeat (first | refine blk_drewN ?_ _ | refine blk_drew ?_ | refine blk_alloc ?_ _)); exact BK159.out) Tryd.underlying36 rfl (by kernel_rfl)) rfl ?_
         exact ⟨_, _, er_, by first | exact Kd.R_nil _ _ _ _ _ | exact Kd.N_nil _ _ _ _ _ | exact Kd.V_nil _ _ _ _ _ | exact Kd.Q_nil _ _ _ _ _ | exact Kd.S_nil _ _ _ _ _, by first | exact Kd.R_nil _ _ _ _ _ | exact Kd.N_nil _ _ _ _ _ | exact Kd.V_nil _ _ _ _ _ | exact Kd.Q_nil _ _ _ _ _ | exact Kd.S_nil _ _ _ _ _, bl3_ HB.out GE159.out GE164.out GE177.out⟩
 ·rw [if_neg c3] at H
  exact absurd H (by simp)


def laws_eqIntS.l0 : Nat → List Int → List Int → Int → Option (Bool)
 | 0, _, _, _ => none
 | k + 1, x0, x1, x5 => if x5 < (x0.length : Int) then (if 0 ≤ x5 then (if x5 < (x1.length : Int) then (if (rd x0 x5) = (rd x1 x5) then (laws_eqIntS.l0 k x0 x1 (wrap64 (x5 + 1))) else (some false)) else (none)) else (none)) else (some true)
def laws_eqIntS.f (k : Nat) (l0 : List Int) (l1 : List Int) : Option (Bool) := if (l0.length : Int) = (l1.length : Int) then (laws_eqIntS.l0 k l0 l1 0) else (some false)
theorem laws_eqIntS.mono_l : ∀ k, (∀ y0 y1 y2, LeO (laws_eqIntS.l0 k y0 y1 y2) (laws_eqIntS.l0 (k + 1) y0 y1 y2))
 | 0 => fun _ _ _ r h => by simp [laws_eqIntS.l0] at h
 | k + 1 => by
  have ih0 := laws_eqIntS.mono_l k
  ·intro y0 y1 y2
   unfold laws_eqIntS.l0
   repeat' first
   | (with_reducible exact ih0 _ _ _)
   | (with_reducible exact LeO.refl _)
   | (with_reducible exact LeO.none _)
   | (with_reducible refine LeO.ite ?_ ?_)
   | (with_reducible refine LeO.bind ?_ (fun _ => ?_))
   | exact ih0 _ _ _
   | exact LeO.none _
   | refine LeO.ite ?_ ?_
   | refine LeO.bind ?_ (fun _ => ?_)
theorem laws_eqIntS.mono : ∀ a0 a1 k, LeO (laws_eqIntS.f k a0 a1) (laws_eqIntS.f (k + 1) a0 a1) := by
 intro a0 a1 k
 have ih0 := laws_eqIntS.mono_l k
 unfold laws_eqIntS.f
 repeat' first
   | (with_reducible exact ih0 _ _ _)
   | (with_reducible exact LeO.refl _)
   | (with_reducible exact LeO.none _)
   | (with_reducible refine LeO.ite ?_ ?_)
   | (with_reducible refine LeO.bind ?_ (fun _ => ?_))
   | exact ih0 _ _ _
   | exact LeO.none _
   | refine LeO.ite ?_ ?_
   | refine LeO.bind ?_ (fun _ => ?_)
set_option maxHeartbeats 8000000 in
set_option maxRecDepth 100000 in
theorem laws_eqIntS.calls (k : Nat) (A0 : Option Addr) (c0 : Nat) (l0 : List Int) (A1 : Option Addr) (c1 : Nat) (l1 : List Int) (r : Bool) (w : World) (hr0 : Kd.C (Kd.int .i64) w A0 l0.length l0) (hc0 : l0.length ≤ c0) (hr1 : Kd.C (Kd.int .i64) w A1 l1.length l1) (hc1 : l1.length ≤ c1) (h : laws_eqIntS.f k l0 l1 = some r) :
  Calls Tryd.prog 58 #[.slice A0 l0.length c0, .slice A1 l1.length c1] w fun e w' => e = .returned (.bool r) ∧ Drawn0 w w' := by
 have HR0 := Aside0.mk hr0
 have HC0 := Aside0.mk hc0
 clear hr0 hc0
 have HR1 := Aside0.mk hr1
 have HC1 := Aside0.mk hc1
 clear hr1 hc1
 have H : (if (l0.length : Int) = (l1.length : Int) then (laws_eqIntS.l0 k l0 l1 0) else (some false)) = some r := h
 clear h
 by_cases c3 : (l0.length : Int) = (l1.length : Int)
 ·rw [if_pos c3] at H
  have c3b0 : ((l0.length : Int) == (l1.length : Int)) = true := beq_iff_eq.mpr c3
  have c3b1 : ((l0.length : Int) != (l1.length : Int)) = false := bne_eq_false_iff_eq.mpr c3
  have c3b2 : (l0.length == l1.length) = true := by first | simpa using c3 | (simp at c3 ⊢; omega)
  clear c3
  have H' := Aside0.mk H
  clear H
  go_enter Tryd.func58, Tryd.ntmps58
  go_wp2
  repeat (go_quiet (fail); try go_wp2)
  go_loopg [5] k (fun kq v5 w' => ∃ (x5_1 : Int), v5 = .int .i64 x5_1 ∧ Aside0 (laws_eqIntS.l0 kq l0 l1 x5_1 = some r) ∧ Aside0 (kq ≤ k) ∧ Drawn0 w w')
  case atStart => exact ⟨(0), rs_, H', ⟨Nat.le_refl _⟩, by repeat (first | exact Drawn0.refl _ | apply Drawn0.step)⟩
  case round =>
   clear H'
   try clear c1
   try clear p2
   try clear c3
   try clear c3b0
   try clear c3b1
   try clear c3b2
   obtain ⟨x5_1, rfl, HA, HK1, ⟨m1, rfl⟩⟩ := hrel
   cases gk with
   | zero => exact absurd HA.out (by simp [laws_eqIntS.l0])
   | succ k1 =>
    have H := HA.out
    clear HA
    simp only [laws_eqIntS.l0] at H
    by_cases c4 : x5_1 < (l0.length : Int)
    ·rw [if_pos c4] at H
     have c4b0 : decide (x5_1 < (l0.length : Int)) = true := decide_eq_true c4
     clear c4
     by_cases c5 : 0 ≤ x5_1
     ·rw [if_pos c5] at H
      have c5b0 : decide (0 ≤ x5_1) = true := decide_eq_true c5
      clear c5
      by_cases c6 : x5_1 < (l1.length : Int)
      ·rw [if_pos c6] at H
       have c6b0 : decide (x5_1 < (l1.length : Int)) = true := decide_eq_true c6
       clear c6
       by_cases c7 : (rd l0 x5_1) = (rd l1 x5_1)
       ·rw [if_pos c7] at H
        have c7b0 : ((rd l0 x5_1) == (rd l1 x5_1)) = true := beq_iff_eq.mpr c7
        have c7b1 : ((rd l0 x5_1) != (rd l1 x5_1)) = false := bne_eq_false_iff_eq.mpr c7
        clear c7
        have H' := Aside0.mk H
        clear H
        have p179 : 0 ≤ (x5_1 : Int) := of_decide_eq_true as_
        have q179 : x5_1 < (l0.length : Int) := of_decide_eq_true as_
        obtain ⟨ad179, e179, hx179_0⟩ := Kd.at_int HR0.out x5_1 p179 q179
        cases e179
        replace p179 := eq_true p179
        replace q179 := eq_true q179
        have p180 : 0 ≤ (x5_1 : Int) := of_decide_eq_true as_
        have q180 : x5_1 < (l1.length : Int) := of_decide_eq_true as_
        obtain ⟨ad180, e180, hx180_0⟩ := Kd.at_int HR1.out x5_1 p180 q180
        cases e180
        replace p180 := eq_true p180
        replace q180 := eq_true q180
        go_wp2
        repeat (go_quiet (fail); try go_wp2)
        go_roundg k1
        case measure => have := HK1.out; omega
        case rel => exact ⟨(wrap64 (x5_1 + 1)), rs_, H', ⟨by have := HK1.out; omega⟩, by repeat (first | exact Drawn0.refl _ | apply Drawn0.step)⟩
       ·rw [if_neg c7] at H
        have c7b0 : ((rd l0 x5_1) == (rd l1 x5_1)) = false := beq_eq_false_iff_ne.mpr c7
        have c7b1 : ((rd l0 x5_1) != (rd l1 x5_1)) = true := bne_iff_ne.mpr c7
        obtain rfl := Option.some.inj H
        have p179 : 0 ≤ (x5_1 : Int) := of_decide_eq_true as_
        have q179 : x5_1 < (l0.length : Int) := of_decide_eq_true as_
        obtain ⟨ad179, e179, hx179_0⟩ := Kd.at_int HR0.out x5_1 p179 q179
        cases e179
        replace p179 := eq_true p179
        replace q179 := eq_true q179
        have p180 : 0 ≤ (x5_1 : Int) := of_decide_eq_true as_
        have q180 : x5_1 < (l1.length : Int) := of_decide_eq_true as_
        obtain ⟨ad180, e180, hx180_0⟩ := Kd.at_int HR1.out x5_1 p180 q180
        cases e180
        replace p180 := eq_true p180
        replace q180 := eq_true q180
        go_wp2
        repeat (go_quiet (fail); try go_wp2)
        go_ret
        exact ⟨by first | rfl | (simp; done) | (simp [*]; done), by repeat (first | exact Drawn0.refl _ | apply Drawn0.step)⟩
      ·rw [if_neg c6] at H
       exact absurd H (by simp)
     ·rw [if_neg c5] at H
      exact absurd H (by simp)
    ·rw [if_neg c4] at H
     have c4b0 : decide (x5_1 < (l0.length : Int)) = false := decide_eq_false c4
     clear c4
     obtain rfl := Option.some.inj H
     go_wp2
     repeat (go_quiet (fail); try go_wp2)
     go_ret
     exact ⟨by first | rfl | (simp; done) | (simp [*]; done), by repeat (first | exact Drawn0.refl _ | apply Drawn0.step)⟩
 ·rw [if_neg c3] at H
  have c3b0 : ((l0.length : Int) == (l1.length : Int)) = false := beq_eq_false_iff_ne.mpr c3
  have c3b1 : ((l0.length : Int) != (l1.length : Int)) = true := bne_iff_ne.mpr c3
  have c3b2 : (l0.length == l1.length) = false := by first | simpa using c3 | (simp at c3 ⊢; omega)
  obtain rfl := Option.some.inj H
  go_enter Tryd.func58, Tryd.ntmps58
  go_wp2
  repeat (go_quiet (fail); try go_wp2)
  go_ret
  exact ⟨by first | rfl | (simp; done) | (simp [*]; done), by repeat (first | exact Drawn0.refl _ | apply Drawn0.step)⟩


def laws_eqFigure.f (k : Nat) (a0_0 : Int) (a0_1 : Int) (l0_2 : List Int) (l0_3 : List Int) (a1_0 : Int) (a1_1 : Int) (l1_2 : List Int) (l1_3 : List Int) : Option (Bool) := if a0_0 = a1_0 then (if a0_1 = a1_1 then ((laws_eqIntS.f k l0_2 l1_2).bind fun t183 => (if t183 = true then ((laws_eqIntS.f k l0_3 l1_3).bind fun t184 => (if t184 = true then (some true) else (some false))) else (some false))) else (some false)) else (some false)
theorem laws_eqFigure.mono : ∀ a0 a1 a2 a3 a4 a5 a6 a7 k, LeO (laws_eqFigure.f k a0 a1 a2 a3 a4 a5 a6 a7) (laws_eqFigure.f (k + 1) a0 a1 a2 a3 a4 a5 a6 a7) := by
 intro a0 a1 a2 a3 a4 a5 a6 a7 k
 unfold laws_eqFigure.f
 repeat' first
   | (with_reducible exact laws_eqIntS.mono _ _ _)
   | (with_reducible exact LeO.refl _)
   | (with_reducible exact LeO.none _)
   | (with_reducible refine LeO.ite ?_ ?_)
   | (with_reducible refine LeO.bind ?_ (fun _ => ?_))
   | exact laws_eqIntS.mono _ _ _
   | exact LeO.none _
   | refine LeO.ite ?_ ?_
   | refine LeO.bind ?_ (fun _ => ?_)
set_option maxHeartbeats 8000000 in
set_option maxRecDepth 100000 in
theorem laws_eqFigure.calls (k : Nat) (a0_0 : Int) (a0_1 : Int) (A0_2 : Option Addr) (c0_2 : Nat) (l0_2 : List Int) (A0_3 : Option Addr) (c0_3 : Nat) (l0_3 : List Int) (a1_0 : Int) (a1_1 : Int) (A1_2 : Option Addr) (c1_2 : Nat) (l1_2 : List Int) (A1_3 : Option Addr) (c1_3 : Nat) (l1_3 : List Int) (r : Bool) (w : World) (hr0_2 : Kd.C (Kd.int .i64) w A0_2 l0_2.length l0_2) (hc0_2 : l0_2.length ≤ c0_2) (hr0_3 : Kd.C (Kd.int .i64) w A0_3 l0_3.length l0_3) (hc0_3 : l0_3.length ≤ c0_3) (hr1_2 : Kd.C (Kd.int .i64) w A1_2 l1_2.length l1_2) (hc1_2 : l1_2.length ≤ c1_2) (hr1_3 : Kd.C (Kd.int .i64) w A1_3 l1_3.length l1_3) (hc1_3 : l1_3.length ≤ c1_3) (h : laws_eqFigure.f k a0_0 a0_1 l0_2 l0_3 a1_0 a1_1 l1_2 l1_3 = some r) :
  Calls Tryd.prog 23 #[.agg #[.int .i64 a0_0, .int .i64 a0_1, .slice A0_2 l0_2.length c0_2, .slice A0_3 l0_3.length c0_3], .agg #[.int .i64 a1_0, .int .i64 a1_1, .slice A1_2 l1_2.length c1_2, .slice A1_3 l1_3.length c1_3]] w fun e w' => e = .returned (.bool r) ∧ Below w.heap.size w w' := by
 have hu36 := Tryd.underlying36
 have HR0_2 := Aside0.mk hr0_2
 have HC0_2 := Aside0.mk hc0_2
 clear hr0_2 hc0_2
 have HR0_3 := Aside0.mk hr0_3
 have HC0_3 := Aside0.mk hc0_3
 clear hr0_3 hc0_3
 have HR1_2 := Aside0.mk hr1_2
 have HC1_2 := Aside0.mk hc1_2
 clear hr1_2 hc1_2
 have HR1_3 := Aside0.mk hr1_3
 have HC1_3 := Aside0.mk hc1_3
 clear hr1_3 hc1_3
 have HB := Aside0.mk (Below.refl w.heap.size w)
 have H : (if a0_0 = a1_0 then (if a0_1 = a1_1 then ((laws_eqIntS.f k l0_2 l1_2).bind fun t183 => (if t183 = true then ((laws_eqIntS.f k l0_3 l1_3).bind fun t184 => (if t184 = true then (some true) else (some false))) else (some false))) else (some false)) else (some false)) = some r := h
 clear h
 by_cases c3 : a0_0 = a1_0
 ·rw [if_pos c3] at H
  have c3b0 : (a0_0 == a1_0) = true := beq_iff_eq.mpr c3
  have c3b1 : (a0_0 != a1_0) = false := bne_eq_false_iff_eq.mpr c3
  clear c3
  by_cases c4 : a0_1 = a1_1
  ·rw [if_pos c4] at H
   have c4b0 : (a0_1 == a1_1) = true := beq_iff_eq.mpr c4
   have c4b1 : (a0_1 != a1_1) = false := bne_eq_false_iff_eq.mpr c4
   clear c4
   replace H := Option.bind_eq_some_iff.mp H
   obtain ⟨t183, A50, H⟩ := H
   replace H : (if t183 = true then ((laws_eqIntS.f k l0_3 l1_3).bind fun t184 => (if t184 = true then (some true) else (some false))) else (some false)) = some r := H
   have A5 := Aside0.mk A50
   clear A50
   by_cases c6 : t183 = true
   ·subst c6
    have H1 : ((laws_eqIntS.f k l0_3 l1_3).bind fun t184 => (if t184 = true then (some true) else (some false))) = some r := by rw [if_pos rfl] at H; exact H
    clear H
    have H := H1
    clear H1
    replace H := Option.bind_eq_some_iff.mp H
    obtain ⟨t184, A70, H⟩ := H
    replace H : (if t184 = true then (some true) else (some false)) = some r := H
    have A7 := Aside0.mk A70
    clear A70
    by_cases c8 : t184 = true
    ·subst c8
     have H1 : (some true) = some r := by rw [if_pos rfl] at H; exact H
     clear H
     have H := H1
     clear H1
     obtain rfl := Option.some.inj H
     go_enter Tryd.func23, Tryd.ntmps23
     go_wp2_with (first | ((with_reducible refine gate_dst (N := 2) rfl ?_); refine boxE_ (N := 2) (cs := #[.int .i64 a0_0, .int .i64 a0_1, .slice A0_2 l0_2.length c0_2, .slice A0_3 l0_3.length c0_3]) (t := 36) ?_; intro gb181 hg w9 hbox hb; have n0_ := Aside0.mk (below_step (bl0_ HB.out) hb); have n1_ := Aside0.mk (hbox); have n2_ := Aside0.mk ((bs0_ hg HB.out : w.heap.size ≤ gb181)); have n3_ := Aside0.mk ((bs0_ hg HB.out : w.heap.size ≤ gb181)); clear HB; have HB := n0_; have BK181 := n1_; have GW181 := n2_; have GE181 := n3_; clear n0_ n1_ n2_ n3_; clear hb hbox hg) | ((with_reducible refine gate_dst (N := 3) rfl ?_); refine boxE_ (N := 3) (cs := #[.int .i64 a1_0, .int .i64 a1_1, .slice A1_2 l1_2.length c1_2, .slice A1_3 l1_3.length c1_3]) (t := 36) ?_; intro gb182 hg w10 hbox hb; have n0_ := Aside0.mk (bb_ BK181.out hb); have n1_ := Aside0.mk (below_step (bl1_ HB.out GE181.out) hb); have n2_ := Aside0.mk (hbox); have n3_ := Aside0.mk ((bs1_ hg HB.out GE181.out : w.heap.size ≤ gb182)); have n4_ := Aside0.mk ((bs1_ hg HB.out GE181.out : w.heap.size ≤ gb182)); have n5_ := Aside0.mk ((nl_ hg BK181.out : gb181 ≠ gb182)); have n6_ := Aside0.mk ((ng_ hg BK181.out : gb182 ≠ gb181)); clear BK181; clear HB; have BK181 := n0_; have HB := n1_; have BK182 := n2_; have GW182 := n3_; have GE182 := n4_; have NB181_182 := n5_; have NB182_181 := n6_; clear n0_ n1_ n2_ n3_ n4_ n5_ n6_; clear hb hbox hg; have hnb11 := NB181_182.out; have hnc11 := NB182_181.out; have hcz12_0 : w10.cell? ⟨gb181, 0, none⟩ = some (.int .i64 a0_0) := (blk_cell BK181.out 0).trans rfl; have hcz12_1 : w10.cell? ⟨gb181, 1, none⟩ = some (.int .i64 a0_1) := (blk_cell BK181.out 1).trans rfl; have hcz12_2 : w10.cell? ⟨gb181, 2, none⟩ = some (.slice A0_2 l0_2.length c0_2) := (blk_cell BK181.out 2).trans rfl; have hcz12_3 : w10.cell? ⟨gb181, 3, none⟩ = some (.slice A0_3 l0_3.length c0_3) := (blk_cell BK181.out 3).trans rfl; have hfz12_0 := blk_frozen BK181.out 0; have hfz12_1 := blk_frozen BK181.out 1; have hfz12_2 := blk_frozen BK181.out 2; have hfz12_3 := blk_frozen BK181.out 3; have hcz13_0 : w10.cell? ⟨gb182, 0, none⟩ = some (.int .i64 a1_0) := (blk_cell BK182.out 0).trans rfl; have hcz13_1 : w10.cell? ⟨gb182, 1, none⟩ = some (.int .i64 a1_1) := (blk_cell BK182.out 1).trans rfl; have hcz13_2 : w10.cell? ⟨gb182, 2, none⟩ = some (.slice A1_2 l1_2.length c1_2) := (blk_cell BK182.out 2).trans rfl; have hcz13_3 : w10.cell? ⟨gb182, 3, none⟩ = some (.slice A1_3 l1_3.length c1_3) := (blk_cell BK182.out 3).trans rfl; have hfz13_0 := blk_frozen BK182.out 0; have hfz13_1 := blk_frozen BK182.out 1; have hfz13_2 := blk_frozen BK182.out 2; have hfz13_3 := blk_frozen BK182.out 3) | ((with_reducible refine gate_callee (f := 58) rfl ?_); refine goesL_ (some 19) rfl rfl Tryd.func58 (by kernel_rfl) rfl #[.slice A0_2 l0_2.length c0_2, .slice A1_2 l1_2.length c1_2] rfl ob_ ?_; (with_reducible refine (laws_eqIntS.calls k _ _ l0_2 _ _ l1_2 true _ ?side1 ?side2 ?side3 ?side4 A5.out).mono ?_); (case side1 => exact kc_ (Kd.C_below HR0_2.out HB.out)); (case side2 => exact HC0_2.out); (case side3 => exact kc_ (Kd.C_below HR1_2.out HB.out)); (case side4 => exact HC1_2.out); rintro e w' ⟨rfl, ⟨nd, rfl⟩⟩; refine ⟨_, rfl, ?_⟩) | ((with_reducible refine gate_callee (f := 58) rfl ?_); refine goesL_ (some 25) rfl rfl Tryd.func58 (by kernel_rfl) rfl #[.slice A0_3 l0_3.length c0_3, .slice A1_3 l1_3.length c1_3] rfl ob_ ?_; (with_reducible refine (laws_eqIntS.calls k _ _ l0_3 _ _ l1_3 true _ ?side1 ?side2 ?side3 ?side4 A7.out).mono ?_); (case side1 => repeat (first | exact (Kd.C_below HR0_3.out (bl2_ HB.out GE181.out GE182.out)) | (with_reducible refine Kd.C_alloc ?_ _) | (with_reducible refine Kd.C_drewN ?_ _) | (with_reducible refine Kd.C_drew ?_))); (case side2 => exact HC0_3.out); (case side3 => repeat (first | exact (Kd.C_below HR1_3.out (bl2_ HB.out GE181.out GE182.out)) | (with_reducible refine Kd.C_alloc ?_ _) | (with_reducible refine Kd.C_drewN ?_ _) | (with_reducible refine Kd.C_drew ?_))); (case side4 => exact HC1_3.out); rintro e w' ⟨rfl, ⟨nd, rfl⟩⟩; refine ⟨_, rfl, ?_⟩))
     go_ret
     exact ⟨er_, bl2_ HB.out GE181.out GE182.out⟩
    ·replace c8 := Bool.eq_false_iff.mpr c8
     subst c8
     have H1 : (some false) = some r := by rw [if_neg (show ¬ (false = true) by decide)] at H; exact H
     clear H
     have H := H1
     clear H1
     obtain rfl := Option.some.inj H
     go_enter Tryd.func23, Tryd.ntmps23
     go_wp2_with (first | ((with_reducible refine gate_dst (N := 2) rfl ?_); refine boxE_ (N := 2) (cs := #[.int .i64 a0_0, .int .i64 a0_1, .slice A0_2 l0_2.length c0_2, .slice A0_3 l0_3.length c0_3]) (t := 36) ?_; intro gb181 hg w14 hbox hb; have n0_ := Aside0.mk (below_step (bl0_ HB.out) hb); have n1_ := Aside0.mk (hbox); have n2_ := Aside0.mk ((bs0_ hg HB.out : w.heap.size ≤ gb181)); have n3_ := Aside0.mk ((bs0_ hg HB.out : w.heap.size ≤ gb181)); clear HB; have HB := n0_; have BK181 := n1_; have GW181 := n2_; have GE181 := n3_; clear n0_ n1_ n2_ n3_; clear hb hbox hg) | ((with_reducible refine gate_dst (N := 3) rfl ?_); refine boxE_ (N := 3) (cs := #[.int .i64 a1_0, .int .i64 a1_1, .slice A1_2 l1_2.length c1_2, .slice A1_3 l1_3.length c1_3]) (t := 36) ?_; intro gb182 hg w15 hbox hb; have n0_ := Aside0.mk (bb_ BK181.out hb); have n1_ := Aside0.mk (below_step (bl1_ HB.out GE181.out) hb); have n2_ := Aside0.mk (hbox); have n3_ := Aside0.mk ((bs1_ hg HB.out GE181.out : w.heap.size ≤ gb182)); have n4_ := Aside0.mk ((bs1_ hg HB.out GE181.out : w.heap.size ≤ gb182)); have n5_ := Aside0.mk ((nl_ hg BK181.out : gb181 ≠ gb182)); have n6_ := Aside0.mk ((ng_ hg BK181.out : gb182 ≠ gb181)); clear BK181; clear HB; have BK181 := n0_; have HB := n1_; have BK182 := n2_; have GW182 := n3_; have GE182 := n4_; have NB181_182 := n5_; have NB182_181 := n6_; clear n0_ n1_ n2_ n3_ n4_ n5_ n6_; clear hb hbox hg; have hnb16 := NB181_182.out; have hnc16 := NB182_181.out; have hcz17_0 : w15.cell? ⟨gb181, 0, none⟩ = some (.int .i64 a0_0) := (blk_cell BK181.out 0).trans rfl; have hcz17_1 : w15.cell? ⟨gb181, 1, none⟩ = some (.int .i64 a0_1) := (blk_cell BK181.out 1).trans rfl; have hcz17_2 : w15.cell? ⟨gb181, 2, none⟩ = some (.slice A0_2 l0_2.length c0_2) := (blk_cell BK181.out 2).trans rfl; have hcz17_3 : w15.cell? ⟨gb181, 3, none⟩ = some (.slice A0_3 l0_3.length c0_3) := (blk_cell BK181.out 3).trans rfl; have hfz17_0 := blk_frozen BK181.out 0; have hfz17_1 := blk_frozen BK181.out 1; have hfz17_2 := blk_frozen BK181.out 2; have hfz17_3 := blk_frozen BK181.out 3; have hcz18_0 : w15.cell? ⟨gb182, 0, none⟩ = some (.int .i64 a1_0) := (blk_cell BK182.out 0).trans rfl; have hcz18_1 : w15.cell? ⟨gb182, 1, none⟩ = some (.int .i64 a1_1) := (blk_cell BK182.out 1).trans rfl; have hcz18_2 : w15.cell? ⟨gb182, 2, none⟩ = some (.slice A1_2 l1_2.length c1_2) := (blk_cell BK182.out 2).trans rfl; have hcz18_3 : w15.cell? ⟨gb182, 3, none⟩ = some (.slice A1_3 l1_3.length c1_3) := (blk_cell BK182.out 3).trans rfl; have hfz18_0 := blk_frozen BK182.out 0; have hfz18_1 := blk_frozen BK182.out 1; have hfz18_2 := blk_frozen BK182.out 2; have hfz18_3 := blk_frozen BK182.out 3) | ((with_reducible refine gate_callee (f := 58) rfl ?_); refine goesL_ (some 19) rfl rfl Tryd.func58 (by kernel_rfl) rfl #[.slice A0_2 l0_2.length c0_2, .slice A1_2 l1_2.length c1_2] rfl ob_ ?_; (with_reducible refine (laws_eqIntS.calls k _ _ l0_2 _ _ l1_2 true _ ?side1 ?side2 ?side3 ?side4 A5.out).mono ?_); (case side1 => exact kc_ (Kd.C_below HR0_2.out HB.out)); (case side2 => exact HC0_2.out); (case side3 => exact kc_ (Kd.C_below HR1_2.out HB.out)); (case side4 => exact HC1_2.out); rintro e w' ⟨rfl, ⟨nd, rfl⟩⟩; refine ⟨_, rfl, ?_⟩) | ((with_reducible refine gate_callee (f := 58) rfl ?_); refine goesL_ (some 25) rfl rfl Tryd.func58 (by kernel_rfl) rfl #[.slice A0_3 l0_3.length c0_3, .slice A1_3 l1_3.length c1_3] rfl ob_ ?_; (with_reducible refine (laws_eqIntS.calls k _ _ l0_3 _ _ l1_3 false _ ?side1 ?side2 ?side3 ?side4 A7.out).mono ?_); (case side1 => repeat (first | exact (Kd.C_below HR0_3.out (bl2_ HB.out GE181.out GE182.out)) | (with_reducible refine Kd.C_alloc ?_ _) | (with_reducible refine Kd.C_drewN ?_ _) | (with_reducible refine Kd.C_drew ?_))); (case side2 => exact HC0_3.out); (case side3 => repeat (first | exact (Kd.C_below HR1_3.out (bl2_ HB.out GE181.out GE182.out)) | (with_reducible refine Kd.C_alloc ?_ _) | (with_reducible refine Kd.C_drewN ?_ _) | (with_reducible refine Kd.C_drew ?_))); (case side4 => exact HC1_3.out); rintro e w' ⟨rfl, ⟨nd, rfl⟩⟩; refine ⟨_, rfl, ?_⟩))
     go_ret
     exact ⟨er_, bl2_ HB.out GE181.out GE182.out⟩
   ·replace c6 := Bool.eq_false_iff.mpr c6
    subst c6
    have H1 : (some false) = some r := by rw [if_neg (show ¬ (false = true) by decide)] at H; exact H
    clear H
    have H := H1
    clear H1
    obtain rfl := Option.some.inj H
    go_enter Tryd.func23, Tryd.ntmps23
    go_wp2_with (first | ((with_reducible refine gate_dst (N := 2) rfl ?_); refine boxE_ (N := 2) (cs := #[.int .i64 a0_0, .int .i64 a0_1, .slice A0_2 l0_2.length c0_2, .slice A0_3 l0_3.length c0_3]) (t := 36) ?_; intro gb181 hg w19 hbox hb; have n0_ := Aside0.mk (below_step (bl0_ HB.out) hb); have n1_ := Aside0.mk (hbox); have n2_ := Aside0.mk ((bs0_ hg HB.out : w.heap.size ≤ gb181)); have n3_ := Aside0.mk ((bs0_ hg HB.out : w.heap.size ≤ gb181)); clear HB; have HB := n0_; have BK181 := n1_; have GW181 := n2_; have GE181 := n3_; clear n0_ n1_ n2_ n3_; clear hb hbox hg) | ((with_reducible refine gate_dst (N := 3) rfl ?_); refine boxE_ (N := 3) (cs := #[.int .i64 a1_0, .int .i64 a1_1, .slice A1_2 l1_2.length c1_2, .slice A1_3 l1_3.length c1_3]) (t := 36) ?_; intro gb182 hg w20 hbox hb; have n0_ := Aside0.mk (bb_ BK181.out hb); have n1_ := Aside0.mk (below_step (bl1_ HB.out GE181.out) hb); have n2_ := Aside0.mk (hbox); have n3_ := Aside0.mk ((bs1_ hg HB.out GE181.out : w.heap.size ≤ gb182)); have n4_ := Aside0.mk ((bs1_ hg HB.out GE181.out : w.heap.size ≤ gb182)); have n5_ := Aside0.mk ((nl_ hg BK181.out : gb181 ≠ gb182)); have n6_ := Aside0.mk ((ng_ hg BK181.out : gb182 ≠ gb181)); clear BK181; clear HB; have BK181 := n0_; have HB := n1_; have BK182 := n2_; have GW182 := n3_; have GE182 := n4_; have NB181_182 := n5_; have NB182_181 := n6_; clear n0_ n1_ n2_ n3_ n4_ n5_ n6_; clear hb hbox hg; have hnb21 := NB181_182.out; have hnc21 := NB182_181.out; have hcz22_0 : w20.cell? ⟨gb181, 0, none⟩ = some (.int .i64 a0_0) := (blk_cell BK181.out 0).trans rfl; have hcz22_1 : w20.cell? ⟨gb181, 1, none⟩ = some (.int .i64 a0_1) := (blk_cell BK181.out 1).trans rfl; have hcz22_2 : w20.cell? ⟨gb181, 2, none⟩ = some (.slice A0_2 l0_2.length c0_2) := (blk_cell BK181.out 2).trans rfl; have hcz22_3 : w20.cell? ⟨gb181, 3, none⟩ = some (.slice A0_3 l0_3.length c0_3) := (blk_cell BK181.out 3).trans rfl; have hfz22_0 := blk_frozen BK181.out 0; have hfz22_1 := blk_frozen BK181.out 1; have hfz22_2 := blk_frozen BK181.out 2; have hfz22_3 := blk_frozen BK181.out 3; have hcz23_0 : w20.cell? ⟨gb182, 0, none⟩ = some (.int .i64 a1_0) := (blk_cell BK182.out 0).trans rfl; have hcz23_1 : w20.cell? ⟨gb182, 1, none⟩ = some (.int .i64 a1_1) := (blk_cell BK182.out 1).trans rfl; have hcz23_2 : w20.cell? ⟨gb182, 2, none⟩ = some (.slice A1_2 l1_2.length c1_2) := (blk_cell BK182.out 2).trans rfl; have hcz23_3 : w20.cell? ⟨gb182, 3, none⟩ = some (.slice A1_3 l1_3.length c1_3) := (blk_cell BK182.out 3).trans rfl; have hfz23_0 := blk_frozen BK182.out 0; have hfz23_1 := blk_frozen BK182.out 1; have hfz23_2 := blk_frozen BK182.out 2; have hfz23_3 := blk_frozen BK182.out 3) | ((with_reducible refine gate_callee (f := 58) rfl ?_); refine goesL_ (some 19) rfl rfl Tryd.func58 (by kernel_rfl) rfl #[.slice A0_2 l0_2.length c0_2, .slice A1_2 l1_2.length c1_2] rfl ob_ ?_; (with_reducible refine (laws_eqIntS.calls k _ _ l0_2 _ _ l1_2 false _ ?side1 ?side2 ?side3 ?side4 A5.out).mono ?_); (case side1 => exact kc_ (Kd.C_below HR0_2.out HB.out)); (case side2 => exact HC0_2.out); (case side3 => exact kc_ (Kd.C_below HR1_2.out HB.out)); (case side4 => exact HC1_2.out); rintro e w' ⟨rfl, ⟨nd, rfl⟩⟩; refine ⟨_, rfl, ?_⟩))
    go_ret
    exact ⟨er_, bl2_ HB.out GE181.out GE182.out⟩
  ·rw [if_neg c4] at H
   have c4b0 : (a0_1 == a1_1) = false := beq_eq_false_iff_ne.mpr c4
   have c4b1 : (a0_1 != a1_1) = true := bne_iff_ne.mpr c4
   obtain rfl := Option.some.inj H
   go_enter Tryd.func23, Tryd.ntmps23
   go_wp2_with (first | ((with_reducible refine gate_dst (N := 2) rfl ?_); refine boxE_ (N := 2) (cs := #[.int .i64 a0_0, .int .i64 a0_1, .slice A0_2 l0_2.length c0_2, .slice A0_3 l0_3.length c0_3]) (t := 36) ?_; intro gb181 hg w24 hbox hb; have n0_ := Aside0.mk (below_step (bl0_ HB.out) hb); have n1_ := Aside0.mk (hbox); have n2_ := Aside0.mk ((bs0_ hg HB.out : w.heap.size ≤ gb181)); have n3_ := Aside0.mk ((bs0_ hg HB.out : w.heap.size ≤ gb181)); clear HB; have HB := n0_; have BK181 := n1_; have GW181 := n2_; have GE181 := n3_; clear n0_ n1_ n2_ n3_; clear hb hbox hg) | ((with_reducible refine gate_dst (N := 3) rfl ?_); refine boxE_ (N := 3) (cs := #[.int .i64 a1_0, .int .i64 a1_1, .slice A1_2 l1_2.length c1_2, .slice A1_3 l1_3.length c1_3]) (t := 36) ?_; intro gb182 hg w25 hbox hb; have n0_ := Aside0.mk (bb_ BK181.out hb); have n1_ := Aside0.mk (below_step (bl1_ HB.out GE181.out) hb); have n2_ := Aside0.mk (hbox); have n3_ := Aside0.mk ((bs1_ hg HB.out GE181.out : w.heap.size ≤ gb182)); have n4_ := Aside0.mk ((bs1_ hg HB.out GE181.out : w.heap.size ≤ gb182)); have n5_ := Aside0.mk ((nl_ hg BK181.out : gb181 ≠ gb182)); have n6_ := Aside0.mk ((ng_ hg BK181.out : gb182 ≠ gb181)); clear BK181; clear HB; have BK181 := n0_; have HB := n1_; have BK182 := n2_; have GW182 := n3_; have GE182 := n4_; have NB181_182 := n5_; have NB182_181 := n6_; clear n0_ n1_ n2_ n3_ n4_ n5_ n6_; clear hb hbox hg; have hnb26 := NB181_182.out; have hnc26 := NB182_181.out; have hcz27_0 : w25.cell? ⟨gb181, 0, none⟩ = some (.int .i64 a0_0) := (blk_cell BK181.out 0).trans rfl; have hcz27_1 : w25.cell? ⟨gb181, 1, none⟩ = some (.int .i64 a0_1) := (blk_cell BK181.out 1).trans rfl; have hcz27_2 : w25.cell? ⟨gb181, 2, none⟩ = some (.slice A0_2 l0_2.length c0_2) := (blk_cell BK181.out 2).trans rfl; have hcz27_3 : w25.cell? ⟨gb181, 3, none⟩ = some (.slice A0_3 l0_3.length c0_3) := (blk_cell BK181.out 3).trans rfl; have hfz27_0 := blk_frozen BK181.out 0; have hfz27_1 := blk_frozen BK181.out 1; have hfz27_2 := blk_frozen BK181.out 2; have hfz27_3 := blk_frozen BK181.out 3; have hcz28_0 : w25.cell? ⟨gb182, 0, none⟩ = some (.int .i64 a1_0) := (blk_cell BK182.out 0).trans rfl; have hcz28_1 : w25.cell? ⟨gb182, 1, none⟩ = some (.int .i64 a1_1) := (blk_cell BK182.out 1).trans rfl; have hcz28_2 : w25.cell? ⟨gb182, 2, none⟩ = some (.slice A1_2 l1_2.length c1_2) := (blk_cell BK182.out 2).trans rfl; have hcz28_3 : w25.cell? ⟨gb182, 3, none⟩ = some (.slice A1_3 l1_3.length c1_3) := (blk_cell BK182.out 3).trans rfl; have hfz28_0 := blk_frozen BK182.out 0; have hfz28_1 := blk_frozen BK182.out 1; have hfz28_2 := blk_frozen BK182.out 2; have hfz28_3 := blk_frozen BK182.out 3))
   go_ret
   exact ⟨er_, bl2_ HB.out GE181.out GE182.out⟩
 ·rw [if_neg c3] at H
  have c3b0 : (a0_0 == a1_0) = false := beq_eq_false_iff_ne.mpr c3
  have c3b1 : (a0_0 != a1_0) = true := bne_iff_ne.mpr c3
  obtain rfl := Option.some.inj H
  go_enter Tryd.func23, Tryd.ntmps23
  go_wp2_with (first | ((with_reducible refine gate_dst (N := 2) rfl ?_); refine boxE_ (N := 2) (cs := #[.int .i64 a0_0, .int .i64 a0_1, .slice A0_2 l0_2.length c0_2, .slice A0_3 l0_3.length c0_3]) (t := 36) ?_; intro gb181 hg w29 hbox hb; have n0_ := Aside0.mk (below_step (bl0_ HB.out) hb); have n1_ := Aside0.mk (hbox); have n2_ := Aside0.mk ((bs0_ hg HB.out : w.heap.size ≤ gb181)); have n3_ := Aside0.mk ((bs0_ hg HB.out : w.heap.size ≤ gb181)); clear HB; have HB := n0_; have BK181 := n1_; have GW181 := n2_; have GE181 := n3_; clear n0_ n1_ n2_ n3_; clear hb hbox hg) | ((with_reducible refine gate_dst (N := 3) rfl ?_); refine boxE_ (N := 3) (cs := #[.int .i64 a1_0, .int .i64 a1_1, .slice A1_2 l1_2.length c1_2, .slice A1_3 l1_3.length c1_3]) (t := 36) ?_; intro gb182 hg w30 hbox hb; have n0_ := Aside0.mk (bb_ BK181.out hb); have n1_ := Aside0.mk (below_step (bl1_ HB.out GE181.out) hb); have n2_ := Aside0.mk (hbox); have n3_ := Aside0.mk ((bs1_ hg HB.out GE181.out : w.heap.size ≤ gb182)); have n4_ := Aside0.mk ((bs1_ hg HB.out GE181.out : w.heap.size ≤ gb182)); have n5_ := Aside0.mk ((nl_ hg BK181.out : gb181 ≠ gb182)); have n6_ := Aside0.mk ((ng_ hg BK181.out : gb182 ≠ gb181)); clear BK181; clear HB; have BK181 := n0_; have HB := n1_; have BK182 := n2_; have GW182 := n3_; have GE182 := n4_; have NB181_182 := n5_; have NB182_181 := n6_; clear n0_ n1_ n2_ n3_ n4_ n5_ n6_; clear hb hbox hg; have hnb31 := NB181_182.out; have hnc31 := NB182_181.out; have hcz32_0 : w30.cell? ⟨gb181, 0, none⟩ = some (.int .i64 a0_0) := (blk_cell BK181.out 0).trans rfl; have hcz32_1 : w30.cell? ⟨gb181, 1, none⟩ = some (.int .i64 a0_1) := (blk_cell BK181.out 1).trans rfl; have hcz32_2 : w30.cell? ⟨gb181, 2, none⟩ = some (.slice A0_2 l0_2.length c0_2) := (blk_cell BK181.out 2).trans rfl; have hcz32_3 : w30.cell? ⟨gb181, 3, none⟩ = some (.slice A0_3 l0_3.length c0_3) := (blk_cell BK181.out 3).trans rfl; have hfz32_0 := blk_frozen BK181.out 0; have hfz32_1 := blk_frozen BK181.out 1; have hfz32_2 := blk_frozen BK181.out 2; have hfz32_3 := blk_frozen BK181.out 3; have hcz33_0 : w30.cell? ⟨gb182, 0, none⟩ = some (.int .i64 a1_0) := (blk_cell BK182.out 0).trans rfl; have hcz33_1 : w30.cell? ⟨gb182, 1, none⟩ = some (.int .i64 a1_1) := (blk_cell BK182.out 1).trans rfl; have hcz33_2 : w30.cell? ⟨gb182, 2, none⟩ = some (.slice A1_2 l1_2.length c1_2) := (blk_cell BK182.out 2).trans rfl; have hcz33_3 : w30.cell? ⟨gb182, 3, none⟩ = some (.slice A1_3 l1_3.length c1_3) := (blk_cell BK182.out 3).trans rfl; have hfz33_0 := blk_frozen BK182.out 0; have hfz33_1 := blk_frozen BK182.out 1; have hfz33_2 := blk_frozen BK182.out 2; have hfz33_3 := blk_frozen BK182.out 3))
  go_ret
  exact ⟨er_, bl2_ HB.out GE181.out GE182.out⟩


def laws_markIntS.l0 : Nat → List Int → Int → Int → Option (Int × List Int)
 | 0, _, _, _ => none
 | k + 1, x0, x1, x5 => if x5 < (x0.length : Int) then (if 0 ≤ x5 then (laws_markIntS.l0 k (x0.set (x5 : Int).toNat x1) (wrap64 (x1 + 1)) (wrap64 (x5 + 1))) else (none)) else (some (x1, x0))
def laws_markIntS.f (k : Nat) (l0 : List Int) (a1 : Int) : Option (Int × List Int) := laws_markIntS.l0 k l0 a1 0
theorem laws_markIntS.mono_l : ∀ k, (∀ y0 y1 y2, LeO (laws_markIntS.l0 k y0 y1 y2) (laws_markIntS.l0 (k + 1) y0 y1 y2))
 | 0 => fun _ _ _ r h => by simp [laws_markIntS.l0] at h
 | k + 1 => by
  have ih0 := laws_markIntS.mono_l k
  ·intro y0 y1 y2
   unfold laws_markIntS.l0
   repeat' first
   | (with_reducible exact ih0 _ _ _)
   | (with_reducible exact LeO.refl _)
   | (with_reducible exact LeO.none _)
   | (with_reducible refine LeO.ite ?_ ?_)
   | (with_reducible refine LeO.bind ?_ (fun _ => ?_))
   | exact ih0 _ _ _
   | exact LeO.none _
   | refine LeO.ite ?_ ?_
   | refine LeO.bind ?_ (fun _ => ?_)
theorem laws_markIntS.mono : ∀ a0 a1 k, LeO (laws_markIntS.f k a0 a1) (laws_markIntS.f (k + 1) a0 a1) := by
 intro a0 a1 k
 have ih0 := laws_markIntS.mono_l k
 unfold laws_markIntS.f
 repeat' first
   | (with_reducible exact ih0 _ _ _)
   | (with_reducible exact LeO.refl _)
   | (with_reducible exact LeO.none _)
   | (with_reducible refine LeO.ite ?_ ?_)
   | (with_reducible refine LeO.bind ?_ (fun _ => ?_))
   | exact ih0 _ _ _
   | exact LeO.none _
   | refine LeO.ite ?_ ?_
   | refine LeO.bind ?_ (fun _ => ?_)
set_option maxHeartbeats 8000000 in
set_option maxRecDepth 100000 in
theorem laws_markIntS.calls (k : Nat) (P0_ : Nat → Prop) (u9000_ : Value) (l0 : List Int) (a1 : Int) (r1 : Int) (r2 : List Int) (w0 w : World) (hB : Below w0.heap.size w0 w) (ho0 : Kd.R (Kd.int .i64) 3 w w0.heap.size P0_ u9000_ l0) (h : laws_markIntS.f k l0 a1 = some (r1, r2)) :
  Calls Tryd.prog 59 #[u9000_, .int .i64 a1] w fun e w' => e = .returned (.int .i64 r1) ∧ Kd.R (Kd.int .i64) 3 w' w0.heap.size (fun k_ => (P0_ k_ ∨ w.heap.size ≤ k_)) u9000_ r2 ∧ Below w0.heap.size w0 w' ∧ Kept w w' (fun k_ => P0_ k_) := by
 have HO0 := Aside0.mk (show Kd.R (Kd.int .i64) 3 w w0.heap.size (fun k_ => (P0_ k_ ∨ w.heap.size ≤ k_)) u9000_ l0 from Kd.R_mono ho0 (fun k_ hk => (.inl hk)))
 have HK := Aside0.mk (Kept.refl w (fun k_ => P0_ k_))
 have HW0 := Aside0.mk hB.size
 have HB := Aside0.mk hB
 clear hB
 have H : (laws_markIntS.l0 k l0 a1 0) = some (r1, r2) := h
 clear h
 have H' := Aside0.mk H
 clear H
 go_enter Tryd.func59, Tryd.ntmps59
 go_wp2
 go_loopg [1, 5] k (fun kq v1 v5 w' => ∃ (x0_1 : List Int) (x1_1 : Int) (x5_1 : Int), v1 = .int .i64 x1_1 ∧ v5 = .int .i64 x5_1 ∧ Aside0 (laws_markIntS.l0 kq x0_1 x1_1 x5_1 = some (r1, r2)) ∧ Aside0 (kq ≤ k) ∧ Aside0 (Kd.R (Kd.int .i64) 3 w' w0.heap.size (fun k_ => (P0_ k_ ∨ w.heap.size ≤ k_)) u9000_ x0_1) ∧ Aside0 (Kept w w' (fun k_ => P0_ k_)) ∧ Aside0 (Below w0.heap.size w0 w'))
 case atStart => exact ⟨(l0), (a1), (0), rs_, rs_, H', ⟨Nat.le_refl _⟩, ⟨kr_ HO0.out⟩, ⟨by repeat (first | (with_reducible first | exact HK.out | apply Kept.alloc | apply Kept.drewN | apply Kept.drew) | exact HK.out)⟩, ⟨bl0_ HB.out⟩⟩
 case round =>
  clear H'
  try clear p2
  obtain ⟨x0_1, x1_1, x5_1, rfl, rfl, HA, HK1, HO_0, HK, HB⟩ := hrel
  cases gk with
  | zero => exact absurd HA.out (by simp [laws_markIntS.l0])
  | succ k1 =>
   have H := HA.out
   clear HA
   simp only [laws_markIntS.l0] at H
   by_cases c3 : x5_1 < (x0_1.length : Int)
   ·rw [if_pos c3] at H
    have c3b0 : decide (x5_1 < (x0_1.length : Int)) = true := decide_eq_true c3
    clear c3
    by_cases c4 : 0 ≤ x5_1
    ·rw [if_pos c4] at H
     have c4b0 : decide (0 ≤ x5_1) = true := decide_eq_true c4
     clear c4
     obtain ⟨y185, hy185⟩ : ∃ y_ : List Int, y_ = (x0_1.set (x5_1 : Int).toNat x1_1) := ⟨_, rfl⟩
     replace H : (laws_markIntS.l0 k1 y185 (wrap64 (x1_1 + 1)) (wrap64 (x5_1 + 1))) = some (r1, r2) := by first | (rw [hy185]; with_reducible exact H) | (have H2_ := (Option.bind_some _ _).symm.trans H; rw [hy185]; with_reducible exact H2_) | (have H2_ := (Option.bind_some _ _).symm.trans H; with_reducible exact H2_) | with_reducible exact H | (rw [hy185]; exact H) | exact H
     have Ny185 := Aside0.mk hy185
     clear hy185
     have H' := Aside0.mk H
     clear H
     obtain ⟨Ao6, co6, eo6⟩ := Kd.R_slice HO_0.out
     subst eo6
     have p5 : 0 ≤ (x5_1 : Int) := of_decide_eq_true as_
     have q5 : (x5_1 : Int) < ((x0_1.length : Int) : Int) := of_decide_eq_true as_
     obtain ⟨go5, co5, eo5, gb5, gl5, cl5, HG5⟩ := Kd.R_form HO_0.out (by omega)
     (first | cases eo5 | (injection eo5 with ea_ en_ ec_; (first | subst ea_ | (injection ea_ with ea_; subst ea_)); subst ec_; clear en_))
     have GB5 := Aside0.mk gb5
     have GG5 := Aside0.mk HG5
     clear gb5 gl5 HG5
     have HMgo5 := Aside0.mk (show (P0_ go5 ∨ w.heap.size ≤ go5) from (HO_0.out.1 _ rfl))
     obtain ⟨hx5_0, hf5_0⟩ := Kd.R_celln 0 HO_0.out (x5_1 : Int) p5 q5
     replace p5 := eq_true p5
     replace q5 := eq_true q5
     have HP7 := Kd.R_putg HO_0.out (x5_1 : Int) x1_1
     go_wp2_with (first | ((with_reducible refine gate_store (t := 3) (p := 15) rfl ?_); refine store_event (t := 3) (p := 15) (v := ?vo_w8) (w1 := (wr.setCell ⟨go5, (x5_1 : Int).toNat, none⟩ (.int .i64 x1_1))) ?hg ?ho ?hn ?hr ?_; (case ho => rfl); (case hg => rfl); (case hn => rfl); (case hr => first | (go_simp; done) | (go_simp; rfl)); intro w8 hw; have hg : wr.grownBy w8 (some go5) := (by rw [hw]; exact HP7.2); have hp_ : Kd.R (Kd.int .i64) 3 w8 w0.heap.size (fun k_ => (P0_ k_ ∨ w.heap.size ≤ k_)) (.slice (some ⟨go5, 0, none⟩) x0_1.length co6) y185 := (by rw [hw, Ny185.out]; exact HP7.1); clear HP7; have n0_ := Aside0.mk (hp_); have n1_ := Aside0.mk ((by rw [hw]; exact below_set (HB.out) GB5.out : Below w0.heap.size w0 w8)); have n2_ := Aside0.mk (Kept.of_grown (S := (fun k_ => P0_ k_)) hg (by repeat (first | (with_reducible first | exact HK.out | apply Kept.alloc | apply Kept.drewN | apply Kept.drew) | exact HK.out)) (fun k_ e_ => (HO_0.out.1 k_ e_))); clear HO_0; clear HB; clear HK; have HO_0 := n0_; have HB := n1_; have HK := n2_; clear n0_ n1_ n2_; clear hg hw hp_))
     go_roundg k1
     case measure => have := HK1.out; omega
     case rel => exact ⟨(y185), (wrap64 (x1_1 + 1)), (wrap64 (x5_1 + 1)), rs_, rs_, H', ⟨by have := HK1.out; omega⟩, ⟨kr_ HO_0.out⟩, ⟨by repeat (first | (with_reducible first | exact HK.out | apply Kept.alloc | apply Kept.drewN | apply Kept.drew) | exact HK.out)⟩, ⟨bl0_ HB.out⟩⟩
    ·rw [if_neg c4] at H
     exact absurd H (by simp)
   ·rw [if_neg c3] at H
    have c3b0 : decide (x5_1 < (x0_1.length : Int)) = false := decide_eq_false c3
    clear c3
    simp only [Option.some.injEq, Prod.mk.injEq] at H
    obtain ⟨rfl, rfl⟩ := H
    obtain ⟨Ao9, co9, eo9⟩ := Kd.R_slice HO_0.out
    subst eo9
    go_wp2
    go_ret
    exact ⟨er_, by (with_reducible repeat (first | apply Kd.R_alloc | apply Kd.R_drewN | apply Kd.R_drew)); exact HO_0.out, bl0_ HB.out, by repeat (first | (with_reducible first | exact HK.out | apply Kept.alloc | apply Kept.drewN | apply Kept.drew) | exact HK.out)⟩


def laws_markFigure.f (k : Nat) (a0_0 : Int) (a0_1 : Int) (l0_2 : List Int) (l0_3 : List Int) (a1 : Int) : Option (Int × List Int × List Int) := (laws_markIntS.f k l0_2 a1).bind fun bt187 => ((laws_markIntS.f k l0_3 bt187.1).bind fun bt189 => (some (bt189.1, bt187.2, bt189.2)))
theorem laws_markFigure.mono : ∀ a0 a1 a2 a3 a4 k, LeO (laws_markFigure.f k a0 a1 a2 a3 a4) (laws_markFigure.f (k + 1) a0 a1 a2 a3 a4) := by
 intro a0 a1 a2 a3 a4 k
 unfold laws_markFigure.f
 repeat' first
   | (with_reducible exact laws_markIntS.mono _ _ _)
   | (with_reducible exact LeO.refl _)
   | (with_reducible exact LeO.none _)
   | (with_reducible refine LeO.ite ?_ ?_)
   | (with_reducible refine LeO.bind ?_ (fun _ => ?_))
   | exact laws_markIntS.mono _ _ _
   | exact LeO.none _
   | refine LeO.ite ?_ ?_
   | refine LeO.bind ?_ (fun _ => ?_)
set_option maxHeartbeats 8000000 in
set_option maxRecDepth 100000 in
theorem laws_markFigure.calls (k : Nat) (a0_0 : Int) (a0_1 : Int) (P0_2_ : Nat → Prop) (u9000_ : Value) (l0_2 : List Int) (P0_3_ : Nat → Prop) (u9001_ : Value) (l0_3 : List Int) (a1 : Int) (r1 : Int) (r2 : List Int) (r3 : List Int) (w0 w : World) (hB : Below w0.heap.size w0 w) (ho0_2 : Kd.R (Kd.int .i64) 3 w w0.heap.size P0_2_ u9000_ l0_2) (hp0_2_0_3 : ∀ k_, P0_2_ k_ → ¬ P0_3_ k_) (ho0_3 : Kd.R (Kd.int .i64) 3 w w0.heap.size P0_3_ u9001_ l0_3) (hp0_3_0_2 : ∀ k_, P0_3_ k_ → ¬ P0_2_ k_) (h : laws_markFigure.f k a0_0 a0_1 l0_2 l0_3 a1 = some (r1, r2, r3)) :
  Calls Tryd.prog 24 #[.agg #[.int .i64 a0_0, .int .i64 a0_1, u9000_, u9001_], .int .i64 a1] w fun e w' => e = .returned (.int .i64 r1) ∧ Kd.R (Kd.int .i64) 3 w' w0.heap.size (fun k_ => ((P0_2_ k_ ∨ P0_3_ k_) ∨ w.heap.size ≤ k_)) u9000_ r2 ∧ Kd.R (Kd.int .i64) 3 w' w0.heap.size (fun k_ => ((P0_2_ k_ ∨ P0_3_ k_) ∨ w.heap.size ≤ k_)) u9001_ r3 ∧ Below w0.heap.size w0 w' ∧ Kept w w' (fun k_ => P0_2_ k_ ∨ P0_3_ k_) := by
 have hu36 := Tryd.underlying36
 have HO0_2 := Aside0.mk (show Kd.R (Kd.int .i64) 3 w w0.heap.size (fun k_ => ((P0_2_ k_ ∨ P0_3_ k_) ∨ w.heap.size ≤ k_) ∧ some k_ ≠ (u9001_ : Value).ownBlock) u9000_ l0_2 from Kd.R_mono ho0_2 (fun k_ hk => ⟨(.inl (.inl hk)), fun e_ => hp0_2_0_3 k_ hk (ho0_3.1 k_ e_.symm)⟩))
 have HO0_3 := Aside0.mk (show Kd.R (Kd.int .i64) 3 w w0.heap.size (fun k_ => ((P0_2_ k_ ∨ P0_3_ k_) ∨ w.heap.size ≤ k_) ∧ some k_ ≠ (u9000_ : Value).ownBlock) u9001_ l0_3 from Kd.R_mono ho0_3 (fun k_ hk => ⟨(.inl (.inr hk)), fun e_ => hp0_3_0_2 k_ hk (ho0_2.1 k_ e_.symm)⟩))
 have HK := Aside0.mk (Kept.refl w (fun k_ => P0_2_ k_ ∨ P0_3_ k_))
 have HW0 := Aside0.mk hB.size
 have HB := Aside0.mk hB
 clear hB
 have H : ((laws_markIntS.f k l0_2 a1).bind fun bt187 => ((laws_markIntS.f k l0_3 bt187.1).bind fun bt189 => (some (bt189.1, bt187.2, bt189.2)))) = some (r1, r2, r3) := h
 clear h
 replace H := Option.bind_eq_some_iff.mp H
 obtain ⟨⟨t187, t188⟩, A30, H⟩ := H
 replace H : ((laws_markIntS.f k l0_3 t187).bind fun bt189 => (some (bt189.1, t188, bt189.2))) = some (r1, r2, r3) := H
 have A3 := Aside0.mk A30
 clear A30
 replace H := Option.bind_eq_some_iff.mp H
 obtain ⟨⟨t189, t190⟩, A40, H⟩ := H
 replace H : (some (t189, t188, t190)) = some (r1, r2, r3) := H
 have A4 := Aside0.mk A40
 clear A40
 simp only [Option.some.injEq, Prod.mk.injEq] at H
 obtain ⟨rfl, rfl, rfl⟩ := H
 obtain ⟨Ao5, co5, eo5⟩ := Kd.R_slice HO0_2.out
 subst eo5
 obtain ⟨Ao6, co6, eo6⟩ := Kd.R_slice HO0_3.out
 subst eo6
 go_enter Tryd.func24, Tryd.ntmps24
 go_wp2_with (first | ((with_reducible refine gate_dst (N := 2) rfl ?_); refine boxE_ (N := 2) (cs := #[.int .i64 a0_0, .int .i64 a0_1, .slice Ao5 l0_2.length co5, .slice Ao6 l0_3.length co6]) (t := 36) ?_; intro gb186 hg w7 hbox hb; have n0_ := Aside0.mk (Kd.R_below (kr_ HO0_2.out) hb); have n1_ := Aside0.mk (Kd.R_below (kr_ HO0_3.out) hb); have n2_ := Aside0.mk (Kept.below (S := (fun k_ => P0_2_ k_ ∨ P0_3_ k_)) (by repeat (first | (with_reducible first | exact HK.out | apply Kept.alloc | apply Kept.drewN | apply Kept.drew) | exact HK.out)) hb); have n3_ := Aside0.mk (below_step (bl0_ HB.out) hb); have n4_ := Aside0.mk (hbox); have n5_ := Aside0.mk ((by rw [hg]; exact (by first | exact HK.out.1 | exact (show Kept w _ (fun k_ => P0_2_ k_ ∨ P0_3_ k_) from by repeat (first | (with_reducible first | exact HK.out | apply Kept.alloc | apply Kept.drewN | apply Kept.drew) | exact HK.out)).1) : w.heap.size ≤ gb186)); have n6_ := Aside0.mk ((bs0_ hg HB.out : w0.heap.size ≤ gb186)); clear HO0_2; clear HO0_3; clear HK; clear HB; have HO0_2 := n0_; have HO0_3 := n1_; have HK := n2_; have HB := n3_; have BK186 := n4_; have GW186 := n5_; have GE186 := n6_; clear n0_ n1_ n2_ n3_ n4_ n5_ n6_; clear hb hbox hg; have hcz8_0 : w7.cell? ⟨gb186, 0, none⟩ = some (.int .i64 a0_0) := (blk_cell BK186.out 0).trans rfl; have hcz8_1 : w7.cell? ⟨gb186, 1, none⟩ = some (.int .i64 a0_1) := (blk_cell BK186.out 1).trans rfl; have hcz8_2 : w7.cell? ⟨gb186, 2, none⟩ = some (.slice Ao5 l0_2.length co5) := (blk_cell BK186.out 2).trans rfl; have hcz8_3 : w7.cell? ⟨gb186, 3, none⟩ = some (.slice Ao6 l0_3.length co6) := (blk_cell BK186.out 3).trans rfl; have hfz8_0 := blk_frozen BK186.out 0; have hfz8_1 := blk_frozen BK186.out 1; have hfz8_2 := blk_frozen BK186.out 2; have hfz8_3 := blk_frozen BK186.out 3) | ((with_reducible refine gate_callee (f := 59) rfl ?_); refine goesL_ (some 8) rfl rfl Tryd.func59 (by kernel_rfl) rfl #[.slice Ao5 l0_2.length co5, .int .i64 a1] rfl ob_ ?_; (with_reducible refine (laws_markIntS.calls k (fun k_ => some k_ = (.slice Ao5 l0_2.length co5 : Value).ownBlock) (.slice Ao5 l0_2.length co5) l0_2 a1 t187 t188 w0 _ ?side1 ?side2 A3.out).mono ?_); (case side1 => repeat (first | (with_reducible first | exact HB.out | apply below_alloc | apply pw_below_drewN | apply below_drew1 | refine below_set ?_ GE186.out) | exact HB.out)); (case side2 => exact Kd.R_tight rfl HO0_2.out); rintro e w9 ⟨rfl, hy0, hb, hkp⟩; refine ⟨_, rfl, ?_⟩; have n0_ := Aside0.mk (Kd.R_reok rfl hy0 (fun k_ e_ => HO0_2.out.1 k_ e_)); have n1_ := Aside0.mk (Kd.R_mono (ok' := fun k_ => ((P0_2_ k_ ∨ P0_3_ k_) ∨ w.heap.size ≤ k_) ∧ some k_ ≠ (.slice Ao5 l0_2.length co5 : Value).ownBlock) (Kd.R_keptB (HO0_3.out) hkp (fun k_ hk_ hs_ => (hk_.2) hs_)) (fun k_ hk_ => ⟨hk_.1.1, hk_.1.2⟩)); have n2_ := Aside0.mk (blk_kept (bk_ BK186.out) hkp (fun hs_ => (fun e_ => (Kd.R_ne HO0_2.out BK186.out (by decide)) e_) hs_)); have n3_ := Aside0.mk (Kept.then_ (S := (fun k_ => P0_2_ k_ ∨ P0_3_ k_)) (by repeat (first | (with_reducible first | exact HK.out | apply Kept.alloc | apply Kept.drewN | apply Kept.drew | refine Kept.setCell ?_ (.inr GW186.out) _) | exact HK.out)) hkp (fun k_ hs_ => (fun e_ => (HO0_2.out.1 k_ e_.symm).1) hs_)); have n4_ := Aside0.mk (hb); clear HO0_2; clear HO0_3; clear BK186; clear HK; clear HB; have HO0_2 := n0_; have HO0_3 := n1_; have BK186 := n2_; have HK := n3_; have HB := n4_; clear n0_ n1_ n2_ n3_ n4_; (try clear hb); (try clear hkp); (try clear hy0); have hcz10_0 : w9.cell? ⟨gb186, 0, none⟩ = some (.int .i64 a0_0) := (blk_cell BK186.out 0).trans rfl; have hcz10_1 : w9.cell? ⟨gb186, 1, none⟩ = some (.int .i64 a0_1) := (blk_cell BK186.out 1).trans rfl; have hcz10_2 : w9.cell? ⟨gb186, 2, none⟩ = some (.slice Ao5 l0_2.length co5) := (blk_cell BK186.out 2).trans rfl; have hcz10_3 : w9.cell? ⟨gb186, 3, none⟩ = some (.slice Ao6 l0_3.length co6) := (blk_cell BK186.out 3).trans rfl; have hfz10_0 := blk_frozen BK186.out 0; have hfz10_1 := blk_frozen BK186.out 1; have hfz10_2 := blk_frozen BK186.out 2; have hfz10_3 := blk_frozen BK186.out 3) | ((with_reducible refine gate_callee (f := 59) rfl ?_); refine goesL_ (some 12) rfl rfl Tryd.func59 (by kernel_rfl) rfl #[.slice Ao6 l0_3.length co6, .int .i64 t187] rfl ob_ ?_; (with_reducible refine (laws_markIntS.calls k (fun k_ => some k_ = (.slice Ao6 l0_3.length co6 : Value).ownBlock) (.slice Ao6 l0_3.length co6) l0_3 t187 t189 t190 w0 _ ?side1 ?side2 A4.out).mono ?_); (case side1 => repeat (first | (with_reducible first | exact HB.out | apply below_alloc | apply pw_below_drewN | apply below_drew1 | refine below_set ?_ GE186.out) | exact HB.out)); (case side2 => exact Kd.R_tight rfl HO0_3.out); rintro e w11 ⟨rfl, hy0, hb, hkp⟩; refine ⟨_, rfl, ?_⟩; have n0_ := Aside0.mk (Kd.R_mono (ok' := fun k_ => ((P0_2_ k_ ∨ P0_3_ k_) ∨ w.heap.size ≤ k_) ∧ some k_ ≠ (.slice Ao6 l0_3.length co6 : Value).ownBlock) (Kd.R_keptB (HO0_2.out) hkp (fun k_ hk_ hs_ => (hk_.2) hs_)) (fun k_ hk_ => ⟨hk_.1.1, hk_.1.2⟩)); have n1_ := Aside0.mk (Kd.R_reok rfl hy0 (fun k_ e_ => HO0_3.out.1 k_ e_)); have n2_ := Aside0.mk (blk_kept (bk_ BK186.out) hkp (fun hs_ => (fun e_ => (Kd.R_ne HO0_3.out BK186.out (by decide)) e_) hs_)); have n3_ := Aside0.mk (Kept.then_ (S := (fun k_ => P0_2_ k_ ∨ P0_3_ k_)) (by repeat (first | (with_reducible first | exact HK.out | apply Kept.alloc | apply Kept.drewN | apply Kept.drew | refine Kept.setCell ?_ (.inr GW186.out) _) | exact HK.out)) hkp (fun k_ hs_ => (fun e_ => (HO0_3.out.1 k_ e_.symm).1) hs_)); have n4_ := Aside0.mk (hb); clear HO0_2; clear HO0_3; clear BK186; clear HK; clear HB; have HO0_2 := n0_; have HO0_3 := n1_; have BK186 := n2_; have HK := n3_; have HB := n4_; clear n0_ n1_ n2_ n3_ n4_; (try clear hb); (try clear hkp); (try clear hy0)))
 go_ret
 exact ⟨er_, by (with_reducible repeat (first | apply Kd.R_alloc | apply Kd.R_drewN | apply Kd.R_drew)); exact Kd.R_mono HO0_2.out (fun _ hk => hk.1), by (with_reducible repeat (first | apply Kd.R_alloc | apply Kd.R_drewN | apply Kd.R_drew)); exact Kd.R_mono HO0_3.out (fun _ hk => hk.1), bl1_ HB.out GE186.out, by repeat (first | (with_reducible first | exact HK.out | apply Kept.alloc | apply Kept.drewN | apply Kept.drew | refine Kept.setCell ?_ (.inr GW186.out) _) | exact HK.out)⟩


def laws_heldIntS.l0 : Nat → List Int → Int → Int → Option (Int)
  | 0, _, _, _ => none
  | k + 1, x0, x1, x5 => if x5 < (x0.length : Int) then (if 0 ≤ x5 then (if (rd x0 x5) = x1 then (laws_heldIntS.l0 k x0 (wrap64 (x1 + 1)) (wrap64 (x5 + 1))) else (some (-1))) else (none)) else (some x1)
def laws_heldIntS.f (k : Nat) (l0 : List Int) (a1 : Int) : Option (Int) := laws_heldIntS.l0 k l0 a1 0
theorem laws_heldIntS.mono_l : ∀ k, (∀ y0 y1 y2, LeO (laws_heldIntS.l0 k y0 y1 y2) (laws_heldIntS.l0 (k + 1) y0 y1 y2))
  | 0 => fun _ _ _ r h => by simp [laws_heldIntS.l0] at h
  | k + 1 => by
    have ih0 := laws_heldIntS.mono_l k
    · intro y0 y1 y2
      unfold laws_heldIntS.l0
      repeat' first
      | (with_reducible exact ih0 _ _ _)
      | (with_reducible exact LeO.refl _)
      | (with_reducible exact LeO.none _)
      | (with_reducible refine LeO.ite ?_ ?_)
      | (with_reducible refine LeO.bind ?_ (fun _ => ?_))
      | exact ih0 _ _ _
      | exact LeO.none _
      | refine LeO.ite ?_ ?_
      | refine LeO.bind ?_ (fun _ => ?_)
theorem laws_heldIntS.mono : ∀ a0 a1 k, LeO (laws_heldIntS.f k a0 a1) (laws_heldIntS.f (k + 1) a0 a1) := by
  intro a0 a1 k
  have ih0 := laws_heldIntS.mono_l k
  unfold laws_heldIntS.f
  repeat' first
      | (with_reducible exact ih0 _ _ _)
      | (with_reducible exact LeO.refl _)
      | (with_reducible exact LeO.none _)
      | (with_reducible refine LeO.ite ?_ ?_)
      | (with_reducible refine LeO.bind ?_ (fun _ => ?_))
      | exact ih0 _ _ _
      | exact LeO.none _
      | refine LeO.ite ?_ ?_
      | refine LeO.bind ?_ (fun _ => ?_)
set_option maxHeartbeats 8000000 in
set_option maxRecDepth 100000 in
theorem laws_heldIntS.calls (k : Nat) (A0 : Option Addr) (c0 : Nat) (l0 : List Int) (a1 : Int) (r : Int) (w : World) (hr0 : Kd.C (Kd.int .i64) w A0 l0.length l0) (hc0 : l0.length ≤ c0) (h : laws_heldIntS.f k l0 a1 = some r) :
    Calls Tryd.prog 60 #[.slice A0 l0.length c0, .int .i64 a1] w fun e w' => e = .returned (.int .i64 r) ∧ Drawn0 w w' := by
  have HR0 := Aside0.mk hr0
  have HC0 := Aside0.mk hc0
  clear hr0 hc0
  have H : (laws_heldIntS.l0 k l0 a1 0) = some r := h
  clear h
  have H' := Aside0.mk H
  clear H
  go_enter Tryd.func60, Tryd.ntmps60
  go_wp2
  go_loopg [1, 5] k (fun kq v1 v5 w' => ∃ (x1_1 : Int) (x5_1 : Int), v1 = .int .i64 x1_1 ∧ v5 = .int .i64 x5_1 ∧ Aside0 (laws_heldIntS.l0 kq l0 x1_1 x5_1 = some r) ∧ Aside0 (kq ≤ k) ∧ Drawn0 w w')
  case atStart => exact ⟨(a1), (0), rs_, rs_, H', ⟨Nat.le_refl _⟩, by repeat (first | exact Drawn0.refl _ | apply Drawn0.step)⟩
  case round =>
    clear H'
    try clear p2
    obtain ⟨x1_1, x5_1, rfl, rfl, HA, HK1, ⟨m1, rfl⟩⟩ := hrel
    cases gk with
    | zero => exact absurd HA.out (by simp [laws_heldIntS.l0])
    | succ k1 =>
      have H := HA.out
      clear HA
      simp only [laws_heldIntS.l0] at H
      by_cases c3 : x5_1 < (l0.length : Int)
      · rw [if_pos c3] at H
        have c3b0 : decide (x5_1 < (l0.length : Int)) = true := decide_eq_true c3
        clear c3
        by_cases c4 : 0 ≤ x5_1
        · rw [if_pos c4] at H
          have c4b0 : decide (0 ≤ x5_1) = true := decide_eq_true c4
          clear c4
          by_cases c5 : (rd l0 x5_1) = x1_1
          · rw [if_pos c5] at H
            have c5b0 : ((rd l0 x5_1) == x1_1) = true := beq_iff_eq.mpr c5
            have c5b1 : ((rd l0 x5_1) != x1_1) = false := bne_eq_false_iff_eq.mpr c5
            clear c5
            have H' := Aside0.mk H
            clear H
            have p191 : 0 ≤ (x5_1 : Int) := of_decide_eq_true as_
            have q191 : x5_1 < (l0.length : Int) := of_decide_eq_true as_
            obtain ⟨ad191, e191, hx191_0⟩ := Kd.at_int HR0.out x5_1 p191 q191
            cases e191
            replace p191 := eq_true p191
            replace q191 := eq_true q191
            go_wp2
            go_roundg k1
            case measure => have := HK1.out; omega
            case rel => exact ⟨(wrap64 (x1_1 + 1)), (wrap64 (x5_1 + 1)), rs_, rs_, H', ⟨by have := HK1.out; omega⟩, by repeat (first | exact Drawn0.refl _ | apply Drawn0.step)⟩
          · rw [if_neg c5] at H
            have c5b0 : ((rd l0 x5_1) == x1_1) = false := beq_eq_false_iff_ne.mpr c5
            have c5b1 : ((rd l0 x5_1) != x1_1) = true := bne_iff_ne.mpr c5
            obtain rfl := Option.some.inj H
            have p191 : 0 ≤ (x5_1 : Int) := of_decide_eq_true as_
            have q191 : x5_1 < (l0.length : Int) := of_decide_eq_true as_
            obtain ⟨ad191, e191, hx191_0⟩ := Kd.at_int HR0.out x5_1 p191 q191
            cases e191
            replace p191 := eq_true p191
            replace q191 := eq_true q191
            go_wp2
            go_ret
            exact ⟨by first | rfl | (simp; done) | (simp [*]; done), by repeat (first | exact Drawn0.refl _ | apply Drawn0.step)⟩
        · rw [if_neg c4] at H
          exact absurd H (by simp)
      · rw [if_neg c3] at H
        have c3b0 : decide (x5_1 < (l0.length : Int)) = false := decide_eq_false c3
        clear c3
        obtain rfl := Option.some.inj H
        go_wp2
        go_ret
        exact ⟨by first | rfl | (simp; done) | (simp [*]; done), by repeat (first | exact Drawn0.refl _ | apply Drawn0.step)⟩


def laws_heldFigure.f (k : Nat) (a0_0 : Int) (a0_1 : Int) (l0_2 : List Int) (l0_3 : List Int) (a1 : Int) : Option (Int) := (laws_heldIntS.f k l0_2 a1).bind fun t193 => (if t193 < 0 then (some (-1)) else ((laws_heldIntS.f k l0_3 t193).bind fun t194 => (if t194 < 0 then (some (-1)) else (some t194))))
theorem laws_heldFigure.mono : ∀ a0 a1 a2 a3 a4 k, LeO (laws_heldFigure.f k a0 a1 a2 a3 a4) (laws_heldFigure.f (k + 1) a0 a1 a2 a3 a4) := by
 intro a0 a1 a2 a3 a4 k
 unfold laws_heldFigure.f
 repeat' first
   | (with_reducible exact laws_heldIntS.mono _ _ _)
   | (with_reducible exact LeO.refl _)
   | (with_reducible exact LeO.none _)
   | (with_reducible refine LeO.ite ?_ ?_)
   | (with_reducible refine LeO.bind ?_ (fun _ => ?_))
   | exact laws_heldIntS.mono _ _ _
   | exact LeO.none _
   | refine LeO.ite ?_ ?_
   | refine LeO.bind ?_ (fun _ => ?_)
set_option maxHeartbeats 8000000 in
set_option maxRecDepth 100000 in
theorem laws_heldFigure.calls (k : Nat) (a0_0 : Int) (a0_1 : Int) (A0_2 : Option Addr) (c0_2 : Nat) (l0_2 : List Int) (A0_3 : Option Addr) (c0_3 : Nat) (l0_3 : List Int) (a1 : Int) (r : Int) (w : World) (hr0_2 : Kd.C (Kd.int .i64) w A0_2 l0_2.length l0_2) (hc0_2 : l0_2.length ≤ c0_2) (hr0_3 : Kd.C (Kd.int .i64) w A0_3 l0_3.length l0_3) (hc0_3 : l0_3.length ≤ c0_3) (h : laws_heldFigure.f k a0_0 a0_1 l0_2 l0_3 a1 = some r) :
  Calls Tryd.prog 25 #[.agg #[.int .i64 a0_0, .int .i64 a0_1, .slice A0_2 l0_2.length c0_2, .slice A0_3 l0_3.length c0_3], .int .i64 a1] w fun e w' => e = .returned (.int .i64 r) ∧ Below w.heap.size w w' := by
 have hu36 := Tryd.underlying36
 have HR0_2 := Aside0.mk hr0_2
 have HC0_2 := Aside0.mk hc0_2
 clear hr0_2 hc0_2
 have HR0_3 := Aside0.mk hr0_3
 have HC0_3 := Aside0.mk hc0_3
 clear hr0_3 hc0_3
 have HB := Aside0.mk (Below.refl w.heap.size w)
 have H : ((laws_heldIntS.f k l0_2 a1).bind fun t193 => (if t193 < 0 then (some (-1)) else ((laws_heldIntS.f k l0_3 t193).bind fun t194 => (if t194 < 0 then (some (-1)) else (some t194))))) = some r := h
 clear h
 replace H := Option.bind_eq_some_iff.mp H
 obtain ⟨t193, A30, H⟩ := H
 replace H : (if t193 < 0 then (some (-1)) else ((laws_heldIntS.f k l0_3 t193).bind fun t194 => (if t194 < 0 then (some (-1)) else (some t194)))) = some r := H
 have A3 := Aside0.mk A30
 clear A30
 by_cases c4 : t193 < 0
 ·rw [if_pos c4] at H
  have c4b0 : decide (t193 < 0) = true := decide_eq_true c4
  clear c4
  obtain rfl := Option.some.inj H
  go_enter Tryd.func25, Tryd.ntmps25
  go_wp2_with (first | ((with_reducible refine gate_dst (N := 2) rfl ?_); refine boxE_ (N := 2) (cs := #[.int .i64 a0_0, .int .i64 a0_1, .slice A0_2 l0_2.length c0_2, .slice A0_3 l0_3.length c0_3]) (t := 36) ?_; intro gb192 hg w5 hbox hb; have n0_ := Aside0.mk (below_step (bl0_ HB.out) hb); have n1_ := Aside0.mk (hbox); have n2_ := Aside0.mk ((bs0_ hg HB.out : w.heap.size ≤ gb192)); have n3_ := Aside0.mk ((bs0_ hg HB.out : w.heap.size ≤ gb192)); clear HB; have HB := n0_; have BK192 := n1_; have GW192 := n2_; have GE192 := n3_; clear n0_ n1_ n2_ n3_; clear hb hbox hg; have hcz6_0 : w5.cell? ⟨gb192, 0, none⟩ = some (.int .i64 a0_0) := (blk_cell BK192.out 0).trans rfl; have hcz6_1 : w5.cell? ⟨gb192, 1, none⟩ = some (.int .i64 a0_1) := (blk_cell BK192.out 1).trans rfl; have hcz6_2 : w5.cell? ⟨gb192, 2, none⟩ = some (.slice A0_2 l0_2.length c0_2) := (blk_cell BK192.out 2).trans rfl; have hcz6_3 : w5.cell? ⟨gb192, 3, none⟩ = some (.slice A0_3 l0_3.length c0_3) := (blk_cell BK192.out 3).trans rfl; have hfz6_0 := blk_frozen BK192.out 0; have hfz6_1 := blk_frozen BK192.out 1; have hfz6_2 := blk_frozen BK192.out 2; have hfz6_3 := blk_frozen BK192.out 3) | ((with_reducible refine gate_callee (f := 60) rfl ?_); refine goesL_ (some 8) rfl rfl Tryd.func60 (by kernel_rfl) rfl #[.slice A0_2 l0_2.length c0_2, .int .i64 a1] rfl ob_ ?_; (with_reducible refine (laws_heldIntS.calls k _ _ l0_2 a1 t193 _ ?side1 ?side2 A3.out).mono ?_); (case side1 => exact kc_ (Kd.C_below HR0_2.out HB.out)); (case side2 => exact HC0_2.out); rintro e w' ⟨rfl, ⟨nd, rfl⟩⟩; refine ⟨_, rfl, ?_⟩))
  go_ret
  exact ⟨er_, bl1_ HB.out GE192.out⟩
 ·rw [if_neg c4] at H
  have c4b0 : decide (t193 < 0) = false := decide_eq_false c4
  clear c4
  replace H := Option.bind_eq_some_iff.mp H
  obtain ⟨t194, A70, H⟩ := H
  replace H : (if t194 < 0 then (some (-1)) else (some t194)) = some r := H
  have A7 := Aside0.mk A70
  clear A70
  by_cases c8 : t194 < 0
  ·rw [if_pos c8] at H
   have c8b0 : decide (t194 < 0) = true := decide_eq_true c8
   clear c8
   obtain rfl := Option.some.inj H
   go_enter Tryd.func25, Tryd.ntmps25
   go_wp2_with (first | ((with_reducible refine gate_dst (N := 2) rfl ?_); refine boxE_ (N := 2) (cs := #[.int .i64 a0_0, .int .i64 a0_1, .slice A0_2 l0_2.length c0_2, .slice A0_3 l0_3.length c0_3]) (t := 36) ?_; intro gb192 hg w9 hbox hb; have n0_ := Aside0.mk (below_step (bl0_ HB.out) hb); have n1_ := Aside0.mk (hbox); have n2_ := Aside0.mk ((bs0_ hg HB.out : w.heap.size ≤ gb192)); have n3_ := Aside0.mk ((bs0_ hg HB.out : w.heap.size ≤ gb192)); clear HB; have HB := n0_; have BK192 := n1_; have GW192 := n2_; have GE192 := n3_; clear n0_ n1_ n2_ n3_; clear hb hbox hg; have hcz10_0 : w9.cell? ⟨gb192, 0, none⟩ = some (.int .i64 a0_0) := (blk_cell BK192.out 0).trans rfl; have hcz10_1 : w9.cell? ⟨gb192, 1, none⟩ = some (.int .i64 a0_1) := (blk_cell BK192.out 1).trans rfl; have hcz10_2 : w9.cell? ⟨gb192, 2, none⟩ = some (.slice A0_2 l0_2.length c0_2) := (blk_cell BK192.out 2).trans rfl; have hcz10_3 : w9.cell? ⟨gb192, 3, none⟩ = some (.slice A0_3 l0_3.length c0_3) := (blk_cell BK192.out 3).trans rfl; have hfz10_0 := blk_frozen BK192.out 0; have hfz10_1 := blk_frozen BK192.out 1; have hfz10_2 := blk_frozen BK192.out 2; have hfz10_3 := blk_frozen BK192.out 3) | ((with_reducible refine gate_callee (f := 60) rfl ?_); refine goesL_ (some 8) rfl rfl Tryd.func60 (by kernel_rfl) rfl #[.slice A0_2 l0_2.length c0_2, .int .i64 a1] rfl ob_ ?_; (with_reducible refine (laws_heldIntS.calls k _ _ l0_2 a1 t193 _ ?side1 ?side2 A3.out).mono ?_); (case side1 => exact kc_ (Kd.C_below HR0_2.out HB.out)); (case side2 => exact HC0_2.out); rintro e w' ⟨rfl, ⟨nd, rfl⟩⟩; refine ⟨_, rfl, ?_⟩) | ((with_reducible refine gate_callee (f := 60) rfl ?_); refine goesL_ (some 14) rfl rfl Tryd.func60 (by kernel_rfl) rfl #[.slice A0_3 l0_3.length c0_3, .int .i64 t193] rfl ob_ ?_; (with_reducible refine (laws_heldIntS.calls k _ _ l0_3 t193 t194 _ ?side1 ?side2 A7.out).mono ?_); (case side1 => repeat (first | exact (Kd.C_below HR0_3.out (bl1_ HB.out GE192.out)) | (with_reducible refine Kd.C_alloc ?_ _) | (with_reducible refine Kd.C_drewN ?_ _) | (with_reducible refine Kd.C_drew ?_))); (case side2 => exact HC0_3.out); rintro e w' ⟨rfl, ⟨nd, rfl⟩⟩; refine ⟨_, rfl, ?_⟩))
   go_ret
   exact ⟨er_, bl1_ HB.out GE192.out⟩
  ·rw [if_neg c8] at H
   have c8b0 : decide (t194 < 0) = false := decide_eq_false c8
   clear c8
   obtain rfl := Option.some.inj H
   go_enter Tryd.func25, Tryd.ntmps25
   go_wp2_with (first | ((with_reducible refine gate_dst (N := 2) rfl ?_); refine boxE_ (N := 2) (cs := #[.int .i64 a0_0, .int .i64 a0_1, .slice A0_2 l0_2.length c0_2, .slice A0_3 l0_3.length c0_3]) (t := 36) ?_; intro gb192 hg w11 hbox hb; have n0_ := Aside0.mk (below_step (bl0_ HB.out) hb); have n1_ := Aside0.mk (hbox); have n2_ := Aside0.mk ((bs0_ hg HB.out : w.heap.size ≤ gb192)); have n3_ := Aside0.mk ((bs0_ hg HB.out : w.heap.size ≤ gb192)); clear HB; have HB := n0_; have BK192 := n1_; have GW192 := n2_; have GE192 := n3_; clear n0_ n1_ n2_ n3_; clear hb hbox hg; have hcz12_0 : w11.cell? ⟨gb192, 0, none⟩ = some (.int .i64 a0_0) := (blk_cell BK192.out 0).trans rfl; have hcz12_1 : w11.cell? ⟨gb192, 1, none⟩ = some (.int .i64 a0_1) := (blk_cell BK192.out 1).trans rfl; have hcz12_2 : w11.cell? ⟨gb192, 2, none⟩ = some (.slice A0_2 l0_2.length c0_2) := (blk_cell BK192.out 2).trans rfl; have hcz12_3 : w11.cell? ⟨gb192, 3, none⟩ = some (.slice A0_3 l0_3.length c0_3) := (blk_cell BK192.out 3).trans rfl; have hfz12_0 := blk_frozen BK192.out 0; have hfz12_1 := blk_frozen BK192.out 1; have hfz12_2 := blk_frozen BK192.out 2; have hfz12_3 := blk_frozen BK192.out 3) | ((with_reducible refine gate_callee (f := 60) rfl ?_); refine goesL_ (some 8) rfl rfl Tryd.func60 (by kernel_rfl) rfl #[.slice A0_2 l0_2.length c0_2, .int .i64 a1] rfl ob_ ?_; (with_reducible refine (laws_heldIntS.calls k _ _ l0_2 a1 t193 _ ?side1 ?side2 A3.out).mono ?_); (case side1 => exact kc_ (Kd.C_below HR0_2.out HB.out)); (case side2 => exact HC0_2.out); rintro e w' ⟨rfl, ⟨nd, rfl⟩⟩; refine ⟨_, rfl, ?_⟩) | ((with_reducible refine gate_callee (f := 60) rfl ?_); refine goesL_ (some 14) rfl rfl Tryd.func60 (by kernel_rfl) rfl #[.slice A0_3 l0_3.length c0_3, .int .i64 t193] rfl ob_ ?_; (with_reducible refine (laws_heldIntS.calls k _ _ l0_3 t193 t194 _ ?side1 ?side2 A7.out).mono ?_); (case side1 => repeat (first | exact (Kd.C_below HR0_3.out (bl1_ HB.out GE192.out)) | (with_reducible refine Kd.C_alloc ?_ _) | (with_reducible refine Kd.C_drewN ?_ _) | (with_reducible refine Kd.C_drew ?_))); (case side2 => exact HC0_3.out); rintro e w' ⟨rfl, ⟨nd, rfl⟩⟩; refine ⟨_, rfl, ?_⟩))
   go_ret
   exact ⟨er_, bl1_ HB.out GE192.out⟩

end Go.Proofs.YtehjfaddhmdicaaDoor.P
