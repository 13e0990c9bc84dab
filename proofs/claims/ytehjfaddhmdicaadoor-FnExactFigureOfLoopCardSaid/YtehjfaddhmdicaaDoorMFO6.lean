/- For every input the law FnExactFigureOfLoop answers true: the program's FigureOfLoop tells what the reference's FigureOfLoop tells; no condition. (part 6 of the proof; the words of the kit's print tool and the texts of this seat, merged by a program) -/
import Derived.Below
import Derived.ChangeOld
import Derived.Handed
import Derived.JoinedOf
import Derived.Lib.SmallJoins
import Derived.OpenShut
import Derived.ProofKit
import Derived.SevenTiedAt
import Derived.ShutString
import Derived.SizedLaws
import Derived.Test.YtehjfaddhmdicaaDoorCards
import Derived.Test.YtehjfaddhmdicaaDoorClosed
import Derived.Test.YtehjfaddhmdicaaDoorRows
import Derived.Test.YtehjfaddhmdicaaDoorTie
import Derived.WalkKit
import Derived.Test.YtehjfaddhmdicaaDoorMFO5
namespace Go.Proofs.YtehjfaddhmdicaaDoor.fnExactFigureOfLoop
open Go.ChangeMaps (open_string shut_string)
open Go.ChangeShapes Go.WideShapes Go.ChangeAt Go.RowKit Go.Proofs.YtehjfaddhmdicaaDoorW.PrintWords Go.Joins
set_option linter.unusedVariables false
theorem own:ownKnob Tryd.prog.godebug = none:=Closed.own
theorem laidOut:laidOutB Tryd.prog = true:=Closed.laidOut
theorem joined_mk (P:Program) (f:FuncId) (fn:Func) (s:ChangeSpec) (c:OpenClaim) (k0:(c.wf (OpenSpec.ofChange s)) = true) (k1:(laidOutB P) = true) (k2:(mapsRowed P) = true) (k3:(fn.params.all (P.readableRec ·)) = true) (k4:(namedTie P c.named s.vars) = true) (k5:((c.stops == [])) = true) (k6:((P.stops == [])) = true) (k7:((c.knobs == [])) = true) (k8:((P.stopKnobs == [])) = true) (k9:((c.inPlace == P.inPlace f)) = true) (k10:((c.unfollowed == P.unfollowed f)) = true) (k11:((c.recurses == P.recurses f)) = true) (k12:((c.named == P.varsNamed f)) = true) (k13:((c.maps == (fn.params.toList ++ s.plain.varTypes P).any (P.mapsRec ·))) = true) (k14:((c.ifaces == (fn.params.toList ++ s.plain.varTypes P).any (P.ifacesRec ·))) = true) (k15:((c.mapsOut == P.mapsAmong fn.resultTypes.toList)) = true) (k16:((c.loops == (fn.params.toList ++ s.plain.varTypes P).any (P.loopsFrom ·))) = true) (k17:((c.wideKeys == (fn.params.toList ++ s.plain.varTypes P ++ fn.resultTypes.toList).any (P.wideKeysFrom ·))) = true) (k18:(s.vars.all (P.varReadable ·)) = true) (k19:(fn.resultTypes.all (fun t => P.readableRec t && decide (t < P.types.size))) = true) (k20:((c.ifacesOut == fn.resultTypes.toList.any (P.ifacesRec ·))) = true) (k21:((c.loopsOut == fn.resultTypes.toList.any (P.loopsFrom ·))) = true) (k22:((c.plainKeys == P.plainKeys)) = true) (k23:(c.shortTexts.isNone) = true) (k24:(P.stopsHeard) = true) (k25:(P.mayEnter) = true) (k26:((c.lifted == P.liftsFinal)) = true) (k27:((P.make == some c.make)) = true) (hd:c.domain.isEmpty = true) (k28:(c.kinds == []) = true) (k29:((c.pinned == c.pinnedBy)) = true) (k30:((c.veiled == (fn.params.toList ++ s.plain.varTypes P ++ fn.resultTypes.toList).any (P.veiledRec ·))) = true) (k31:(c.veiledFits P fn.params.toList (fn.params.toList ++ s.plain.varTypes P ++ fn.resultTypes.toList)) = true):joinedFacts P f fn s c = true:=by
 unfold joinedFacts
 simp only [hd,if_true,k0,k1,k2,k3,k4,k5,k6,k7,k8,k9,k10,k11,k12,k13,k14,k15,k16,k17,k18,k19,k20,k21,k22,k23,k24,k25,k26,k27,k28,k29,k30,k31,Bool.and_self]
theorem handed_shaped {H:Type} {enc:TypeId × Value → H} {a:Assume} {C:Checked} {os:Os} {f:FuncId} {fn:Func} {s:ChangeSpec} {conds:List PathCond} {apart fresh handsOn again:Bool} {X:World → Array Value → Prop}
  (hX:∀ (w w':World) (args:Array Value),w.heap = w'.heap → X w args → X w' args)
  (own:ownKnob C.prog.godebug = none) (started:os.Started) (noInit:C.prog.inits.idxOf? f = none) (hfn:C.prog.funcs[f]? = some fn)
  (witness:∃ (w:World) (tape:Tape) (i:Input),w.os = os ∧ (w.forCall tape i).Shaped C.prog ∧ i.vars = [] ∧ Input.okWide C.prog (w.forCall tape i) .any w.heap.size f i ∧
   ((s.pre enc C.prog fn conds apart (w.forCall tape i).memory i.args ∧ X (w.forCall tape i).memory i.args) ∧ sizedMet enc C.prog fn (OpenSpec.ofChange s) apart (w.forCall tape i).memory i.args) ∧ a.holds C.prog (lone (Frame.enter C.prog f i.args .normal) [] (w.forCall tape i)))
  (contract:∀ (W:World) (base:Nat) (args:Array Value) (ds gs:List (DataW H)) (before:List MemPlace),
   (∀ (j:Nat) t v,fn.params[j]? = some t → args[j]? = some v → Value.okWide C.prog W .any base t v) →
   DataW.Whole enc C.prog fn.params.toList s.vars apart W args.toList ds gs before →
   conds.all (PathCond.test C.prog ⟨fn.params.toList,ds,s.plain.varTypes C.prog,gs⟩) = true →
   (DataW.weightsEach C.prog (fn.params.toList ++ s.plain.varTypes C.prog) (ds ++ gs)).all (· ≤ reachBytes) = true → X W args → W.ShapedOpen C.prog →
   a.holds C.prog (lone (Frame.enter C.prog f args .normal) [] W) →
   Calls C.prog f args W fun e W' => ∃ v,e = .returned v ∧ s.post enc C.prog fn apart fresh handsOn again W args v W') :
  ReturnsInHanded a C os f .any (fun w args => (s.pre enc C.prog fn conds apart w args ∧ X w args) ∧ sizedMet enc C.prog fn (OpenSpec.ofChange s) apart w args) (s.post enc C.prog fn apart fresh handsOn again):=by
 refine returnsInHanded_of_calls own started noInit witness ?_
 intro w tape i _ hsh _ hok hpre hholds
 obtain ⟨_,_,_,fn',hfn',_,_,_,_,hval⟩:=hok
 have e:fn' = fn:=Option.some.inj (hfn'.symm.trans hfn)
 subst e
 obtain ⟨⟨⟨ds,gs,before,hw,hc⟩,hx⟩,hz⟩:=hpre
 have hw':=DataW.Whole.of_heap (w':=w.forCall tape i) (by rfl) hw
 refine (contract (w.forCall tape i) w.heap.size i.args ds gs before hval hw' hc (hz.weights hw) (hX _ _ _ (by rfl) hx) hsh hholds).mono fun e W' ⟨v,he,hp⟩ => ?_
 subst he
 exact ChangeSpec.post_blind hp
abbrev LAID:List (String × DataW Unit):=LaidP.LAID
set_option maxRecDepth 100000 in
theorem lifted (os:Os) (started:os.Started) (H:Type) (enc:TypeId × Value → H) :
  ReturnsInHanded {} Tryd.checked os 7 .any (fun w args => (Rows.fnExactFigureOfLoopSpec.pre enc Tryd.prog Tryd.f7 [] false w args ∧ laidMetH Tryd.prog LAID w) ∧ sizedMet enc Tryd.prog Tryd.f7 (OpenSpec.ofChange Rows.fnExactFigureOfLoopSpec) false w args) (Rows.fnExactFigureOfLoopSpec.post enc Tryd.prog Tryd.f7 false true false false):=by
 refine handed_shaped (C:=Tryd.checked) (X:=fun w _ => laidMetH Tryd.prog LAID w) (fun _ _ _ hh h => h.of_heap hh) own started (by kernel_rfl) Tryd.func7 (ChangeSpec.witness_at (enc:=enc) (C:=Tryd.checked) (os:=os) (X:=fun w _ => laidMetH Tryd.prog LAID w) false (LaidP.laidWorld os) #[.string ByteArray.empty] 8 rfl (by kernel_rfl) (by kernel_rfl) (by kernel_rfl) (by kernel_rfl) (by kernel_rfl) (LaidP.laidWorld_met os _)) ?_
 intro W base args ds gs before hval0 hW hcnd hsz0 hL hsh _
 have hT:P.TB W:=LaidP.tb hL hsh
 have hsz:(DataW.weightsEach Tryd.prog (Tryd.f7.params.toList ++ Rows.fnExactFigureOfLoopSpec.plain.varTypes Tryd.prog) (ds ++ gs)).all (· ≤ reachBytes) = true:=hsz0
 have hval:∀ (j:Nat) t v,Tryd.f7.params[j]? = some t → args[j]? = some v → Value.okWide Tryd.prog W .any base t v:=hval0
 have hW':=hW
 obtain ⟨p,q,hA0,hV,rfl,hfz,hnd⟩:=hW
 have hA:DataW.TrodAll enc Tryd.prog W 0 (fun _ => true) true Tryd.f7.params.toList args.toList ds p:=hA0
 rw [Tryd.params7] at hA hval hsz
 obtain ⟨v0,vs0,d0,ds0,p0,q0,hargs,rfl,rfl,h0,r0⟩:=trodAll_cons hA
 obtain ⟨rfl,rfl,rfl⟩:=trodAll_nil r0
 obtain rfl:args = #[v0]:=by cases args; simp_all
 obtain ⟨rfl,rfl⟩:=trodVars_none hV
 obtain ⟨a0,rfl,rfl,rfl,y0⟩:=open_string Tryd.underlying9 (hval 0 9 v0 rfl rfl) h0
 have w0:a0.size ≤ 140737488351232:=by
  have z:=sized_string hsz (j:=0) (t:=9) rfl rfl
  rw [Array.length_toList] at z
  exact z
 clear hA0 hval0 hsz0 hsz
 refine (P.laws_FnExactFigureOfLoop.walk Pure.FnExactFigureOfLoop a0 W hT w0).mono fun e W' ⟨he,bel⟩ => ?_
 subst he
 exact ⟨_,rfl,_,_,_,[],_,[],hW',trodAll_mk1 (shut_bool Tryd.underlying4 _),(trodAll_cons_mk (shut_string Tryd.underlying9 y0) trodAll_mk0),rfl,bel.frame _,fun h => by cases h⟩
theorem k0_:(Rows.fnExactFigureOfLoopRow.wf (OpenSpec.ofChange Rows.fnExactFigureOfLoopSpec)) = true:=by kernel_rfl
theorem k1_:(laidOutB Tryd.prog) = true:=Closed.laidOut
theorem k2_:(mapsRowed Tryd.prog) = true:=Closed.mapsRowedP
theorem k3_:(Tryd.f7.params.all (Tryd.prog.readableRec ·)) = true:=by kernel_rfl
theorem k4_:(namedTie Tryd.prog Rows.fnExactFigureOfLoopRow.named Rows.fnExactFigureOfLoopSpec.vars) = true:=by kernel_rfl
theorem k5_:((Rows.fnExactFigureOfLoopRow.stops == [])) = true:=by kernel_rfl
theorem k6_:((Tryd.prog.stops == [])) = true:=Closed.noStops
theorem k7_:((Rows.fnExactFigureOfLoopRow.knobs == [])) = true:=by kernel_rfl
theorem k8_:((Tryd.prog.stopKnobs == [])) = true:=Closed.noKnobs
theorem k9_:((Rows.fnExactFigureOfLoopRow.inPlace == Tryd.prog.inPlace 7)) = true:=by kernel_rfl
theorem k10_:((Rows.fnExactFigureOfLoopRow.unfollowed == Tryd.prog.unfollowed 7)) = true:=by kernel_rfl
theorem k11_:((Rows.fnExactFigureOfLoopRow.recurses == Tryd.prog.recurses 7)) = true:=by kernel_rfl
theorem k12_:((Rows.fnExactFigureOfLoopRow.named == Tryd.prog.varsNamed 7)) = true:=by kernel_rfl
theorem k13_:((Rows.fnExactFigureOfLoopRow.maps == (Tryd.f7.params.toList ++ Rows.fnExactFigureOfLoopSpec.plain.varTypes Tryd.prog).any (Tryd.prog.mapsRec ·))) = true:=by kernel_rfl
theorem k14_:((Rows.fnExactFigureOfLoopRow.ifaces == (Tryd.f7.params.toList ++ Rows.fnExactFigureOfLoopSpec.plain.varTypes Tryd.prog).any (Tryd.prog.ifacesRec ·))) = true:=by kernel_rfl
theorem k15_:((Rows.fnExactFigureOfLoopRow.mapsOut == Tryd.prog.mapsAmong Tryd.f7.resultTypes.toList)) = true:=by kernel_rfl
theorem k16_:((Rows.fnExactFigureOfLoopRow.loops == (Tryd.f7.params.toList ++ Rows.fnExactFigureOfLoopSpec.plain.varTypes Tryd.prog).any (Tryd.prog.loopsFrom ·))) = true:=by kernel_rfl
theorem k17_:((Rows.fnExactFigureOfLoopRow.wideKeys == (Tryd.f7.params.toList ++ Rows.fnExactFigureOfLoopSpec.plain.varTypes Tryd.prog ++ Tryd.f7.resultTypes.toList).any (Tryd.prog.wideKeysFrom ·))) = true:=by kernel_rfl
theorem k18_:(Rows.fnExactFigureOfLoopSpec.vars.all (Tryd.prog.varReadable ·)) = true:=by kernel_rfl
theorem k19_:(Tryd.f7.resultTypes.all (fun t => Tryd.prog.readableRec t && decide (t < Tryd.prog.types.size))) = true:=by kernel_rfl
theorem k20_:((Rows.fnExactFigureOfLoopRow.ifacesOut == Tryd.f7.resultTypes.toList.any (Tryd.prog.ifacesRec ·))) = true:=by kernel_rfl
theorem k21_:((Rows.fnExactFigureOfLoopRow.loopsOut == Tryd.f7.resultTypes.toList.any (Tryd.prog.loopsFrom ·))) = true:=by kernel_rfl
theorem k22_:((Rows.fnExactFigureOfLoopRow.plainKeys == Tryd.prog.plainKeys)) = true:=by kernel_rfl
theorem k23_:(Rows.fnExactFigureOfLoopRow.shortTexts.isNone) = true:=by kernel_rfl
theorem k24_:(Tryd.prog.stopsHeard) = true:=Closed.stopsHeard
theorem k25_:(Tryd.prog.mayEnter) = true:=Closed.mayEnter
theorem k26_:((Rows.fnExactFigureOfLoopRow.lifted == Tryd.prog.liftsFinal)) = true:=by rw [Closed.liftsFinal]; kernel_rfl
theorem k27_:((Tryd.prog.make == some Rows.fnExactFigureOfLoopRow.make)) = true:=by rw [Closed.make]; kernel_rfl
theorem k28_:((Rows.fnExactFigureOfLoopRow.kinds == [])) = true:=by kernel_rfl
theorem k29_:((Rows.fnExactFigureOfLoopRow.pinned == Rows.fnExactFigureOfLoopRow.pinnedBy)) = true:=by kernel_rfl
theorem k30_:((Rows.fnExactFigureOfLoopRow.veiled == (Tryd.f7.params.toList ++ Rows.fnExactFigureOfLoopSpec.plain.varTypes Tryd.prog ++ Tryd.f7.resultTypes.toList).any (Tryd.prog.veiledRec ·))) = true:=by kernel_rfl
theorem k31_:(Rows.fnExactFigureOfLoopRow.veiledFits Tryd.prog Tryd.f7.params.toList (Tryd.f7.params.toList ++ Rows.fnExactFigureOfLoopSpec.plain.varTypes Tryd.prog ++ Tryd.f7.resultTypes.toList)) = true:=by kernel_rfl
theorem k99_:(Rows.fnExactFigureOfLoopRow.domain.isEmpty) = true:=by kernel_rfl
theorem closed:joinedFacts Tryd.prog 7 Tryd.f7 Rows.fnExactFigureOfLoopSpec Rows.fnExactFigureOfLoopRow = true :=
 joined_mk _ _ _ _ _ k0_ k1_ k2_ k3_ k4_ k5_ k6_ k7_ k8_ k9_ k10_ k11_ k12_ k13_ k14_ k15_ k16_ k17_ k18_ k19_ k20_ k21_ k22_ k23_ k24_ k25_ k26_ k27_ k99_ k28_ k29_ k30_ k31_
theorem over:Rows.fnExactFigureOfLoopRow.holds Tryd.pinned (OpenSpec.ofChange Rows.fnExactFigureOfLoopSpec) :=
 OpenClaim.holds_of_wide 7 Tryd.f7 rfl rfl rfl rfl rfl rfl rfl ⟨rfl,rfl,rfl,rfl,rfl⟩ rfl rfl rfl rfl rfl (by kernel_rfl) Tryd.func7 closed
  (of_decide_eq_true (by kernel_rfl)) (by unfold Func.isWrapper; first | (rw [if_pos (by decide +kernel)]; kernel_rfl) | (rw [if_neg (by decide +kernel)]; exact ⟨rfl,rfl⟩))
  (fun os started H enc _ => lifted os started H enc)
theorem card:Rows.FnExactFigureOfLoopCardSaid :=
 Claim7.holds_tied_plain_at .later [] [.data, .data, .pinned] true (true, "51a81812d70b6a8fa3f4660c1a3f95587944b71932d92a023d035a6397cb1daa") false
  over (fun _ h => by cases h) (by kernel_rfl) (fun _ h => by cases h) fnExactFigureOfLoop_row_tie rfl ⟨rfl,rfl⟩ (by kernel_rfl) rfl
  (fun f fn hf hfn => by
   obtain rfl : f = 7 := Option.some.inj ((show Tryd.prog.funcNamed "loop.example/g01233/laws.FnExactFigureOfLoop" = some 7 by kernel_rfl).symm.trans hf) |>.symm
   obtain rfl:fn = Tryd.f7:=(Option.some.inj (Tryd.func7.symm.trans hfn)).symm
   exact ⟨by kernel_rfl,fun j t ht => by
    rw [Tryd.params7] at ht
    have h3:t = 9:=by
     rcases j with _ | j
     ·simpa using ht.symm
     ·simp at ht
    subst h3
    exact (show Tryd.prog.wantsStandIn 9 = false by kernel_rfl)⟩)
  (by kernel_rfl)
end Go.Proofs.YtehjfaddhmdicaaDoor.fnExactFigureOfLoop
namespace Go.Proofs.YtehjfaddhmdicaaDoor
theorem fnExactFigureOfLoop_holds : Rows.FnExactFigureOfLoopCardSaid := fnExactFigureOfLoop.card
end Go.Proofs.YtehjfaddhmdicaaDoor
