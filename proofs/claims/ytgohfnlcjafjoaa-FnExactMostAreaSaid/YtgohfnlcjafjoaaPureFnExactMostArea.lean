/- The program's MostArea answers as the reference's MostArea, for every number. Conditions: none. -/
import Derived.Test.YtgohfnlcjafjoaaPFnExactMostAreax1
namespace Go.Proofs.Ytgohfnlcjafjoaa.Pure
open Go.RowKit Go.Proofs.Ytgohfnlcjafjoaa.PFnExactMostArea Go.Proofs.YtgohfnlcjafjoaaW.PrintWords Go.Proofs.YtgohfnlcjafjoaaW.PrintLast

theorem same (a : Int) : impl_MostArea.f a = spec_MostArea.f a := by
  unfold impl_MostArea.f spec_MostArea.f impl_isLength.f spec_loNumber.f impl_within.f spec_l1In.f
  rfl

theorem some_of (a : Int) : ∃ r, spec_MostArea.f a = some r := by
  unfold spec_MostArea.f spec_loNumber.f spec_l1In.f
  by_cases h : a ≥ 4
  · rw [if_pos h]; simp only [Option.bind_some]
    split <;> simp only [Option.bind_some] <;> split <;> exact ⟨_, rfl⟩
  · rw [if_neg h]; exact ⟨_, rfl⟩

theorem FnExactMostArea : laws_FnExactMostArea.Pure := by
  intro a _
  obtain ⟨r, hr⟩ := some_of a
  unfold laws_FnExactMostArea.f
  rw [same, hr]
  simp

end Go.Proofs.Ytgohfnlcjafjoaa.Pure
