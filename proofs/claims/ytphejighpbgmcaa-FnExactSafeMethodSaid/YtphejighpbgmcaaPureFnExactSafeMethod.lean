/- The program's SafeMethod answers what the reference's answers, for every text; no condition. -/
import Derived.Test.YtphejighpbgmcaaPFnExactSafeMethodx1
namespace Go.Proofs.Ytphejighpbgmcaa.Pure
open Go.RowKit Go.Proofs.Ytphejighpbgmcaa.PFnExactSafeMethod Go.Proofs.YtphejighpbgmcaaW.PrintWords Go.Proofs.YtphejighpbgmcaaW.PrintLast

theorem FnExactSafeMethod : laws_FnExactSafeMethod.Pure := by
  intro a0 _
  have h : impl_SafeMethod.f a0 = spec_SafeMethod.f a0 := rfl
  have hs : ∃ b, spec_SafeMethod.f a0 = some b := by
    unfold spec_SafeMethod.f
    split
    · exact ⟨_, rfl⟩
    · split
      · exact ⟨_, rfl⟩
      · split <;> exact ⟨_, rfl⟩
  obtain ⟨b, hb⟩ := hs
  unfold laws_FnExactSafeMethod.f
  rw [h, hb]
  cases b <;> simp

end Go.Proofs.Ytphejighpbgmcaa.Pure
