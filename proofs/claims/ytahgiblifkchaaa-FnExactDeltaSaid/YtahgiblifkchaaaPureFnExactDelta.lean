/- The program's Delta answers what the reference's answers, for every text; no condition. -/
import Derived.Test.YtahgiblifkchaaaPxlawFnExactDelta
import Derived.Test.YtahgiblifkchaaaLDelta
namespace Go.Proofs.Ytahgiblifkchaaa.Pure
open Go.RowKit Go.Proofs.Ytahgiblifkchaaa.P Go.Proofs.YtahgiblifkchaaaW.PrintWords Go.Proofs.YtahgiblifkchaaaW.PrintLast Go.Proofs.YtahgiblifkchaaaW.PrintMore

theorem FnExactDelta : laws_FnExactDelta.Pure := by
  intro a0 h0
  refine ⟨a0.size + 3, ?_⟩
  unfold laws_FnExactDelta.f
  by_cases h : (a0.size : Int) > 1048576
  · rw [if_pos h]
  · rw [if_neg h, spec_Delta_eq a0 h0 _ (by omega), impl_Delta_eq a0 h0 _ (by omega)]; simp

end Go.Proofs.Ytahgiblifkchaaa.Pure
