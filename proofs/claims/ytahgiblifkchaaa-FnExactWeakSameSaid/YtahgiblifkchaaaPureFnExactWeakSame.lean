/- The program's WeakSame answers what the reference's answers, for all texts; no condition. -/
import Derived.Test.YtahgiblifkchaaaPxlawFnExactWeakSame
import Derived.Test.YtahgiblifkchaaaLTagOk
namespace Go.Proofs.Ytahgiblifkchaaa.Pure
open Go.RowKit Go.Proofs.Ytahgiblifkchaaa.P Go.Proofs.YtahgiblifkchaaaW.PrintWords Go.Proofs.YtahgiblifkchaaaW.PrintLast Go.Proofs.YtahgiblifkchaaaW.PrintMore

theorem FnExactWeakSame : laws_FnExactWeakSame.Pure := by
  intro a0 a1 h0 h1
  refine ⟨a0.size + a1.size + 3, ?_⟩
  unfold laws_FnExactWeakSame.f
  by_cases h : (a0.size : Int) > 1048576
  · rw [if_pos h]
  · rw [if_neg h]
    by_cases h' : (a1.size : Int) > 1048576
    · rw [if_pos h']
    · rw [if_neg h']
      obtain ⟨r, hr⟩ := spec_WeakSame_some a0 a1 h0 h1 _ (show a0.size + a1.size + 2 < a0.size + a1.size + 3 by omega)
      rw [WeakSame_eq a0 a1 h0 h1 _ (by omega), hr]; simp

end Go.Proofs.Ytahgiblifkchaaa.Pure
