/- The program's Elements answers what the reference's answers, for every text; no condition. -/
import Derived.Test.YtahgiblifkchaaaPxlawFnExactElements
import Derived.Test.YtahgiblifkchaaaLElements
import Derived.Test.YtahgiblifkchaaaLStringS
import Derived.Test.YtahgiblifkchaaaPxlawFnExactElements
namespace Go.Proofs.Ytahgiblifkchaaa.Pure
open Go.RowKit Go.Proofs.Ytahgiblifkchaaa.P Go.Proofs.YtahgiblifkchaaaW.PrintWords Go.Proofs.YtahgiblifkchaaaW.PrintLast Go.Proofs.YtahgiblifkchaaaW.PrintMore
set_option linter.unusedVariables false
set_option linter.unusedSimpArgs false

theorem FnExactElements : laws_FnExactElements.Pure := by
  intro a0 _
  refine ⟨20001, ?_⟩
  unfold laws_FnExactElements.f
  by_cases h : (a0.size : Int) > 1048576
  · rw [if_pos h]
  · rw [if_neg h, spec_Elements_eq a0 _ (by decide), impl_Elements_eq a0 _ (by decide)]
    have hl := elementsOf_length a0
    simp only [Option.bind_some]
    generalize elementsOf a0 = l at *
    obtain ⟨l', e⟩ := mark_then_StringS l 1 (by omega) (by decide) (by omega)
    obtain ⟨e1, e2⟩ := e 20001 (by omega)
    rw [eq_self_StringS 20001 l (by omega) (by omega)]
    simp only [Option.bind_some, if_true]
    rw [e1]
    simp only [Option.bind_some]
    rw [e2]
    simp only [Option.bind_some, if_true]
    rw [if_neg (by omega), if_neg (by omega)]

end Go.Proofs.Ytahgiblifkchaaa.Pure
