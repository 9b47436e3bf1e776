/- The program's Canned answers what the reference's answers, for all arguments; no condition. -/
import Derived.Test.YtahgiblifkchaaaPxlawFnExactCanned
import Derived.Test.YtahgiblifkchaaaLCanned
import Derived.Test.YtahgiblifkchaaaPxlawFnExactCanned
namespace Go.Proofs.Ytahgiblifkchaaa.Pure
open Go.RowKit Go.Proofs.Ytahgiblifkchaaa.P Go.Proofs.YtahgiblifkchaaaW.PrintWords Go.Proofs.YtahgiblifkchaaaW.PrintLast Go.Proofs.YtahgiblifkchaaaW.PrintMore
set_option linter.unusedVariables false
set_option linter.unusedSimpArgs false

theorem FnExactCanned : laws_FnExactCanned.Pure := by
  intro a0 a1 _
  refine ⟨100, ?_⟩
  obtain ⟨m0, m1, m2, m3, m4, m6, hi, hsp⟩ := canned_same a0 a1
  obtain ⟨l', e⟩ := mark_then_Msg m0 m1 m2 m3 m4 [] m6 1 (by decide) (by decide) (by decide)
  have e1 := (e 100 (by decide)).1
  have e2 := (e 100 (by decide)).2
  unfold laws_FnExactCanned.f
  rw [hsp 100 (by decide), hi]
  simp only [Option.bind_some]
  rw [eq_self_Msg 100 _ _ _ _ _ _ _ (by decide) (by decide), Option.bind_some, if_pos rfl, e1]
  simp only [Option.bind_some]
  rw [e2]
  simp only [Option.bind_some]
  rw [if_neg (by decide), if_pos trivial, if_pos trivial, if_neg (by decide), if_pos trivial]

end Go.Proofs.Ytahgiblifkchaaa.Pure
