/- The program's DirsOk answers what the reference's answers, for all directives; no condition. -/
import Derived.Test.YtahgiblifkchaaaQFnExactDirsOk
import Derived.Test.YtahgiblifkchaaaLDirsOk
import Derived.Test.YtahgiblifkchaaaPxauxa
import Derived.Test.YtahgiblifkchaaaPxlawFnExactDirsOk
namespace Go.Proofs.Ytahgiblifkchaaa.Pure
open Go.RowKit Go.Proofs.Ytahgiblifkchaaa.P Go.Proofs.YtahgiblifkchaaaW.PrintWords Go.Proofs.YtahgiblifkchaaaW.PrintLast Go.Proofs.YtahgiblifkchaaaW.PrintMore
set_option linter.unusedVariables false
set_option linter.unusedSimpArgs false

theorem FnExactDirsOk : laws_FnExactDirsOk.Pure := by
  intro a0 _ _
  refine ⟨0, ?_⟩
  unfold laws_FnExactDirsOk.f laws_toDirs.f
  simp only [Option.bind_some, spec_DirsOk_eq, impl_DirsOk_eq]
  simp

end Go.Proofs.Ytahgiblifkchaaa.Pure
