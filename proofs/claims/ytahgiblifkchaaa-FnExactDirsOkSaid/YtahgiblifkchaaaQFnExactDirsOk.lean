/- The plain statement of the law FnExactDirsOk, over numbers, texts and lists; no condition beyond what every row gives. -/
import Derived.Test.YtahgiblifkchaaaPxlawFnExactDirsOk
import Derived.Test.YtahgiblifkchaaaOpens
namespace Go.Proofs.Ytahgiblifkchaaa.P
open Go Go.RowKit
set_option linter.unusedVariables false
def laws_FnExactDirsOk.Pure : Prop := ∀ (a0 : S23), G23 a0 → Z23 a0 → ∃ k : Nat, laws_FnExactDirsOk.f a0.f0 a0.f1 a0.f2 a0.f3 a0.f4 a0.f5 a0.f6 a0.f7 a0.f8 a0.f9 = some true
end Go.Proofs.Ytahgiblifkchaaa.P
