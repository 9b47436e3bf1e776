/- The plain statement of the law FnExactWith, over numbers, texts and lists; no condition beyond what every row gives. -/
import Derived.Test.YtahgiblifkchaaaPxlawFnExactWith
import Derived.Test.YtahgiblifkchaaaOpens
namespace Go.Proofs.Ytahgiblifkchaaa.P
open Go Go.RowKit
set_option linter.unusedVariables false
def laws_FnExactWith.Pure : Prop := ∀ (l0 : List S68) (a1 : S68), l0.length * 32 ≤ 140737488351232 → (∀ x ∈ l0, G68 x ∧ Z68 x) → G68 a1 → Z68 a1 → ∃ k : Nat, laws_FnExactWith.f k l0 a1.f0 a1.f1 = some true
end Go.Proofs.Ytahgiblifkchaaa.P
