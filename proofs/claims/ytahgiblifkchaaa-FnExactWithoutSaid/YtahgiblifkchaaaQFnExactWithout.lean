/- The plain statement of the law FnExactWithout, over numbers, texts and lists; no condition beyond what every row gives. -/
import Derived.Test.YtahgiblifkchaaaPxlawFnExactWithout
import Derived.Test.YtahgiblifkchaaaOpens
namespace Go.Proofs.Ytahgiblifkchaaa.P
open Go Go.RowKit
set_option linter.unusedVariables false
def laws_FnExactWithout.Pure : Prop := ∀ (l0 : List S68) (a1 : ByteArray), l0.length * 32 ≤ 140737488351232 → (∀ x ∈ l0, G68 x ∧ Z68 x) → a1.size ≤ 140737488351232 → ∃ k : Nat, laws_FnExactWithout.f k l0 a1 = some true
end Go.Proofs.Ytahgiblifkchaaa.P
