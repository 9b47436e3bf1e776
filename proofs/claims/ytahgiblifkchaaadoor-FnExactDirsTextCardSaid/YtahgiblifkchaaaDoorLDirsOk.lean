/- Plain laws of our own (DirsOk): about numbers and lists alone; no condition beyond those written. -/
import Derived.Test.YtahgiblifkchaaaDoorLWithin
import Derived.Test.YtahgiblifkchaaaDoorPximpl12a
import Derived.Test.YtahgiblifkchaaaDoorPxspec12a
import Derived.Test.YtahgiblifkchaaaDoorOwn
namespace Go.Proofs.YtahgiblifkchaaaDoor.P
open Go.RowKit Go.Proofs.YtahgiblifkchaaaDoorW.PrintWords Go.Proofs.YtahgiblifkchaaaDoorW.PrintLast Go.Proofs.YtahgiblifkchaaaDoorW.PrintMore
set_option linter.unusedVariables false
set_option linter.unusedSimpArgs false
set_option maxHeartbeats 2000000
/-! ### DirsOk -/
def dOk (n : Int) : Bool := decide (-1 ≤ n) && decide (n ≤ 2147483648)
theorem said_eq (n : Int) : spec_l12said.f n = some (dOk n) := by
  unfold spec_l12said.f dOk
  by_cases h : n ≥ -1
  · rw [if_pos h]; simp [h]
  · rw [if_neg h]; simp [h]
theorem isDelta_eq (n : Int) : impl_isDelta.f n = some (dOk n) := by
  unfold impl_isDelta.f
  rw [within_eq, Option.bind_some]
  unfold dOk
  rw [Bool.decide_and]
def dirsOkOf (a b c d : Int) : Bool := dOk a && (dOk b && (dOk c && dOk d))
theorem spec_DirsOk_eq (b0 b1 b2 b3 b4 b5 : Bool) (a b c d : Int) : spec_DirsOk.f b0 b1 b2 b3 b4 b5 a b c d = some (dirsOkOf a b c d) := by
  unfold spec_DirsOk.f dirsOkOf
  simp only [said_eq, Option.bind_some]
  cases dOk a <;> cases dOk b <;> cases dOk c <;> cases dOk d <;> rfl
theorem impl_DirsOk_eq (b0 b1 b2 b3 b4 b5 : Bool) (a b c d : Int) : impl_DirsOk.f b0 b1 b2 b3 b4 b5 a b c d = some (dirsOkOf a b c d) := by
  unfold impl_DirsOk.f dirsOkOf
  simp only [isDelta_eq, Option.bind_some]
  cases dOk a <;> cases dOk b <;> cases dOk c <;> cases dOk d <;> rfl

end Go.Proofs.YtahgiblifkchaaaDoor.P
