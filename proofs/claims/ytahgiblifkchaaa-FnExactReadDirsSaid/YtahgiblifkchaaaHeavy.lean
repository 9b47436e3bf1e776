/- Three closed facts of the whole program, apart, for they are the costliest of a row. -/
import Derived.Test.YtahgiblifkchaaaRows
import Derived.WalkKit
import Derived.ProofKit
namespace Go.Proofs.Ytahgiblifkchaaa.P
open Go.ChangeShapes Go.WideShapes Go.ChangeAt Go.RowKit
theorem and_i {a b : Bool} (h : a = true) (k : b = true) : (a && b) = true := by rw [h, k]; rfl
theorem heavyE : (Try.prog.mayEnter && (false == Try.prog.liftsFinal) && (Try.prog.make == some Rows.fnExactDirsOkRow.make)) = true := by kernel_rfl
theorem mayE : Try.prog.mayEnter = true := by have h := heavyE; rw [Bool.and_eq_true, Bool.and_eq_true] at h; exact h.1.1
theorem liftE : (false == Try.prog.liftsFinal) = true := by have h := heavyE; rw [Bool.and_eq_true, Bool.and_eq_true] at h; exact h.1.2
theorem makeE : (Try.prog.make == some Rows.fnExactDirsOkRow.make) = true := by have h := heavyE; rw [Bool.and_eq_true] at h; exact h.2
end Go.Proofs.Ytahgiblifkchaaa.P
