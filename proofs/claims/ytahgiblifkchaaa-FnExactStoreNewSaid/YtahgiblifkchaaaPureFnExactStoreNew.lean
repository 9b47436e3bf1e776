/- The program's StoreNew answers what the reference's answers, for every number; no condition. -/
import Derived.Test.YtahgiblifkchaaaPxlawFnExactStoreNew
import Derived.Test.YtahgiblifkchaaaLStore
import Derived.Test.YtahgiblifkchaaaPxlawFnExactStoreNew
namespace Go.Proofs.Ytahgiblifkchaaa.Pure
open Go.RowKit Go.Proofs.Ytahgiblifkchaaa.P Go.Proofs.YtahgiblifkchaaaW.PrintWords Go.Proofs.YtahgiblifkchaaaW.PrintLast Go.Proofs.YtahgiblifkchaaaW.PrintMore
set_option linter.unusedVariables false
set_option linter.unusedSimpArgs false

theorem FnExactStoreNew : laws_FnExactStoreNew.Pure := by
  intro a0 _
  refine ⟨100, ?_⟩
  have hs := storeNew_short a0
  unfold laws_FnExactStoreNew.f
  rw [spec_StoreNew_eq 100 a0 (by decide), impl_StoreNew_eq a0]
  simp only [Option.bind_some]
  obtain ⟨l', e⟩ := mark_then_Store (storeNewOf a0).1 (storeNewOf a0).2.1 1 (by omega) (by decide) (by omega)
  rw [eq_self_Store 100 _ _ (by omega) (by omega), Option.bind_some, if_pos rfl]
  simp only [laws_FnExactStoreNew.j0]
  rw [if_neg (by simp), (e 99 (by omega)).1]
  simp only [Option.bind_some]
  rw [(e 99 (by omega)).2]
  simp only [Option.bind_some]
  rw [if_neg (by omega), if_pos trivial, impl_StoreNew_eq a0]
  simp only [Option.bind_some]
  rw [eq_self_Store 99 _ _ (by omega) (by omega), Option.bind_some, if_pos rfl]
  simp only [laws_FnExactStoreNew.j1]
  rw [if_neg (by simp), (e 98 (by omega)).2]
  simp only [Option.bind_some]
  rw [if_neg (by omega), if_pos trivial]

end Go.Proofs.Ytahgiblifkchaaa.Pure
