/- The program's ArchNew answers what the reference's answers, for all numbers; no condition. -/
import Derived.Test.YtahgiblifkchaaaPxlawFnExactArchNew
import Derived.Test.YtahgiblifkchaaaLArch
import Derived.Test.YtahgiblifkchaaaLStore
import Derived.Test.YtahgiblifkchaaaPxauxm
import Derived.Test.YtahgiblifkchaaaPxauxo
import Derived.Test.YtahgiblifkchaaaPxauxq
import Derived.Test.YtahgiblifkchaaaPxlawFnExactArchNew
namespace Go.Proofs.Ytahgiblifkchaaa.Pure
open Go.RowKit Go.Proofs.Ytahgiblifkchaaa.P Go.Proofs.YtahgiblifkchaaaW.PrintWords Go.Proofs.YtahgiblifkchaaaW.PrintLast Go.Proofs.YtahgiblifkchaaaW.PrintMore
set_option linter.unusedVariables false
set_option linter.unusedSimpArgs false

theorem FnExactArchNew : laws_FnExactArchNew.Pure := by
  intro a0 a1 a2 _ _ _
  refine ⟨100, ?_⟩
  have hs := archNew_short a0 a1 a2
  have hl := archNew_empty a0 a1 a2
  unfold laws_FnExactArchNew.f
  rw [spec_ArchNew_eq 100 a0 a1 a2 (by decide), impl_ArchNew_eq a0 a1 a2]
  simp only [Option.bind_some]
  have hi := impl_ArchNew_eq a0 a1 a2
  generalize archNewOf a0 a1 a2 = r at *
  obtain ⟨r1, r2, r3, r4, r5, r6, r7, r8⟩ := r
  simp only at hs hl
  subst hl
  obtain ⟨l', e⟩ := mark_then_Store r1 r2 1 (by omega) (by decide) (by omega)
  have ha : ∀ k, 50 ≤ k → laws_eqArchive.f k r1 r2 r3 r4 r5 r6 [] r1 r2 r3 r4 r5 r6 [] = some true := fun k hk => eq_self_Archive k r1 r2 r3 r4 r5 r6 (by omega) (by omega)
  have hm : ∀ k, 50 ≤ k → laws_markArchive.f k r1 r2 r3 r4 r5 r6 [] 1 = some (1 + 2 * (r1.length : Int), l', []) := fun k hk => by
    unfold laws_markArchive.f
    rw [(e k (by omega)).1]
    simp only [Option.bind_some]
    rw [mark_no_lines k _ (by omega)]
    rfl
  have hh : ∀ k, 50 ≤ k → laws_heldArchive.f k l' r2 r3 r4 r5 r6 [] 1 = some (1 + 2 * (r1.length : Int)) := fun k hk => by
    unfold laws_heldArchive.f
    rw [(e k (by omega)).2]
    simp only [Option.bind_some]
    rw [if_neg (by omega), held_no_lines k _ (by omega), Option.bind_some, if_neg (by omega)]
  rw [ha 100 (by decide), Option.bind_some, if_pos rfl]
  simp only [laws_FnExactArchNew.j0]
  rw [if_neg (by simp), hm 99 (by decide)]
  simp only [Option.bind_some]
  rw [hh 99 (by decide)]
  simp only [Option.bind_some]
  rw [if_neg (by omega), if_pos trivial, hi]
  simp only [Option.bind_some]
  rw [ha 99 (by decide), Option.bind_some, if_pos rfl]
  simp only [laws_FnExactArchNew.j1]
  rw [if_neg (by simp), hh 98 (by decide)]
  simp only [Option.bind_some]
  rw [if_neg (by omega), if_pos trivial]

end Go.Proofs.Ytahgiblifkchaaa.Pure
