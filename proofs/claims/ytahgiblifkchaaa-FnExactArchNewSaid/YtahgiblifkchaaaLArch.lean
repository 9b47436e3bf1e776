/- Plain laws of our own (Arch): about numbers and lists alone; no condition beyond those written. -/
import Derived.Test.YtahgiblifkchaaaLStore
import Derived.Test.YtahgiblifkchaaaPx0
import Derived.Test.YtahgiblifkchaaaPxauxl
import Derived.Test.YtahgiblifkchaaaPxauxm
import Derived.Test.YtahgiblifkchaaaPxauxn
import Derived.Test.YtahgiblifkchaaaPxauxp
import Derived.Test.YtahgiblifkchaaaPximpl01a
import Derived.Test.YtahgiblifkchaaaPximpl11a
import Derived.Test.YtahgiblifkchaaaPxspec11a
import Derived.Test.YtahgiblifkchaaaOwn
namespace Go.Proofs.Ytahgiblifkchaaa.P
open Go.RowKit Go.Proofs.YtahgiblifkchaaaW.PrintWords Go.Proofs.YtahgiblifkchaaaW.PrintLast Go.Proofs.YtahgiblifkchaaaW.PrintMore
set_option linter.unusedVariables false
set_option linter.unusedSimpArgs false
set_option maxHeartbeats 2000000
/-! ### ArchNew -/
theorem mark_no_lines (k : Nat) (c : Int) (hk : 0 < k) : laws_markLineS.f k [] c = some (c, []) := by
  obtain ⟨k, rfl⟩ : ∃ m, k = m + 1 := ⟨k - 1, by omega⟩
  unfold laws_markLineS.f
  simp only [laws_markLineS.l0]
  rw [if_neg (by decide)]
theorem held_no_lines (k : Nat) (c : Int) (hk : 0 < k) : laws_heldLineS.f k [] c = some c := by
  obtain ⟨k, rfl⟩ : ∃ m, k = m + 1 := ⟨k - 1, by omega⟩
  unfold laws_heldLineS.f
  simp only [laws_heldLineS.l0]
  rw [if_neg (by decide)]
theorem eq_no_lines (k : Nat) (hk : 0 < k) : laws_eqLineS.f k [] [] = some true := by
  obtain ⟨k, rfl⟩ : ∃ m, k = m + 1 := ⟨k - 1, by omega⟩
  unfold laws_eqLineS.f
  rw [if_pos rfl]
  simp only [laws_eqLineS.l0]
  rw [if_neg (by decide)]
theorem eq_self_Archive (k : Nat) (r1 : List S84) (r2 r3 r4 r5 r6 : Int) (hl : r1.length ≤ 281474976710656) (hk : r1.length < k) :
    laws_eqArchive.f k r1 r2 r3 r4 r5 r6 [] r1 r2 r3 r4 r5 r6 [] = some true := by
  unfold laws_eqArchive.f
  rw [eq_self_Store k r1 r2 hl hk, Option.bind_some, if_pos rfl, if_pos rfl, if_pos rfl, if_pos rfl, if_pos rfl, eq_no_lines k (by omega), Option.bind_some, if_pos rfl]
def archNewOf (a0 a1 a2 : Int) : List S84 × Int × Int × Int × Int × Int × List S115 × Bool :=
  if (storeNewOf a0).2.2 = true ∧ (1 ≤ a1 ∧ a1 ≤ 60000) ∧ (1 ≤ a2 ∧ a2 ≤ 100) then ((storeNewOf a0).1, (storeNewOf a0).2.1, a1, a2, 0, 0, [], true) else ([], 0, 0, 0, 0, 0, [], false)
theorem spec_ArchNew_eq (k : Nat) (a0 a1 a2 : Int) (hk : 4 < k) : spec_ArchNew.f k a0 a1 a2 = some (archNewOf a0 a1 a2) := by
  unfold spec_ArchNew.f archNewOf
  rw [spec_StoreNew_eq k a0 hk]
  simp only [Option.bind_some]
  by_cases h0 : (storeNewOf a0).2.2 = true
  · rw [if_pos h0]
    by_cases h1 : a1 < 1
    · rw [if_pos h1, if_neg (by omega)]
    · rw [if_neg h1]
      by_cases h2 : a1 > 60000
      · rw [if_pos h2, if_neg (by omega)]
      · rw [if_neg h2]
        by_cases h3 : a2 < 1
        · rw [if_pos h3, if_neg (by omega)]
        · rw [if_neg h3]
          by_cases h4 : a2 > 100
          · rw [if_pos h4, if_neg (by omega)]
          · rw [if_neg h4, if_pos ⟨h0, by omega, by omega⟩]
  · rw [if_neg h0, if_neg (fun z => h0 z.1)]
theorem within_eq (a b c : Int) : impl_within.f a b c = some (decide (b ≤ a ∧ a ≤ c)) := by
  unfold impl_within.f
  by_cases h : b ≤ a
  · rw [if_pos h]; simp [h]
  · rw [if_neg h]; simp [h]
theorem impl_ArchNew_eq (a0 a1 a2 : Int) : impl_ArchNew.f a0 a1 a2 = some (archNewOf a0 a1 a2) := by
  unfold impl_ArchNew.f archNewOf
  rw [impl_StoreNew_eq a0]
  simp only [Option.bind_some, within_eq]
  by_cases h0 : (storeNewOf a0).2.2 = true
  · rw [if_pos h0]
    by_cases h1 : 1 ≤ a1 ∧ a1 ≤ 60000
    · rw [if_pos (decide_eq_true h1)]
      by_cases h2 : 1 ≤ a2 ∧ a2 ≤ 100
      · rw [if_pos (decide_eq_true h2), if_pos ⟨h0, h1, h2⟩]
      · rw [if_neg (by simpa using h2), if_neg (fun z => h2 z.2.2)]
    · rw [if_neg (by simpa using h1), if_neg (fun z => h1 z.2.1)]
  · rw [if_neg h0, if_neg (fun z => h0 z.1)]
theorem archNew_short (a0 a1 a2 : Int) : (archNewOf a0 a1 a2).1.length ≤ 1 := by
  unfold archNewOf
  split
  · exact storeNew_short a0
  · exact Nat.zero_le _
theorem archNew_empty (a0 a1 a2 : Int) : (archNewOf a0 a1 a2).2.2.2.2.2.2.1 = [] := by
  unfold archNewOf
  split <;> rfl

end Go.Proofs.Ytahgiblifkchaaa.P
