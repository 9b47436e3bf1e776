/- Plain laws of our own (Store): about numbers and lists alone; no condition beyond those written. -/
import Derived.Test.YtahgiblifkchaaaLSegS
import Derived.Test.YtahgiblifkchaaaPx0
import Derived.Test.YtahgiblifkchaaaPxauxc
import Derived.Test.YtahgiblifkchaaaPxauxd
import Derived.Test.YtahgiblifkchaaaPxauxe
import Derived.Test.YtahgiblifkchaaaPximpl01a
import Derived.Test.YtahgiblifkchaaaPximpl04a
import Derived.Test.YtahgiblifkchaaaPxspec04a
import Derived.Test.YtahgiblifkchaaaPxspec04b
import Derived.Test.YtahgiblifkchaaaOwn
namespace Go.Proofs.Ytahgiblifkchaaa.P
open Go.RowKit Go.Proofs.YtahgiblifkchaaaW.PrintWords Go.Proofs.YtahgiblifkchaaaW.PrintLast Go.Proofs.YtahgiblifkchaaaW.PrintMore
set_option linter.unusedVariables false
set_option linter.unusedSimpArgs false
set_option maxHeartbeats 2000000
/-! ### StoreNew, ArchNew -/
theorem eq_self_Store (k : Nat) (l : List S84) (c : Int) (hl : l.length ≤ 281474976710656) (hk : l.length < k) : laws_eqStore.f k l c l c = some true := by
  unfold laws_eqStore.f
  rw [eq_self_SegS k l hl hk, Option.bind_some, if_pos rfl, if_pos rfl]
theorem mark_then_Store (l : List S84) (r c : Int) (hl : l.length ≤ 281474976710656) (hc : 0 ≤ c) (hcd : c + 2 * l.length ≤ 1152921504606846976) :
    ∃ l', ∀ k, l.length + 31 ≤ k → laws_markStore.f k l r c = some (c + 2 * l.length, l') ∧ laws_heldStore.f k l' r c = some (c + 2 * l.length) := by
  obtain ⟨l', e⟩ := mark_then_SegS l c hl hc hcd
  refine ⟨l', fun k hk => ⟨?_, ?_⟩⟩
  · unfold laws_markStore.f; rw [(e k hk).1]; rfl
  · unfold laws_heldStore.f; rw [(e k hk).2, Option.bind_some, if_neg (by omega)]
def seg0 : List S84 := [(⟨(⟨#[]⟩ : ByteArray), 0⟩ : S84)]
theorem spec_StoreOk_seg0 (k : Nat) (room : Int) (hk : 4 < k) : spec_StoreOk.f k seg0 room = some (decide (0 ≤ room) && decide (room ≤ 60000)) := by
  obtain ⟨k, rfl⟩ : ∃ m, k = m + 3 := ⟨k - 3, by omega⟩
  unfold spec_StoreOk.f
  by_cases h1 : room < 0
  · rw [if_pos h1, show decide (0 ≤ room) = false from decide_eq_false (by omega)]; simp [spec_StoreOk.j0]
  · rw [if_neg h1, show decide (0 ≤ room) = true from decide_eq_true (by omega), Bool.true_and]
    by_cases h2 : room > 60000
    · rw [if_pos h2, show decide (room ≤ 60000) = false from decide_eq_false (by omega)]; simp [spec_StoreOk.j0]
    · rw [if_neg h2, show decide (room ≤ 60000) = true from decide_eq_true (by omega), if_neg (show ¬ ((seg0.length : Int) < 1) by decide), show decide ((seg0.length : Int) > 40) = false by decide]
      simp only [spec_StoreOk.j0]
      rw [if_neg (by decide)]
      simp only [spec_StoreOk.l0]
      have hnx : ¬ (wrap64 (0 + 1) < (seg0.length : Int)) := by
        have hl1 : (seg0.length : Int) = 1 := rfl
        have hw1 : wrap64 (0 + 1) = 1 := by unfold wrap64; omega
        omega
      have hnx2 : ¬ (wrap64 (0 + 1) < (seg0.length : Int)) := hnx
      have h0 : (rd_T84 seg0 0).f0.size = 0 := rfl
      have h0' : (rd_T84 seg0 0).f1 = 0 := rfl
      rw [if_pos (show (0 : Int) < (seg0.length : Int) by decide), if_pos (by decide), h0, h0', if_neg (by omega), if_neg (by decide), if_neg (by decide), if_neg hnx, if_neg hnx2]
def storeNewOf (room : Int) : List S84 × Int × Bool := if 0 ≤ room ∧ room ≤ 60000 then (seg0, room, true) else ([], 0, false)
theorem spec_StoreNew_eq (k : Nat) (room : Int) (hk : 4 < k) : spec_StoreNew.f k room = some (storeNewOf room) := by
  unfold spec_StoreNew.f storeNewOf
  rw [Option.bind_some, show (([(⟨(⟨#[]⟩ : ByteArray), 0⟩ : S84)] : List S84)) = seg0 from rfl, spec_StoreOk_seg0 k room hk, Option.bind_some]
  by_cases h : 0 ≤ room ∧ room ≤ 60000
  · rw [if_pos h, if_pos (by simp [h.1, h.2])]
  · rw [if_neg h, if_neg (by simpa using h)]
theorem impl_StoreNew_eq (room : Int) : impl_StoreNew.f room = some (storeNewOf room) := by
  unfold impl_StoreNew.f storeNewOf impl_within.f
  by_cases h1 : 0 ≤ room
  · rw [if_pos h1, Option.bind_some]
    by_cases h2 : room ≤ 60000
    · rw [if_pos (by simp [h2]), if_pos ⟨h1, h2⟩]; rfl
    · rw [if_neg (by simp [h2]), if_neg (fun z => h2 z.2)]
  · rw [if_neg h1, Option.bind_some, if_neg (by decide), if_neg (fun z => h1 z.1)]
theorem storeNew_short (room : Int) : (storeNewOf room).1.length ≤ 1 := by
  unfold storeNewOf
  split
  · exact Nat.le_refl _
  · exact Nat.zero_le _

end Go.Proofs.Ytahgiblifkchaaa.P
