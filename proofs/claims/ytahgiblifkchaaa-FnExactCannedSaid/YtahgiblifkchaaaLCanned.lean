/- Plain laws of our own (Canned): about numbers and lists alone; no condition beyond those written. -/
import Derived.Test.YtahgiblifkchaaaLFieldS
import Derived.Test.YtahgiblifkchaaaLWithin
import Derived.Test.YtahgiblifkchaaaPx0
import Derived.Test.YtahgiblifkchaaaPxauxg
import Derived.Test.YtahgiblifkchaaaPxauxh
import Derived.Test.YtahgiblifkchaaaPxauxi
import Derived.Test.YtahgiblifkchaaaPximpl06a
import Derived.Test.YtahgiblifkchaaaPxspec06a
import Derived.Test.YtahgiblifkchaaaOwn
namespace Go.Proofs.Ytahgiblifkchaaa.P
open Go.RowKit Go.Proofs.YtahgiblifkchaaaW.PrintWords Go.Proofs.YtahgiblifkchaaaW.PrintLast Go.Proofs.YtahgiblifkchaaaW.PrintMore
set_option linter.unusedVariables false
set_option linter.unusedSimpArgs false
set_option maxHeartbeats 2000000
/-! ### Canned -/
theorem eq_self_Msg (k : Nat) (m0 m1 : ByteArray) (m2 : Int) (m3 : ByteArray) (m4 : Bool) (m5 : List S71) (m6 : ByteArray) (hl : m5.length ≤ 281474976710656) (hk : m5.length < k) :
    laws_eqMsg.f k m0 m1 m2 m3 m4 m5 m6 m0 m1 m2 m3 m4 m5 m6 = some true := by
  unfold laws_eqMsg.f
  rw [if_pos rfl, if_pos rfl, if_pos rfl, if_pos rfl, if_neg (by simp), eq_self_FieldS k m5 hl hk, Option.bind_some, if_pos rfl, if_pos rfl]
theorem mark_then_Msg (m0 m1 : ByteArray) (m2 : Int) (m3 : ByteArray) (m4 : Bool) (m5 : List S71) (m6 : ByteArray) (c : Int) (hl : m5.length ≤ 281474976710656) (hc : 0 ≤ c) (hcd : c + 2 * m5.length ≤ 1152921504606846976) :
    ∃ l', ∀ k, m5.length + 31 ≤ k → laws_markMsg.f k m0 m1 m2 m3 m4 m5 m6 c = some (c + 2 * m5.length, l') ∧ laws_heldMsg.f k m0 m1 m2 m3 m4 l' m6 c = some (c + 2 * m5.length) := by
  obtain ⟨l', e⟩ := mark_then_FieldS m5 c hl hc hcd
  refine ⟨l', fun k hk => ⟨?_, ?_⟩⟩
  · unfold laws_markMsg.f; rw [(e k hk).1]; rfl
  · unfold laws_heldMsg.f; rw [(e k hk).2, Option.bind_some, if_neg (by omega)]
theorem reason_eq (a : Int) : impl_ReasonOf.f a = spec_ReasonOf.f a := rfl
theorem reason_some (a : Int) : ∃ t, spec_ReasonOf.f a = some t := by
  unfold spec_ReasonOf.f
  repeat' (first | exact ⟨_, rfl⟩ | split)
theorem bare_eq (a : Int) : impl_isBareStatus.f a = spec_l6bare.f a := rfl
theorem bare_some (a : Int) : ∃ t, spec_l6bare.f a = some t := by
  unfold spec_l6bare.f
  split <;> exact ⟨_, rfl⟩
theorem canned_same (a0 : Int) (a1 : Bool) : ∃ m0 m1 m2 m3 m4 m6, impl_Canned.f a0 a1 = some (m0, m1, m2, m3, m4, [], m6) ∧ ∀ k, 0 < k → spec_Canned.f k a0 a1 = some (m0, m1, m2, m3, m4, [], m6) := by
  obtain ⟨t, ht⟩ := reason_some a0
  obtain ⟨b, hb⟩ := bare_some a0
  unfold impl_Canned.f impl_isStatus.f
  simp only [within_eq, Option.bind_some]
  by_cases h : 200 ≤ a0 ∧ a0 ≤ 599
  · rw [if_pos (decide_eq_true h), reason_eq, ht, Option.bind_some]
    cases a1 with
    | true =>
      rw [if_pos rfl]
      refine ⟨_, _, _, _, _, _, rfl, fun k hk => ?_⟩
      obtain ⟨k, rfl⟩ : ∃ m, k = m + 1 := ⟨k - 1, by omega⟩
      unfold spec_Canned.f
      rw [if_neg (by omega), show decide (a0 > 599) = false from decide_eq_false (by omega)]
      simp only [spec_Canned.j0]
      rw [if_neg (by decide), ht, Option.bind_some, if_pos trivial]
    | false =>
      rw [if_neg (by decide), bare_eq, hb, Option.bind_some]
      refine ⟨_, _, _, _, _, _, rfl, fun k hk => ?_⟩
      obtain ⟨k, rfl⟩ : ∃ m, k = m + 1 := ⟨k - 1, by omega⟩
      unfold spec_Canned.f
      rw [if_neg (by omega), show decide (a0 > 599) = false from decide_eq_false (by omega)]
      simp only [spec_Canned.j0]
      rw [if_neg (by decide), ht, Option.bind_some, if_neg (by decide), hb, Option.bind_some]
  · rw [if_neg (by simpa using h)]
    refine ⟨_, _, _, _, _, _, rfl, fun k hk => ?_⟩
    obtain ⟨k, rfl⟩ : ∃ m, k = m + 1 := ⟨k - 1, by omega⟩
    unfold spec_Canned.f
    by_cases h1 : a0 < 200
    · rw [if_pos h1]; simp only [spec_Canned.j0]; rw [if_pos trivial]
    · rw [if_neg h1, show decide (a0 > 599) = true from decide_eq_true (by omega)]; simp only [spec_Canned.j0]; rw [if_pos trivial]

end Go.Proofs.Ytahgiblifkchaaa.P
