/- Plain laws of our own (MarkText): about numbers and lists alone; no condition beyond those written. -/
import Derived.Test.YtahgiblifkchaaaLKit
import Derived.Test.YtahgiblifkchaaaPxauxc
import Derived.Test.YtahgiblifkchaaaOwn
namespace Go.Proofs.Ytahgiblifkchaaa.P
open Go.RowKit Go.Proofs.YtahgiblifkchaaaW.PrintWords Go.Proofs.YtahgiblifkchaaaW.PrintLast Go.Proofs.YtahgiblifkchaaaW.PrintMore
set_option linter.unusedVariables false
set_option linter.unusedSimpArgs false
set_option maxHeartbeats 2000000
/-! ### the marks of the laws: markText answers -/
theorem markText_l_total : ∀ (n k : Nat) (x : Int) (acc : ByteArray), 0 ≤ x → x < (10 : Int) ^ n → x ≤ 9223372036854775807 → acc.size + n ≤ 1000 → n < k → ∃ t, laws_markText.l0 k x acc = some t := by
  intro n
  induction n with
  | zero =>
    intro k x acc h0 h1 hx hs hk
    obtain ⟨k, rfl⟩ : ∃ m, k = m + 1 := ⟨k - 1, by omega⟩
    simp only [laws_markText.l0]
    have hx0 : x = 0 := by
      have h10 : (10 : Int) ^ 0 = 1 := by decide
      omega
    rw [if_neg (by omega), if_pos (by omega)]
    exact ⟨_, rfl⟩
  | succ n ih =>
    intro k x acc h0 h1 hx hs hk
    obtain ⟨k, rfl⟩ : ∃ m, k = m + 1 := ⟨k - 1, by omega⟩
    simp only [laws_markText.l0]
    by_cases hp : x > 0
    · rw [if_pos hp, Option.bind_some, if_pos (by rw [strOfNums_size]; simp; omega)]
      have hd : Int.tdiv x 10 = x / 10 := Int.tdiv_eq_ediv_of_nonneg h0
      rw [hd, wrap_id (x := x / 10) (by omega) (by omega)]
      have hpow : (10 : Int) ^ (n + 1) = 10 ^ n * 10 := Int.pow_succ 10 n
      exact ih k (x / 10) _ (by omega) (by omega) (by omega) (by rw [ByteArray.size_append, strOfNums_size]; simp; omega) (by omega)
    · rw [if_neg hp, if_pos (by omega)]
      exact ⟨_, rfl⟩
theorem markText_total (x : Int) (hx : x ≤ 9223372036854775807) : ∃ t, laws_markText.f 25 x = some t := by
  unfold laws_markText.f
  by_cases h : x ≤ 0
  · rw [if_pos h]; exact ⟨_, rfl⟩
  · rw [if_neg h]
    have h10 : (10 : Int) ^ 19 = 10000000000000000000 := by decide
    exact markText_l_total 19 25 x _ (by omega) (by omega) hx (by decide) (by decide)
/-- The text of a mark. -/
def mt (x : Int) : ByteArray := (laws_markText.f 25 x).getD ⟨#[]⟩
theorem mt_eq (x : Int) (hx : x ≤ 9223372036854775807) (k : Nat) (hk : 25 ≤ k) : laws_markText.f k x = some (mt x) := by
  obtain ⟨t, ht⟩ := markText_total x hx
  have : mt x = t := by unfold mt; rw [ht]; rfl
  rw [this]
  exact at_rounds (fun k => laws_markText.mono x k) hk ht

end Go.Proofs.Ytahgiblifkchaaa.P
