/- Plain laws of our own (Delta): about numbers and lists alone; no condition beyond those written. -/
import Derived.Test.YtahgiblifkchaaaLKit
import Derived.Test.YtahgiblifkchaaaPximpl12a
import Derived.Test.YtahgiblifkchaaaPxspec12a
namespace Go.Proofs.Ytahgiblifkchaaa.P
open Go.RowKit Go.Proofs.YtahgiblifkchaaaW.PrintWords Go.Proofs.YtahgiblifkchaaaW.PrintLast Go.Proofs.YtahgiblifkchaaaW.PrintMore
/-! ### Delta -/
def dig (c : Int) : Bool := decide (48 ≤ c) && decide (c ≤ 57)
theorem isDigit_eq (c : Int) : impl_isDigit.f c = some (dig c) := by
  unfold impl_isDigit.f dig
  by_cases h : c ≥ 48
  · rw [if_pos h, show decide (48 ≤ c) = true from decide_eq_true h, Bool.true_and]
  · rw [if_neg h, show decide (48 ≤ c) = false from decide_eq_false h, Bool.false_and]
theorem l1digit_eq (c : Int) : spec_l1digit.f c = some (dig c) := isDigit_eq c
def digs (s : ByteArray) : Nat → Int → Bool
  | 0, _ => true
  | d + 1, i => dig (bt s i) && digs s d (i + 1)
def dval (s : ByteArray) : Nat → Int → Int → Int
  | 0, n, _ => n
  | d + 1, n, i => dval s d (min 2147483648 (10 * n + (bt s i - 48))) (i + 1)
theorem all_isDigit (s : ByteArray) (hs : s.size ≤ 140737488351232) : ∀ (d k : Nat) (i : Int), 0 ≤ i → (s.size : Int) - i = d → d < k →
    impl_all__impl_isDigit.l0 k s i = some (digs s d i) := by
  intro d
  induction d with
  | zero =>
    intro k i h0 hd hk
    obtain ⟨k, rfl⟩ : ∃ m, k = m + 1 := ⟨k - 1, by omega⟩
    simp only [impl_all__impl_isDigit.l0]
    rw [if_neg (by omega)]
    rfl
  | succ d ih =>
    intro k i h0 hd hk
    obtain ⟨k, rfl⟩ : ∃ m, k = m + 1 := ⟨k - 1, by omega⟩
    simp only [impl_all__impl_isDigit.l0]
    rw [if_pos (by omega), if_pos h0, isDigit_eq, Option.bind_some, wrap_id (by omega) (by omega), ih k (i + 1) (by omega) (by omega) (by omega)]
    simp only [digs]
    cases dig (bt s i) <;> simp
theorem spec_loop (s : ByteArray) (hs : s.size ≤ 140737488351232) : ∀ (d k : Nat) (n i : Int), 0 ≤ n → n ≤ 2147483648 → 0 ≤ i → (s.size : Int) - i = d → d < k →
    spec_Delta.l0 k s n i = some (if digs s d i = true then (dval s d n i, true) else (0, false)) := by
  intro d
  induction d with
  | zero =>
    intro k n i hn0 hn1 h0 hd hk
    obtain ⟨k, rfl⟩ : ∃ m, k = m + 1 := ⟨k - 1, by omega⟩
    simp only [spec_Delta.l0]
    rw [if_neg (by omega)]
    simp [digs, dval]
  | succ d ih =>
    intro k n i hn0 hn1 h0 hd hk
    obtain ⟨k, rfl⟩ : ∃ m, k = m + 1 := ⟨k - 1, by omega⟩
    simp only [spec_Delta.l0]
    rw [if_pos (by omega), if_pos h0, l1digit_eq, Option.bind_some]
    simp only [digs, dval]
    by_cases hb : dig (bt s i) = true
    case neg => rw [if_neg hb]; simp [hb]
    case pos =>
      rw [if_pos hb]
      have hr : 48 ≤ bt s i ∧ bt s i ≤ 57 := by simpa [dig] using hb
      rw [wrap_id (x := n * 10) (by omega) (by omega), wrap_id (x := i + 1) (by omega) (by omega), wrap_id (x := n * 10 + (bt s i - 48) % 256) (by omega) (by omega)]
      have e : n * 10 + (bt s i - 48) % 256 = 10 * n + (bt s i - 48) := by omega
      rw [e]
      by_cases hc : 10 * n + (bt s i - 48) > 2147483648
      · rw [if_pos hc, ih k _ (i + 1) (by omega) (by omega) (by omega) (by omega) (by omega), show min 2147483648 (10 * n + (bt s i - 48)) = (2147483648 : Int) by omega]
        simp [hb]
      · rw [if_neg hc, ih k _ (i + 1) (by omega) (by omega) (by omega) (by omega) (by omega), show min 2147483648 (10 * n + (bt s i - 48)) = 10 * n + (bt s i - 48) by omega]
        simp [hb]
theorem impl_loop (s : ByteArray) (hs : s.size ≤ 140737488351232) : ∀ (d k : Nat) (n i : Int), 0 ≤ n → n ≤ 2147483648 → 0 ≤ i → (s.size : Int) - i = d → d < k → digs s d i = true →
    impl_Delta.l0 k s n i = some (dval s d n i, true) := by
  intro d
  induction d with
  | zero =>
    intro k n i hn0 hn1 h0 hd hk hg
    obtain ⟨k, rfl⟩ : ∃ m, k = m + 1 := ⟨k - 1, by omega⟩
    simp only [impl_Delta.l0]
    rw [if_neg (by omega)]
    simp [dval]
  | succ d ih =>
    intro k n i hn0 hn1 h0 hd hk hg
    obtain ⟨k, rfl⟩ : ∃ m, k = m + 1 := ⟨k - 1, by omega⟩
    simp only [impl_Delta.l0]
    rw [if_pos (by omega), if_pos h0]
    simp only [digs, Bool.and_eq_true] at hg
    have hr : 48 ≤ bt s i ∧ bt s i ≤ 57 := by simpa [dig] using hg.1
    rw [wrap_id (x := 10 * n) (by omega) (by omega), wrap_id (x := i + 1) (by omega) (by omega), wrap_id (x := 10 * n + (bt s i - 48) % 256) (by omega) (by omega)]
    have e : mn 2147483648 (10 * n + (bt s i - 48) % 256) = min 2147483648 (10 * n + (bt s i - 48)) := by unfold mn; split <;> omega
    rw [e, ih k _ (i + 1) (by omega) (by omega) (by omega) (by omega) (by omega) hg.2]
    rfl
/-- What Delta answers. -/
def deltaOf (s : ByteArray) : Int × Bool := if s.toList = ([] : List UInt8) then (0, false) else if digs s s.size 0 = true then (dval s s.size 0 0, true) else (0, false)
theorem spec_Delta_eq (s : ByteArray) (hs : s.size ≤ 140737488351232) (k : Nat) (hk : s.size + 2 < k) : spec_Delta.f k s = some (deltaOf s) := by
  unfold spec_Delta.f deltaOf
  by_cases h : s.toList = ([] : List UInt8)
  · rw [if_pos h, if_pos h]
  · rw [if_neg h, if_neg h, spec_loop s hs s.size k 0 0 (by omega) (by omega) (by omega) (by omega) (by omega)]
theorem impl_Delta_eq (s : ByteArray) (hs : s.size ≤ 140737488351232) (k : Nat) (hk : s.size + 2 < k) : impl_Delta.f k s = some (deltaOf s) := by
  unfold impl_Delta.f deltaOf impl_all__impl_isDigit.f
  obtain ⟨k, rfl⟩ : ∃ m, k = m + 1 := ⟨k - 1, by omega⟩
  by_cases h : s.toList = ([] : List UInt8)
  · rw [if_pos h, if_pos h]; simp [impl_Delta.j0]
  · rw [if_neg h, if_neg h, all_isDigit s hs s.size (k + 1) 0 (by omega) (by omega) (by omega), Option.bind_some]
    simp only [impl_Delta.j0]
    by_cases hd : digs s s.size 0 = true
    · rw [if_neg (by simp [hd]), if_pos hd, impl_loop s hs s.size k 0 0 (by omega) (by omega) (by omega) (by omega) (by omega) hd]
    · rw [if_pos (by simpa using hd), if_neg hd]

end Go.Proofs.Ytahgiblifkchaaa.P
