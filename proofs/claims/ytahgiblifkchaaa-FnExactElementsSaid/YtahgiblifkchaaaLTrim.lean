/- Plain laws of our own (Trim): about numbers and lists alone; no condition beyond those written. -/
import Derived.Test.YtahgiblifkchaaaLKit
import Derived.Test.YtahgiblifkchaaaPximpl01a
import Derived.Test.YtahgiblifkchaaaPximpl01b
import Derived.Test.YtahgiblifkchaaaPxspec01a
import Derived.Test.YtahgiblifkchaaaOwn
namespace Go.Proofs.Ytahgiblifkchaaa.P
open Go.RowKit Go.Proofs.YtahgiblifkchaaaW.PrintWords Go.Proofs.YtahgiblifkchaaaW.PrintLast Go.Proofs.YtahgiblifkchaaaW.PrintMore
set_option linter.unusedVariables false
set_option linter.unusedSimpArgs false
set_option maxHeartbeats 2000000
/-! ### Trim: both leave the same cut of the text -/
theorem toList_nil (s : ByteArray) : s.toList = ([] : List UInt8) ↔ s.size = 0 := by
  rw [ByteArray.toList_eq]
  constructor
  · intro h
    have := congrArg List.length h
    rw [data_length] at this
    simpa using this
  · intro h
    apply List.eq_nil_of_length_eq_zero
    rw [data_length]; exact h
def ws (c : Int) : Bool := decide (c = 32) || decide (c = 9)
theorem isSpace_eq (c : Int) : impl_isSpace.f c = some (ws c) := by
  unfold impl_isSpace.f ws
  by_cases h : c = 32
  · rw [if_pos h]; simp [h]
  · rw [if_neg h]
    by_cases h2 : c = 9 <;> simp [h, h2]
theorem white_eq (c : Int) : spec_l1white.f c = some (ws c) := isSpace_eq c
def lead (s : ByteArray) : Nat → Nat → Nat
  | 0, i => i
  | d + 1, i => if ws (bt s (i : Int)) = true then lead s d (i + 1) else i
def back (s : ByteArray) : Nat → Nat → Nat
  | 0, j => j
  | d + 1, j => if ws (bt s ((j - 1 : Nat) : Int)) = true then back s d (j - 1) else j
theorem lead_le (s : ByteArray) : ∀ d i, i ≤ lead s d i ∧ lead s d i ≤ i + d := by
  intro d
  induction d with
  | zero => intro i; simp [lead]
  | succ d ih =>
    intro i
    simp only [lead]
    split
    · have := ih (i + 1); omega
    · omega
theorem back_le (s : ByteArray) : ∀ d j, back s d j ≤ j ∧ j ≤ back s d j + d := by
  intro d
  induction d with
  | zero => intro i; simp [back]
  | succ d ih =>
    intro j
    simp only [back]
    split
    · have := ih (j - 1); omega
    · omega
def trimS (s : ByteArray) : ByteArray := s.extract (lead s s.size 0) (back s (s.size - lead s s.size 0) s.size)
theorem trimS_size (s : ByteArray) : (trimS s).size ≤ s.size := by
  unfold trimS
  rw [size_extract]
  omega
theorem spec_trim_l1 (s : ByteArray) (hs : s.size ≤ 140737488351232) : ∀ (d k a j : Nat), a ≤ j → j ≤ s.size → j - a = d → d < k → spec_Trim.l1 k s (a : Int) (j : Int) = some (s.extract a (back s d j)) := by
  intro d
  induction d with
  | zero =>
    intro k a j h1 h2 hd hk
    obtain ⟨k, rfl⟩ : ∃ m, k = m + 1 := ⟨k - 1, by omega⟩
    simp only [spec_Trim.l1]
    rw [if_neg (by omega), if_pos (by omega), if_pos (by omega), if_pos (by omega)]
    rfl
  | succ d ih =>
    intro k a j h1 h2 hd hk
    obtain ⟨k, rfl⟩ : ∃ m, k = m + 1 := ⟨k - 1, by omega⟩
    simp only [spec_Trim.l1]
    have hw : wrap64 ((j : Int) - 1) = ((j - 1 : Nat) : Int) := by rw [wrap_id (by omega) (by omega)]; omega
    rw [if_pos (by omega), hw, if_pos (by omega), if_pos (by omega), white_eq, Option.bind_some]
    simp only [back]
    by_cases hb : ws (bt s ((j - 1 : Nat) : Int)) = true
    · rw [if_pos hb, if_pos hb]
      exact ih k a (j - 1) (by omega) (by omega) (by omega) (by omega)
    · rw [if_neg hb, if_neg hb, if_pos (by omega), if_pos (by omega), if_pos (by omega)]
      rfl
theorem spec_trim_l0 (s : ByteArray) (hs : s.size ≤ 140737488351232) : ∀ (d k i : Nat), i ≤ s.size → s.size - i = d → d + s.size + 3 < k → spec_Trim.l0 k s (i : Int) = some (s.extract (lead s d i) (back s (s.size - lead s d i) s.size)) := by
  intro d
  induction d with
  | zero =>
    intro k i h1 hd hk
    obtain ⟨k, rfl⟩ : ∃ m, k = m + 2 := ⟨k - 2, by omega⟩
    simp only [spec_Trim.l0]
    rw [if_neg (by omega)]
    simp only [spec_Trim.j1, lead]
    exact spec_trim_l1 s hs _ k i s.size h1 (Nat.le_refl _) rfl (by omega)
  | succ d ih =>
    intro k i h1 hd hk
    obtain ⟨k, rfl⟩ : ∃ m, k = m + 2 := ⟨k - 2, by omega⟩
    rw [spec_Trim.l0.eq_def]
    have hw : wrap64 ((i : Int) + 1) = ((i + 1 : Nat) : Int) := by rw [wrap_id (by omega) (by omega)]; omega
    dsimp only
    rw [if_pos (by omega), if_pos (by omega), white_eq, Option.bind_some]
    simp only [lead]
    by_cases hb : ws (bt s (i : Int)) = true
    · rw [if_pos hb, if_pos hb, hw]
      exact ih (k + 1) (i + 1) (by omega) (by omega) (by omega)
    · rw [if_neg hb, if_neg hb]
      simp only [spec_Trim.j1]
      exact spec_trim_l1 s hs _ k i s.size h1 (Nat.le_refl _) rfl (by omega)
theorem impl_trim_l1 (s : ByteArray) (hs : s.size ≤ 140737488351232) : ∀ (d k a j : Nat), a ≤ j → j ≤ s.size → j - a = d → d < k → impl_Trim.l1 k (s.extract a j) = some (s.extract a (back s d j)) := by
  intro d
  induction d with
  | zero =>
    intro k a j h1 h2 hd hk
    obtain ⟨k, rfl⟩ : ∃ m, k = m + 1 := ⟨k - 1, by omega⟩
    simp only [impl_Trim.l1]
    rw [if_pos ((toList_nil _).2 (by rw [size_extract]; omega))]
    rfl
  | succ d ih =>
    intro k a j h1 h2 hd hk
    obtain ⟨k, rfl⟩ : ∃ m, k = m + 1 := ⟨k - 1, by omega⟩
    have hz : (s.extract a j).size = d + 1 := by rw [size_extract]; omega
    simp only [impl_Trim.l1]
    have hw : wrap64 (((s.extract a j).size : Int) - 1) = ((d : Nat) : Int) := by rw [hz, wrap_id (by omega) (by omega)]; omega
    have hb0 : bt (s.extract a j) ((d : Nat) : Int) = bt s ((j - 1 : Nat) : Int) := by
      rw [bt_extract s a j _ (by omega) (by omega) h2]
      congr 1; omega
    rw [if_neg (fun h => by have := (toList_nil _).1 h; omega), hw, if_pos (by omega), if_pos (by omega), isSpace_eq, Option.bind_some, Int.toNat_natCast, ByteArray.extract_extract, hb0]
    simp only [back]
    have he : s.extract (a + 0) (min (a + d) j) = s.extract a (j - 1) := by congr 1; omega
    by_cases hb : ws (bt s ((j - 1 : Nat) : Int)) = true
    · rw [if_pos hb, if_pos hb, if_pos (by omega), he]
      exact ih k a (j - 1) (by omega) (by omega) (by omega) (by omega)
    · rw [if_neg hb, if_neg hb]
theorem impl_trim_l0 (s : ByteArray) (hs : s.size ≤ 140737488351232) : ∀ (d k i : Nat), i ≤ s.size → s.size - i = d → d + s.size + 3 < k → impl_Trim.l0 k (s.extract i s.size) = some (s.extract (lead s d i) (back s (s.size - lead s d i) s.size)) := by
  intro d
  induction d with
  | zero =>
    intro k i h1 hd hk
    obtain ⟨k, rfl⟩ : ∃ m, k = m + 2 := ⟨k - 2, by omega⟩
    rw [impl_Trim.l0.eq_def]
    dsimp only
    rw [if_pos ((toList_nil _).2 (by rw [size_extract]; omega))]
    simp only [impl_Trim.j1, lead]
    exact impl_trim_l1 s hs _ k i s.size h1 (Nat.le_refl _) rfl (by omega)
  | succ d ih =>
    intro k i h1 hd hk
    obtain ⟨k, rfl⟩ : ∃ m, k = m + 2 := ⟨k - 2, by omega⟩
    have hz : (s.extract i s.size).size = d + 1 := by rw [size_extract]; omega
    rw [impl_Trim.l0.eq_def]
    dsimp only
    have hb0 : bt (s.extract i s.size) 0 = bt s (i : Int) := by
      rw [bt_extract s i s.size 0 (by omega) (by omega) (Nat.le_refl _)]
      congr 1
    have he : (s.extract i s.size).extract 1 (s.extract i s.size).size = s.extract (i + 1) s.size := by
      rw [ByteArray.extract_extract, hz]; congr 1; omega
    rw [if_neg (fun h => by have := (toList_nil _).1 h; omega), if_pos (by omega), isSpace_eq, Option.bind_some, hb0, he]
    simp only [lead]
    by_cases hb : ws (bt s (i : Int)) = true
    · rw [if_pos hb, if_pos hb, if_pos (by omega)]
      exact ih (k + 1) (i + 1) (by omega) (by omega) (by omega)
    · rw [if_neg hb, if_neg hb]
      simp only [impl_Trim.j1]
      exact impl_trim_l1 s hs _ k i s.size h1 (Nat.le_refl _) rfl (by omega)
theorem spec_Trim_eq (s : ByteArray) (hs : s.size ≤ 140737488351232) (k : Nat) (hk : 2 * s.size + 3 < k) : spec_Trim.f k s = some (trimS s) := by
  unfold spec_Trim.f trimS
  exact spec_trim_l0 s hs s.size k 0 (Nat.zero_le _) (by omega) (by omega)
theorem impl_Trim_eq (s : ByteArray) (hs : s.size ≤ 140737488351232) (k : Nat) (hk : 2 * s.size + 3 < k) : impl_Trim.f k s = some (trimS s) := by
  unfold impl_Trim.f trimS
  have h := impl_trim_l0 s hs s.size k 0 (Nat.zero_le _) (by omega) (by omega)
  rw [ByteArray.extract_zero_size] at h
  exact h

end Go.Proofs.Ytahgiblifkchaaa.P
