/- Plain laws of our own (TagOk): about numbers and lists alone; no condition beyond those written. -/
import Derived.Test.YtahgiblifkchaaaLKit
import Derived.Test.YtahgiblifkchaaaPximpl14a
import Derived.Test.YtahgiblifkchaaaPxspec14a
namespace Go.Proofs.Ytahgiblifkchaaa.P
open Go.RowKit Go.Proofs.YtahgiblifkchaaaW.PrintWords Go.Proofs.YtahgiblifkchaaaW.PrintLast Go.Proofs.YtahgiblifkchaaaW.PrintMore
/-! ### TagOk, WeakSame -/
def strip (a : ByteArray) : ByteArray := if 2 ≤ a.size ∧ (a.extract 0 2).toList = ([87, 47] : List UInt8) then a.extract 2 a.size else a
theorem strong_eq (a : ByteArray) : spec_l14strong.f a = some (strip a) := by
  unfold spec_l14strong.f strip
  by_cases h : 2 ≤ a.size
  · rw [if_pos (by omega), if_pos (by omega), if_pos (by omega)]
    by_cases h2 : (a.extract 0 2).toList = ([87, 47] : List UInt8)
    · rw [if_pos h2, if_pos ⟨h, h2⟩]
    · rw [if_neg h2, if_neg (fun z => h2 z.2)]
  · rw [if_neg (by omega), if_neg (fun z => h z.1)]
theorem has_prefix_eq (a : ByteArray) : stringslite_HasPrefix.f a (⟨#[87, 47]⟩ : ByteArray) = some (decide (2 ≤ a.size) && ((a.extract 0 2).toList == ([87, 47] : List UInt8))) := by
  have hz : ((⟨#[87, 47]⟩ : ByteArray)).size = 2 := rfl
  have hl : ((⟨#[87, 47]⟩ : ByteArray)).toList = ([87, 47] : List UInt8) := by rw [ByteArray.toList_eq]
  unfold stringslite_HasPrefix.f
  rw [hz, hl]
  by_cases h : 2 ≤ a.size
  · rw [if_pos (by omega), if_pos (by omega), if_pos (by omega), show decide (2 ≤ a.size) = true from decide_eq_true h, Bool.true_and]
    rfl
  · rw [if_neg (by omega), show decide (2 ≤ a.size) = false from decide_eq_false h, Bool.false_and]
theorem trim_eq (a : ByteArray) : strings_TrimPrefix.f a (⟨#[87, 47]⟩ : ByteArray) = some (strip a) := by
  have hz : ((⟨#[87, 47]⟩ : ByteArray)).size = 2 := rfl
  unfold strings_TrimPrefix.f stringslite_TrimPrefix.f strip
  rw [has_prefix_eq, Option.bind_some, hz]
  by_cases h : 2 ≤ a.size ∧ (a.extract 0 2).toList = ([87, 47] : List UInt8)
  · rw [if_pos h, if_pos (by simp [h.1, h.2]), if_pos (by omega), if_pos (by omega)]
    rfl
  · rw [if_neg h, if_neg (by simpa using h)]
    rfl
def tch (t : ByteArray) : Nat → Int → Bool
  | 0, _ => true
  | d + 1, i => (decide (32 < bt t i) && (decide (bt t i ≠ 34) && decide (bt t i ≠ 127))) && tch t d (i + 1)
theorem tch_extract (t : ByteArray) (b : Nat) (hb : b ≤ t.size) : ∀ (d : Nat) (i : Int), 0 ≤ i → i + d ≤ (b : Int) - 1 → tch (t.extract 1 b) d i = tch t d (i + 1) := by
  intro d
  induction d with
  | zero => intro i _ _; rfl
  | succ d ih =>
    intro i h0 hi
    simp only [tch]
    rw [bt_extract t 1 b i h0 (by omega) hb, ih (i + 1) (by omega) (by omega), show ((1 : Nat) : Int) + i = i + 1 by omega]
theorem tag_char (c : Int) : impl_TagOk_1.f c = some (decide (32 < c) && (decide (c ≠ 34) && decide (c ≠ 127))) := by
  unfold impl_TagOk_1.f
  by_cases h : c > 32
  · rw [if_pos h, show decide (32 < c) = true from decide_eq_true h]
    by_cases h2 : c = 34
    · rw [if_pos h2]; simp [h2]
    · rw [if_neg h2]; simp [h2, bne]
      by_cases h3 : c = 127 <;> simp [h3]
  · rw [if_neg h, show decide (32 < c) = false from decide_eq_false h]; simp
theorem all_tag (s : ByteArray) (hs : s.size ≤ 140737488351232) : ∀ (d k : Nat) (i : Int), 0 ≤ i → (s.size : Int) - i = d → d < k →
    impl_all__impl_TagOk_1.l0 k s i = some (tch s d i) := by
  intro d
  induction d with
  | zero =>
    intro k i h0 hd hk
    obtain ⟨k, rfl⟩ : ∃ m, k = m + 1 := ⟨k - 1, by omega⟩
    simp only [impl_all__impl_TagOk_1.l0]
    rw [if_neg (by omega)]
    rfl
  | succ d ih =>
    intro k i h0 hd hk
    obtain ⟨k, rfl⟩ : ∃ m, k = m + 1 := ⟨k - 1, by omega⟩
    simp only [impl_all__impl_TagOk_1.l0]
    rw [if_pos (by omega), if_pos h0, tag_char, Option.bind_some, wrap_id (x := i + 1) (by omega) (by omega), ih k (i + 1) (by omega) (by omega) (by omega)]
    simp only [tch]
    cases (decide (32 < bt s i) && (decide (bt s i ≠ 34) && decide (bt s i ≠ 127))) <;> simp
theorem spec_tag_loop (t : ByteArray) (ht : t.size ≤ 140737488351232) (h2 : 2 ≤ t.size) : ∀ (d k : Nat) (i : Int), 0 ≤ i → (t.size : Int) - 1 - i = d → d < k →
    spec_TagOk.l0 k t i = some (tch t d i) := by
  intro d
  induction d with
  | zero =>
    intro k i h0 hd hk
    obtain ⟨k, rfl⟩ : ∃ m, k = m + 1 := ⟨k - 1, by omega⟩
    simp only [spec_TagOk.l0]
    rw [wrap_id (x := (t.size : Int) - 1) (by omega) (by omega), if_neg (by omega)]
    rfl
  | succ d ih =>
    intro k i h0 hd hk
    obtain ⟨k, rfl⟩ : ∃ m, k = m + 1 := ⟨k - 1, by omega⟩
    simp only [spec_TagOk.l0]
    rw [wrap_id (x := (t.size : Int) - 1) (by omega) (by omega), if_pos (by omega), if_pos h0, if_pos (by omega), wrap_id (x := i + 1) (by omega) (by omega), ih k (i + 1) (by omega) (by omega) (by omega)]
    simp only [tch]
    by_cases c1 : bt t i ≤ 32
    · rw [if_pos c1, show decide (32 < bt t i) = false from decide_eq_false (by omega)]; simp
    · rw [if_neg c1, show decide (32 < bt t i) = true from decide_eq_true (by omega)]
      by_cases c2 : bt t i = 127
      · rw [if_pos c2]; simp [c2]
      · rw [if_neg c2]
        by_cases c3 : bt t i = 34
        · rw [if_pos c3]; simp [c3]
        · rw [if_neg c3]; simp [c2, c3]
def tagOf (a : ByteArray) : Bool :=
  if (a.size : Int) > 190 then false else if ((strip a).size : Int) < 2 then false else if bt (strip a) 0 = 34 then (if bt (strip a) (((strip a).size : Int) - 1) = 34 then tch (strip a) ((strip a).size - 2) 1 else false) else false
theorem strip_size (a : ByteArray) : (strip a).size ≤ a.size := by
  unfold strip
  split
  · rw [size_extract]; omega
  · omega
theorem spec_TagOk_eq (a : ByteArray) (hs : a.size ≤ 140737488351232) (k : Nat) (hk : a.size + 2 < k) : spec_TagOk.f k a = some (tagOf a) := by
  have hz := strip_size a
  unfold spec_TagOk.f tagOf
  rw [strong_eq, Option.bind_some]
  generalize strip a = t at *
  obtain ⟨k, rfl⟩ : ∃ m, k = m + 1 := ⟨k - 1, by omega⟩
  by_cases h1 : (a.size : Int) > 190
  · rw [if_pos h1, if_pos h1]; simp [spec_TagOk.j0]
  · rw [if_neg h1, if_neg h1]
    by_cases h2 : (t.size : Int) < 2
    · rw [if_pos h2, if_pos h2]; simp [spec_TagOk.j0]
    · rw [if_neg h2, if_neg h2, if_pos (by omega)]
      by_cases h3 : bt t 0 = 34
      · rw [if_pos h3, if_pos h3, wrap_id (x := (t.size : Int) - 1) (by omega) (by omega), if_pos (by omega), if_pos (by omega)]
        simp only [spec_TagOk.j0]
        by_cases h4 : bt t ((t.size : Int) - 1) = 34
        · rw [if_pos h4, if_neg (by simp [h4]), spec_tag_loop t (by omega) (by omega) (t.size - 2) k 1 (by omega) (by omega) (by omega)]
        · rw [if_neg h4, if_pos (by simpa [bne] using h4)]
      · rw [if_neg h3, if_neg h3]; simp [spec_TagOk.j0]
theorem impl_TagOk_eq (a : ByteArray) (hs : a.size ≤ 140737488351232) (k : Nat) (hk : a.size + 2 < k) : impl_TagOk.f k a = some (tagOf a) := by
  have hz := strip_size a
  unfold impl_TagOk.f tagOf
  rw [trim_eq, Option.bind_some]
  generalize strip a = t at *
  by_cases h1 : (a.size : Int) > 190
  · rw [if_pos h1, if_pos h1]
  · rw [if_neg h1, if_neg h1]
    by_cases h2 : (t.size : Int) < 2
    · rw [if_pos h2, if_pos h2]
    · rw [if_neg h2, if_neg h2, if_pos (by omega)]
      by_cases h3 : bt t 0 = 34
      · rw [if_pos h3, if_pos h3, wrap_id (x := (t.size : Int) - 1) (by omega) (by omega), if_pos (by omega), if_pos (by omega)]
        by_cases h4 : bt t ((t.size : Int) - 1) = 34
        · have e : (((t.size : Int) - 1) : Int).toNat = t.size - 1 := by omega
          have hz2 : (t.extract 1 (t.size - 1)).size = t.size - 2 := by rw [size_extract]; omega
          rw [if_pos h4, if_pos h4, if_pos (by omega), if_pos (by omega), e]
          unfold impl_all__impl_TagOk_1.f
          rw [all_tag (t.extract 1 (t.size - 1)) (by omega) (t.size - 2) k 0 (by omega) (by omega) (by omega), tch_extract t (t.size - 1) (by omega) (t.size - 2) 0 (by omega) (by omega)]
          rfl
        · rw [if_neg h4, if_neg h4]
      · rw [if_neg h3, if_neg h3]
theorem WeakSame_eq (a b : ByteArray) (ha : a.size ≤ 140737488351232) (hb : b.size ≤ 140737488351232) (k : Nat) (hk : a.size + b.size + 2 < k) : impl_WeakSame.f k a b = spec_WeakSame.f k a b := by
  unfold impl_WeakSame.f spec_WeakSame.f
  rw [spec_TagOk_eq a ha k (by omega), impl_TagOk_eq a ha k (by omega), spec_TagOk_eq b hb k (by omega), impl_TagOk_eq b hb k (by omega), trim_eq, trim_eq, strong_eq, strong_eq]
theorem spec_WeakSame_some (a b : ByteArray) (ha : a.size ≤ 140737488351232) (hb : b.size ≤ 140737488351232) (k : Nat) (hk : a.size + b.size + 2 < k) : ∃ r, spec_WeakSame.f k a b = some r := by
  unfold spec_WeakSame.f
  rw [spec_TagOk_eq a ha k (by omega), spec_TagOk_eq b hb k (by omega), strong_eq, strong_eq]
  cases tagOf a <;> cases tagOf b <;> simp

end Go.Proofs.Ytahgiblifkchaaa.P
