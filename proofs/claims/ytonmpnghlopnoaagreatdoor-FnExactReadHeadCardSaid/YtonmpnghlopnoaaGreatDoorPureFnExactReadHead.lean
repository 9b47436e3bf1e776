import Derived.Test.YtonmpnghlopnoaaGreatDoorPxlawFnExactReadHead
import Derived.Test.YtonmpnghlopnoaaGreatDoorOwn
import Derived.Test.YtonmpnghlopnoaaGreatDoorPxauxd
import Derived.Test.YtonmpnghlopnoaaGreatDoorPx0
import Derived.Test.YtonmpnghlopnoaaGreatDoorPxauxe
import Derived.Test.YtonmpnghlopnoaaGreatDoorPxauxa
import Derived.Test.YtonmpnghlopnoaaGreatDoorPxauxb
import Derived.Test.YtonmpnghlopnoaaGreatDoorPxauxc
import Derived.Test.YtonmpnghlopnoaaGreatDoorPximpl01b
import Derived.Test.YtonmpnghlopnoaaGreatDoorPxliba
import Derived.Test.YtonmpnghlopnoaaGreatDoorPxspec01b
import Derived.Test.YtonmpnghlopnoaaGreatDoorPximpl01c
import Derived.Test.YtonmpnghlopnoaaGreatDoorPximpl01d
import Derived.Test.YtonmpnghlopnoaaGreatDoorPxspec01e
import Derived.Test.YtonmpnghlopnoaaGreatDoorPxspec01f
import Derived.Test.YtonmpnghlopnoaaGreatDoorPxspec01g
import Derived.Test.YtonmpnghlopnoaaGreatDoorPxspec05a
import Derived.Test.YtonmpnghlopnoaaGreatDoorPximpl01e
import Derived.Test.YtonmpnghlopnoaaGreatDoorPxspec01h
import Derived.Test.YtonmpnghlopnoaaGreatDoorPximpl05a
import Derived.Test.YtonmpnghlopnoaaGreatDoorPximpl05b
import Derived.Test.YtonmpnghlopnoaaGreatDoorPxlibb
import Derived.Test.YtonmpnghlopnoaaGreatDoorPxspec05b
import Derived.Test.YtonmpnghlopnoaaGreatDoorPximpl06a
import Derived.Test.YtonmpnghlopnoaaGreatDoorPximpl06b
import Derived.Test.YtonmpnghlopnoaaGreatDoorPxspec06a
import Derived.Test.YtonmpnghlopnoaaGreatDoorPxspec06b
import Derived.Test.YtonmpnghlopnoaaGreatDoorPxspec06c
import Derived.Test.YtonmpnghlopnoaaGreatDoorPximpl06c
import Derived.Test.YtonmpnghlopnoaaGreatDoorPxspec06d
section
/- Plain laws of our own (Kit): about numbers and lists alone; no condition beyond those written. -/
namespace Go.Proofs.YtonmpnghlopnoaaGreatDoor.P
open Go.RowKit Go.Proofs.YtonmpnghlopnoaaGreatDoorW.PrintWords Go.Proofs.YtonmpnghlopnoaaGreatDoorW.PrintLast Go.Proofs.YtonmpnghlopnoaaGreatDoorW.PrintMore
set_option linter.unusedVariables false
set_option linter.unusedSimpArgs false
set_option maxHeartbeats 2000000
theorem wrap_id {x : Int} (h : -9223372036854775808 ≤ x) (h' : x ≤ 9223372036854775807) : wrap64 x = x := by unfold wrap64; omega
theorem size_extract (s : ByteArray) (a b : Nat) : (s.extract a b).size = min b s.size - a := ByteArray.size_extract
theorem bt_extract (s : ByteArray) (a b : Nat) (i : Int) (h0 : 0 ≤ i) (h1 : i < (b : Int) - a) (h2 : b ≤ s.size) : bt (s.extract a b) i = bt s (a + i) := by
  obtain ⟨n, rfl⟩ := Int.eq_ofNat_of_zero_le h0
  unfold bt
  have e : ((a : Int) + (n : Int)).toNat = a + n := by omega
  rw [e]
  have h3 : n < (s.extract a b).size := by rw [ByteArray.size_extract]; omega
  rw [dif_pos (show ((n : Int)).toNat < (s.extract a b).size by simpa using h3), dif_pos (show a + n < s.size by omega)]
  simp only [Int.toNat_natCast]
  rw [ByteArray.getElem_extract]

end Go.Proofs.YtonmpnghlopnoaaGreatDoor.P
end

section
/- Plain laws of our own (MarkText): about numbers and lists alone; no condition beyond those written. -/
namespace Go.Proofs.YtonmpnghlopnoaaGreatDoor.P
open Go.RowKit Go.Proofs.YtonmpnghlopnoaaGreatDoorW.PrintWords Go.Proofs.YtonmpnghlopnoaaGreatDoorW.PrintLast Go.Proofs.YtonmpnghlopnoaaGreatDoorW.PrintMore
set_option linter.unusedVariables false
set_option linter.unusedSimpArgs false
set_option maxHeartbeats 2000000
theorem markText_l_total : ∀ (n k : Nat) (x : Int) (acc : ByteArray), 0 ≤ x → x < (10 : Int) ^ n → x ≤ 9223372036854775807 → acc.size + n ≤ 1000 → n < k → ∃ t, laws_markText.l0 k x acc = some t := by
  intro n
  induction n with
  | zero =>
    intro k x acc h0 h1 hx hs hk
    obtain ⟨k, rfl⟩ : ∃ m, k = m + 1 := ⟨k - 1, by omega⟩
    simp only [laws_markText.l0]
    have hx0 : x = 0 := by
      have h10 : (10 : Int) ^ 0 = 1 := by decide
      omega
    rw [if_neg (by omega), if_pos (by omega)]
    exact ⟨_, rfl⟩
  | succ n ih =>
    intro k x acc h0 h1 hx hs hk
    obtain ⟨k, rfl⟩ : ∃ m, k = m + 1 := ⟨k - 1, by omega⟩
    simp only [laws_markText.l0]
    by_cases hp : x > 0
    · rw [if_pos hp, Option.bind_some, if_pos (by rw [strOfNums_size]; simp; omega)]
      have hd : Int.tdiv x 10 = x / 10 := Int.tdiv_eq_ediv_of_nonneg h0
      rw [hd, wrap_id (x := x / 10) (by omega) (by omega)]
      have hpow : (10 : Int) ^ (n + 1) = 10 ^ n * 10 := Int.pow_succ 10 n
      exact ih k (x / 10) _ (by omega) (by omega) (by omega) (by rw [ByteArray.size_append, strOfNums_size]; simp; omega) (by omega)
    · rw [if_neg hp, if_pos (by omega)]
      exact ⟨_, rfl⟩
theorem markText_total (x : Int) (hx : x ≤ 9223372036854775807) : ∃ t, laws_markText.f 25 x = some t := by
  unfold laws_markText.f
  by_cases h : x ≤ 0
  · rw [if_pos h]; exact ⟨_, rfl⟩
  · rw [if_neg h]
    have h10 : (10 : Int) ^ 19 = 10000000000000000000 := by decide
    exact markText_l_total 19 25 x _ (by omega) (by omega) hx (by decide) (by decide)
def mt (x : Int) : ByteArray := (laws_markText.f 25 x).getD ⟨#[]⟩
theorem mt_eq (x : Int) (hx : x ≤ 9223372036854775807) (k : Nat) (hk : 25 ≤ k) : laws_markText.f k x = some (mt x) := by
  obtain ⟨t, ht⟩ := markText_total x hx
  have : mt x = t := by unfold mt; rw [ht]; rfl
  rw [this]
  exact at_rounds (fun k => laws_markText.mono x k) hk ht

end Go.Proofs.YtonmpnghlopnoaaGreatDoor.P
end

section
/- Plain laws of our own (FieldS): about numbers and lists alone; no condition beyond those written. -/
namespace Go.Proofs.YtonmpnghlopnoaaGreatDoor.P
open Go.RowKit Go.Proofs.YtonmpnghlopnoaaGreatDoorW.PrintWords Go.Proofs.YtonmpnghlopnoaaGreatDoorW.PrintLast Go.Proofs.YtonmpnghlopnoaaGreatDoorW.PrintMore
set_option linter.unusedVariables false
set_option linter.unusedSimpArgs false
set_option maxHeartbeats 2000000
theorem rd_set_FieldS (l : List S41) (n : Nat) (v : S41) (h : n < l.length) : rd_T41 (l.set n v) (n : Int) = v := by
  unfold rd_T41
  rw [Int.toNat_natCast, List.getD_eq_getElem?_getD]
  simp [h]
theorem mark_held_FieldS : ∀ (d k : Nat) (l : List S41) (c i : Int), 0 ≤ i → (l.length : Int) - i = d → l.length ≤ 281474976710656 → 0 ≤ c → c + 2 * d ≤ 1152921504606846976 → d + 30 < k →
    ∃ l', laws_markFieldS.l0 k l c i = some (c + 2 * d, l') ∧ l'.length = l.length ∧ (∀ j : Nat, (j : Int) < i → l'[j]? = l[j]?) ∧ laws_heldFieldS.l0 k l' c i = some (c + 2 * d) := by
  intro d
  induction d with
  | zero =>
    intro k l c i h0 hd hl hc hcd hk
    obtain ⟨k, rfl⟩ : ∃ m, k = m + 1 := ⟨k - 1, by omega⟩
    refine ⟨l, ?_, rfl, fun _ _ => rfl, ?_⟩
    · simp only [laws_markFieldS.l0]
      rw [if_neg (by omega)]
      simp
    · simp only [laws_heldFieldS.l0]
      rw [if_neg (by omega)]
      simp
  | succ d ih =>
    intro k l c i h0 hd hl hc hcd hk
    obtain ⟨k, rfl⟩ : ∃ m, k = m + 1 := ⟨k - 1, by omega⟩
    obtain ⟨n, rfl⟩ := Int.eq_ofNat_of_zero_le h0
    have hn : n < l.length := by omega
    have hw1 : wrap64 (c + 1) = c + 1 := wrap_id (by omega) (by omega)
    have hw2 : wrap64 (c + 1 + 1) = c + 1 + 1 := wrap_id (by omega) (by omega)
    have hm0 : laws_markText.f k (c) = some (mt (c)) := mt_eq _ (by omega) k (by omega)
    have hm1 : laws_markText.f k (c + 1) = some (mt (c + 1)) := mt_eq _ (by omega) k (by omega)
    have hwi : wrap64 ((n : Int) + 1) = ((n + 1 : Nat) : Int) := by rw [wrap_id (by omega) (by omega)]; omega
    have hlt : ((n : Int) < (l.length : Int)) = True := eq_true (by omega)
    have hge : (0 ≤ (n : Int)) = True := eq_true h0
    obtain ⟨l', e1, e2, e3, e4⟩ := ih k (l.set n (⟨mt (c), mt (c + 1)⟩)) (c + 1 + 1) ((n + 1 : Nat) : Int) (by omega) (by rw [List.length_set]; omega) (by rw [List.length_set]; omega) (by omega) (by omega) (by omega)
    have hcc : c + 1 + 1 + 2 * (d : Int) = c + 2 * ((d + 1 : Nat) : Int) := by omega
    rw [hcc] at e1 e4
    rw [List.length_set] at e2
    have hat : l'[n]? = some (⟨mt (c), mt (c + 1)⟩) := by rw [e3 n (by omega)]; simp [hn]
    have hrd : rd_T41 l' (n : Int) = ⟨mt (c), mt (c + 1)⟩ := by
      unfold rd_T41
      rw [Int.toNat_natCast, List.getD_eq_getElem?_getD, hat]
      rfl
    have hlt' : ((n : Int) < (l'.length : Int)) = True := eq_true (by omega)
    refine ⟨l', ?_, e2, fun j hj => ?_, ?_⟩
    · simp only [laws_markFieldS.l0, hlt, hge, if_true, Option.bind_some, hw1, hw2, hm0, hm1, hwi, Int.toNat_natCast, List.set_set, List.length_set, hn, rd_set_FieldS]
      exact e1
    · rw [e3 j (by omega), List.getElem?_set_ne (by omega)]
    · simp only [laws_heldFieldS.l0, hlt', hge, if_true, Option.bind_some, hw1, hw2, hm0, hm1, hrd, hwi, bne_self_eq_false, Bool.false_eq_true, if_false]
      exact e4
theorem mark_then_FieldS (l : List S41) (c : Int) (hl : l.length ≤ 281474976710656) (hc : 0 ≤ c) (hcd : c + 2 * l.length ≤ 1152921504606846976) :
    ∃ l', ∀ k, l.length + 31 ≤ k → laws_markFieldS.f k l c = some (c + 2 * l.length, l') ∧ laws_heldFieldS.f k l' c = some (c + 2 * l.length) := by
  obtain ⟨l', e1, _, _, e4⟩ := mark_held_FieldS l.length (l.length + 31) l c 0 (by omega) (by omega) hl hc hcd (by omega)
  exact ⟨l', fun k hk => ⟨at_rounds (g := fun k => laws_markFieldS.f k l c) (fun k => laws_markFieldS.mono l c k) hk e1, at_rounds (g := fun k => laws_heldFieldS.f k l' c) (fun k => laws_heldFieldS.mono l' c k) hk e4⟩⟩

end Go.Proofs.YtonmpnghlopnoaaGreatDoor.P
end

section
/- Plain laws of our own (FieldEq): about numbers and lists alone; no condition beyond those written. -/
namespace Go.Proofs.YtonmpnghlopnoaaGreatDoor.P
open Go.RowKit Go.Proofs.YtonmpnghlopnoaaGreatDoorW.PrintWords Go.Proofs.YtonmpnghlopnoaaGreatDoorW.PrintLast Go.Proofs.YtonmpnghlopnoaaGreatDoorW.PrintMore
set_option linter.unusedVariables false
set_option linter.unusedSimpArgs false
set_option maxHeartbeats 2000000
theorem eq_refl_FieldS : ∀ (d k : Nat) (l : List S41) (i : Int), 0 ≤ i → (l.length : Int) - i = d → l.length ≤ 281474976710656 → d < k → laws_eqFieldS.l0 k l l i = some true := by
  intro d
  induction d with
  | zero =>
    intro k l i h0 hd hl hk
    obtain ⟨k, rfl⟩ : ∃ m, k = m + 1 := ⟨k - 1, by omega⟩
    simp only [laws_eqFieldS.l0]
    rw [if_neg (by omega)]
  | succ d ih =>
    intro k l i h0 hd hl hk
    obtain ⟨k, rfl⟩ : ∃ m, k = m + 1 := ⟨k - 1, by omega⟩
    simp only [laws_eqFieldS.l0]
    rw [if_pos (by omega), if_pos h0, if_pos (by omega), show laws_eqField.f (rd_T41 l i).f0 (rd_T41 l i).f1 (rd_T41 l i).f0 (rd_T41 l i).f1 = some true by unfold laws_eqField.f; simp, Option.bind_some, if_pos rfl, wrap_id (by omega) (by omega)]
    exact ih k l (i + 1) (by omega) (by omega) hl (by omega)
theorem eq_self_FieldS (k : Nat) (l : List S41) (hl : l.length ≤ 281474976710656) (hk : l.length < k) : laws_eqFieldS.f k l l = some true := by
  unfold laws_eqFieldS.f
  rw [if_pos rfl]
  exact eq_refl_FieldS l.length k l 0 (by omega) (by omega) hl hk

end Go.Proofs.YtonmpnghlopnoaaGreatDoor.P
end

section
/- Plain laws of our own (MsgEq): about numbers and lists alone; no condition beyond those written. -/
namespace Go.Proofs.YtonmpnghlopnoaaGreatDoor.P
open Go.RowKit Go.Proofs.YtonmpnghlopnoaaGreatDoorW.PrintWords Go.Proofs.YtonmpnghlopnoaaGreatDoorW.PrintLast Go.Proofs.YtonmpnghlopnoaaGreatDoorW.PrintMore
set_option linter.unusedVariables false
set_option linter.unusedSimpArgs false
set_option maxHeartbeats 2000000
theorem eqMsg_self (m0 m1 m3 m6 : ByteArray) (m2 : Int) (m4 : Bool) (l : List S41) (hl : l.length ≤ 20) (k : Nat) (hk : 20 < k) : laws_eqMsg.f k m0 m1 m2 m3 m4 l m6 m0 m1 m2 m3 m4 l m6 = some true := by
  unfold laws_eqMsg.f
  rw [if_pos rfl, if_pos rfl, if_pos rfl, if_pos rfl, if_neg (by simp), eq_self_FieldS k l (by omega) (by omega), Option.bind_some, if_pos rfl, if_pos rfl]

end Go.Proofs.YtonmpnghlopnoaaGreatDoor.P
end

section
/- Plain laws of our own (Within): about numbers and lists alone; no condition beyond those written. -/
namespace Go.Proofs.YtonmpnghlopnoaaGreatDoor.P
open Go.RowKit Go.Proofs.YtonmpnghlopnoaaGreatDoorW.PrintWords Go.Proofs.YtonmpnghlopnoaaGreatDoorW.PrintLast Go.Proofs.YtonmpnghlopnoaaGreatDoorW.PrintMore
set_option linter.unusedVariables false
set_option linter.unusedSimpArgs false
set_option maxHeartbeats 2000000
theorem within_eq (a b c : Int) : impl_within.f a b c = some (decide (b ≤ a ∧ a ≤ c)) := by
  unfold impl_within.f
  by_cases h : b ≤ a
  · rw [if_pos h]; simp [h]
  · rw [if_neg h]; simp [h]

end Go.Proofs.YtonmpnghlopnoaaGreatDoor.P
end

section
/- Plain laws of our own (Line): about numbers and lists alone; no condition beyond those written. -/
namespace Go.Proofs.YtonmpnghlopnoaaGreatDoor.P
open Go.RowKit Go.Proofs.YtonmpnghlopnoaaGreatDoorW.PrintWords Go.Proofs.YtonmpnghlopnoaaGreatDoorW.PrintLast Go.Proofs.YtonmpnghlopnoaaGreatDoorW.PrintMore
set_option linter.unusedVariables false
set_option linter.unusedSimpArgs false
set_option maxHeartbeats 2000000
theorem first_or_none (p : Nat → Bool) (hi : Nat) : ∀ d lo, lo + d = hi → (∃ n, lo ≤ n ∧ n < hi ∧ p n = true ∧ ∀ m, lo ≤ m → m < n → p m = false) ∨ (∀ m, lo ≤ m → m < hi → p m = false) := by
  intro d
  induction d with
  | zero => intro lo h; exact .inr fun m h1 h2 => by omega
  | succ d ih =>
    intro lo h
    cases hp : p lo with
    | true => exact .inl ⟨lo, by omega, by omega, hp, fun m h1 h2 => by omega⟩
    | false =>
      rcases ih (lo + 1) (by omega) with ⟨n, h1, h2, h3, h4⟩ | h4
      · exact .inl ⟨n, by omega, h2, h3, fun m m1 m2 => by
          by_cases e : m = lo
          · rw [e]; exact hp
          · exact h4 m (by omega) m2⟩
      · exact .inr fun m m1 m2 => by
          by_cases e : m = lo
          · rw [e]; exact hp
          · exact h4 m (by omega) m2
theorem skip_to {α : Type} (F : Nat → Int → Option α) (lo hi : Nat) (step : ∀ k (i : Nat), lo ≤ i → i < hi → F (k + 1) (i : Int) = F k ((i + 1 : Nat) : Int)) :
    ∀ (d k i : Nat), lo ≤ i → i + d = hi → F (k + d) (i : Int) = F k (hi : Int) := by
  intro d
  induction d with
  | zero => intro k i _ h; rw [← h]; rfl
  | succ d ih =>
    intro k i h0 h
    rw [show k + (d + 1) = (k + d) + 1 by omega, step _ i h0 (by omega)]
    exact ih k (i + 1) (by omega) (by omega)
theorem wrap_succ (m : Nat) (h : m ≤ 4611686018427387904) : wrap64 ((m : Int) + 1) = ((m + 1 : Nat) : Int) := by
  rw [wrap_id (by omega) (by omega)]; omega
theorem wrap_pred (m : Nat) (h : m ≤ 4611686018427387904) (h1 : 1 ≤ m) : wrap64 ((m : Int) - 1) = ((m - 1 : Nat) : Int) := by
  rw [wrap_id (by omega) (by omega)]; omega
theorem len_eq (s : ByteArray) : s.data.toList.length = s.size := Array.length_toList
theorem bt_at {s : ByteArray} {n : Nat} {b : UInt8} (h : s.data.toList[n]? = some b) : n < s.size ∧ bt s (n : Int) = (b.toNat : Int) := by
  obtain ⟨h1, h2⟩ := List.getElem?_eq_some_iff.mp h
  have h3 : n < s.size := by rw [len_eq] at h1; exact h1
  refine ⟨h3, ?_⟩
  unfold bt
  rw [dif_pos (show ((n : Int)).toNat < s.size by simpa using h3)]
  simp only [Int.toNat_natCast]
  rw [← h2]
  rfl
theorem at_bt {s : ByteArray} {n : Nat} (h : n < s.size) : ∃ b : UInt8, s.data.toList[n]? = some b ∧ bt s (n : Int) = (b.toNat : Int) := by
  have h1 : n < s.data.toList.length := by rw [len_eq]; exact h
  exact ⟨s.data.toList[n], List.getElem?_eq_getElem h1, (bt_at (List.getElem?_eq_getElem h1)).2⟩
theorem list_extract (s : ByteArray) (a b : Nat) : (s.extract a b).data.toList = (s.data.toList.take b).drop a := by
  rw [ByteArray.data_extract, Array.toList_extract, List.extract_eq_take_drop, List.take_drop]
  by_cases h : a ≤ b
  · rw [show a + (b - a) = b by omega]
  · rw [show a + (b - a) = a by omega, List.drop_of_length_le (by simp; omega), List.drop_of_length_le (by simp; omega)]
theorem at_extract {s : ByteArray} {a j : Nat} {b : UInt8} (h : (s.extract a s.size).data.toList[j]? = some b) : s.data.toList[a + j]? = some b := by
  rw [list_extract, List.getElem?_drop] at h
  rw [← h, List.getElem?_take]
  split
  · rfl
  · rw [List.getElem?_eq_none (by rw [len_eq]; omega)]
theorem ext_ext (s : ByteArray) (a b c d : Nat) (h : a + d ≤ b) : (s.extract a b).extract c d = s.extract (a + c) (a + d) := by
  rw [ByteArray.extract_extract, Nat.min_eq_left h]
theorem indexAny_eol_hit (s : ByteArray) (a n : Nat) (h0 : a ≤ n) (h1 : n < s.size) (h2 : bt s (n : Int) = 13 ∨ bt s (n : Int) = 10) (h3 : ∀ m : Nat, a ≤ m → m < n → bt s (m : Int) ≠ 13 ∧ bt s (m : Int) ≠ 10) :
    Lib.indexAny (s.extract a s.size).data.toList [13, 10] = ((n - a : Nat) : Int) := by
  obtain ⟨b, hb, hbt⟩ := at_bt h1
  have hx : (s.extract a s.size).data.toList[n - a]? = some b := by
    rw [list_extract, List.getElem?_drop, show a + (n - a) = n by omega, List.getElem?_take, if_pos (by omega)]
    exact hb
  refine Lib.indexAny_hit (x := b) (fun j y hj hy => ?_) hx ?_
  · have := h3 (a + j) (by omega) (by omega)
    have hq := (bt_at (at_extract hy)).2
    rw [hq] at this
    have h13 : y ≠ 13 := fun e => this.1 (by rw [e]; rfl)
    have h10 : y ≠ 10 := fun e => this.2 (by rw [e]; rfl)
    simp [h13, h10]
  · rw [hbt] at h2
    have : b = 13 ∨ b = 10 := by
      rcases h2 with h | h
      · exact .inl (UInt8.toNat_inj.1 (by show b.toNat = 13; omega))
      · exact .inr (UInt8.toNat_inj.1 (by show b.toNat = 10; omega))
    rcases this with rfl | rfl <;> decide
theorem indexAny_eol_none (s : ByteArray) (a : Nat) (h3 : ∀ m : Nat, a ≤ m → m < s.size → bt s (m : Int) ≠ 13 ∧ bt s (m : Int) ≠ 10) :
    Lib.indexAny (s.extract a s.size).data.toList [13, 10] = -1 := by
  refine Lib.indexAny_none (fun j y hj hy => ?_)
  have hq := bt_at (at_extract hy)
  have := h3 (a + j) (by omega) hq.1
  rw [hq.2] at this
  have h13 : y ≠ 13 := fun e => this.1 (by rw [e]; rfl)
  have h10 : y ≠ 10 := fun e => this.2 (by rw [e]; rfl)
  simp [h13, h10]
theorem ex_rounds (k d : Nat) (h : d < k) : ∃ q, k = q + 1 + d := ⟨k - 1 - d, by omega⟩
theorem ex_succ (k : Nat) (h : 0 < k) : ∃ q, k = q + 1 := ⟨k - 1, by omega⟩
abbrev LineT := ByteArray × ByteArray × Int × Int
def lineAt (s : ByteArray) (a d e : Nat) : LineT :=
  if bt s ((a + d : Nat) : Int) = 10 then ((⟨#[]⟩ : ByteArray), (⟨#[]⟩ : ByteArray), 0, 2)
  else if d + 1 = e then ((⟨#[]⟩ : ByteArray), (⟨#[]⟩ : ByteArray), 0, 1)
  else if bt s ((a + d + 1 : Nat) : Int) = 10 then (s.extract a (a + d), s, ((a + d + 2 : Nat) : Int), 0)
  else ((⟨#[]⟩ : ByteArray), (⟨#[]⟩ : ByteArray), 0, 2)
theorem spec_line_hit (s : ByteArray) (a d e : Nat) (hs : s.size = a + e) (hd : d < e) (hb : a + e ≤ 1048576) (h : bt s ((a + d : Nat) : Int) = 13 ∨ bt s ((a + d : Nat) : Int) = 10) (k : Nat) :
    spec_TakeLine.l0 (k + 1) ((a + d : Nat) : Int) s (a : Int) = some (lineAt s a d e) := by
  have hw := wrap_succ (a + d) (by omega)
  simp only [spec_TakeLine.l0, lineAt]
  rw [if_pos (by omega), if_pos (by omega), hw]
  by_cases e10 : bt s ((a + d : Nat) : Int) = 10
  · rw [if_pos e10, if_pos e10]
  · rw [if_neg e10, if_neg e10]
    have e13 : bt s ((a + d : Nat) : Int) = 13 := h.resolve_right e10
    rw [if_pos e13]
    clear h e13 e10 hw
    by_cases el : d + 1 = e
    · rw [if_pos (by omega), if_pos el]
    · rw [if_neg (by omega), if_neg el, if_pos (by omega), if_pos (by omega)]
      by_cases e2 : bt s ((a + d + 1 : Nat) : Int) = 10
      · rw [if_pos e2, if_pos e2]
        clear e2
        rw [if_pos (by omega), if_pos (by omega), if_pos (by omega), wrap_id (by omega) (by omega)]
        rfl
      · rw [if_neg e2, if_neg e2]
theorem impl_line_hit (s : ByteArray) (a d e : Nat) (hs : s.size = a + e) (hd : d < e) (hb : a + e ≤ 1048576) (h : bt s ((a + d : Nat) : Int) = 13 ∨ bt s ((a + d : Nat) : Int) = 10) (k : Nat)
    (hx : Lib.indexAny (s.extract a s.size).data.toList [13, 10] = (d : Int)) :
    impl_TakeLine.f (k + 1) s (a : Int) = some (lineAt s a d e) := by
  have hsz : (s.extract a s.size).size = e := by rw [size_extract]; omega
  have hc2 : impl_CurOk.f s (a : Int) = some true := by unfold impl_CurOk.f; rw [within_eq]; simp; omega
  have hix : strings_IndexAny.f (s.extract a s.size) (⟨#[13, 10]⟩ : ByteArray) = some (d : Int) := by
    unfold strings_IndexAny.f
    rw [if_pos ⟨rfl, by omega⟩, hx]
  have hbe : bt (s.extract a s.size) (d : Int) = bt s ((a + d : Nat) : Int) := by
    rw [bt_extract _ _ _ _ (by omega) (by omega) (by omega)]; rfl
  have hw := wrap_succ d (by omega)
  have hws := wrap_pred e (by omega) (by omega)
  clear hx
  unfold impl_TakeLine.f
  rw [hc2, Option.bind_some, if_pos rfl, if_pos (by omega), if_pos (by omega)]
  simp only [Int.toNat_natCast]
  rw [hix, Option.bind_some, if_neg (by omega), if_pos (by omega), hsz, if_pos (by omega), hbe, hws]
  clear hc2 hix
  unfold lineAt
  by_cases e10 : bt s ((a + d : Nat) : Int) = 10
  · rw [if_pos e10, if_neg (by rw [e10]; decide)]
    simp only [impl_TakeLine.j0]
    rw [if_neg (by decide), if_pos (by omega), hsz, if_pos (by omega), hbe, if_neg (by rw [e10]; decide)]
  · have e13 : bt s ((a + d : Nat) : Int) = 13 := h.resolve_right e10
    rw [if_neg e10, if_pos e13]
    clear h e10
    by_cases el : d + 1 = e
    · rw [if_pos el, show ((d : Int) == ((e - 1 : Nat) : Int)) = true from beq_iff_eq.2 (by omega)]
      simp only [impl_TakeLine.j0]
      rw [if_pos trivial]
    · have hbe2 : bt (s.extract a s.size) ((d + 1 : Nat) : Int) = bt s ((a + d + 1 : Nat) : Int) := by
        rw [bt_extract _ _ _ _ (by omega) (by omega) (by omega)]; congr 1
      rw [if_neg el, show ((d : Int) == ((e - 1 : Nat) : Int)) = false from beq_eq_false_iff_ne.2 (by omega)]
      simp only [impl_TakeLine.j0]
      rw [if_neg (by decide), if_pos (by omega), hsz, if_pos (by omega), hbe, if_pos e13, hw, if_pos (by omega), if_pos (by omega), hbe2]
      clear hbe hbe2 e13 hw hws
      by_cases e2 : bt s ((a + d + 1 : Nat) : Int) = 10
      · rw [if_pos e2, if_pos e2]
        clear e2
        rw [if_pos (by omega), ext_ext _ _ _ _ _ (by simp; omega), wrap_id (x := (a : Int) + (d : Int)) (by omega) (by omega), wrap_id (by omega) (by omega)]
        rfl
      · rw [if_neg e2, if_neg e2]
theorem lineAt_facts (s : ByteArray) (a d e : Nat) (hd : d < e) (h : (lineAt s a d e).2.2.2 = 0) : (lineAt s a d e).2.1 = s ∧ ∃ m : Nat, (lineAt s a d e).2.2.1 = (m : Int) ∧ a < m ∧ m ≤ a + e := by
  unfold lineAt at h ⊢
  split at h
  · exact absurd h (by decide)
  · split at h
    · exact absurd h (by decide)
    · split at h
      · rename_i h1 h2 h3
        rw [if_neg h1, if_neg h2, if_pos h3]
        exact ⟨rfl, a + d + 2, rfl, by omega, by omega⟩
      · exact absurd h (by decide)
theorem takeLine_eq (s : ByteArray) (hs : s.size ≤ 1048576) (a : Nat) (ha : a ≤ s.size) : ∃ r : LineT,
    (∀ k, s.size + 5 < k → spec_TakeLine.f k s (a : Int) = some r ∧ impl_TakeLine.f k s (a : Int) = some r) ∧
    (r.2.2.2 = 0 → r.2.1 = s ∧ ∃ m : Nat, r.2.2.1 = (m : Int) ∧ a < m ∧ m ≤ s.size) := by
  obtain ⟨e, he⟩ : ∃ e, s.size = a + e := ⟨s.size - a, by omega⟩
  have hc1 : spec_CurOk.f s (a : Int) = some true := by unfold spec_CurOk.f; rw [if_pos (by omega)]; simp; omega
  have skip := fun (hi : Nat) (hhi : hi ≤ s.size) (hno : ∀ m : Nat, a ≤ m → m < hi → bt s (m : Int) ≠ 13 ∧ bt s (m : Int) ≠ 10) =>
    skip_to (fun k i => spec_TakeLine.l0 k i s (a : Int)) a hi (fun k i h0 h1 => by
      have hb := hno i h0 h1
      have hw := wrap_succ i (by omega)
      simp only [spec_TakeLine.l0]
      rw [if_pos (by omega), if_pos (by omega), if_neg hb.2, if_neg hb.1, hw])
  rcases first_or_none (fun n => decide (bt s (n : Int) = 13 ∨ bt s (n : Int) = 10)) s.size e a he.symm with ⟨n, h1, h2, h3, h4⟩ | h4
  · obtain ⟨d, rfl⟩ : ∃ d, n = a + d := ⟨n - a, by omega⟩
    have h3' := of_decide_eq_true h3
    have h4' : ∀ m : Nat, a ≤ m → m < a + d → bt s (m : Int) ≠ 13 ∧ bt s (m : Int) ≠ 10 := fun m m1 m2 => by
      have := of_decide_eq_false (h4 m m1 m2); exact ⟨fun e => this (.inl e), fun e => this (.inr e)⟩
    have hx := indexAny_eol_hit s a (a + d) h1 h2 h3' h4'
    rw [show a + d - a = d by omega] at hx
    have hd : d < e := by omega
    refine ⟨lineAt s a d e, fun k hk => ⟨?_, ?_⟩, fun h => by rw [he]; exact lineAt_facts s a d e hd h⟩
    · unfold spec_TakeLine.f
      rw [hc1, Option.bind_some, if_pos rfl]
      obtain ⟨q, rfl⟩ := ex_rounds k d (by clear h3' hx; omega)
      have := skip (a + d) (by clear h3' hx; omega) h4' d (q + 1) a (Nat.le_refl _) rfl
      rw [this]
      exact spec_line_hit s a d e he hd (by omega) h3' q
    · obtain ⟨q, rfl⟩ := ex_succ k (by clear h3' hx; omega)
      exact impl_line_hit s a d e he hd (by omega) h3' q hx
  · have h4' : ∀ m : Nat, a ≤ m → m < s.size → bt s (m : Int) ≠ 13 ∧ bt s (m : Int) ≠ 10 := fun m m1 m2 => by
      have := of_decide_eq_false (h4 m m1 m2); exact ⟨fun e => this (.inl e), fun e => this (.inr e)⟩
    have hx := indexAny_eol_none s a h4'
    refine ⟨((⟨#[]⟩ : ByteArray), (⟨#[]⟩ : ByteArray), 0, 1), fun k hk => ⟨?_, ?_⟩, fun h => absurd h (by decide)⟩
    · unfold spec_TakeLine.f
      rw [hc1, Option.bind_some, if_pos rfl]
      obtain ⟨q, rfl⟩ := ex_rounds k e (by omega)
      have := skip s.size (Nat.le_refl _) h4' e (q + 1) a (Nat.le_refl _) he.symm
      rw [this]
      simp only [spec_TakeLine.l0]
      rw [if_neg (by omega)]
    · obtain ⟨q, rfl⟩ := ex_succ k (by omega)
      have hsz : (s.extract a s.size).size ≤ 1048576 := by rw [size_extract]; omega
      have hix : strings_IndexAny.f (s.extract a s.size) (⟨#[13, 10]⟩ : ByteArray) = some (-1) := by
        unfold strings_IndexAny.f
        rw [if_pos ⟨rfl, by omega⟩, hx]
      have hc2 : impl_CurOk.f s (a : Int) = some true := by unfold impl_CurOk.f; rw [within_eq]; simp; omega
      unfold impl_TakeLine.f
      rw [hc2, Option.bind_some, if_pos rfl, if_pos (by omega), if_pos (by omega)]
      simp only [Int.toNat_natCast]
      rw [hix, Option.bind_some, if_pos (by decide)]
      simp only [impl_TakeLine.j0]
      rw [if_pos trivial]

end Go.Proofs.YtonmpnghlopnoaaGreatDoor.P
end

section
/- Plain laws of our own (AllB): about numbers and lists alone; no condition beyond those written. -/
namespace Go.Proofs.YtonmpnghlopnoaaGreatDoor.P
open Go.RowKit Go.Proofs.YtonmpnghlopnoaaGreatDoorW.PrintWords Go.Proofs.YtonmpnghlopnoaaGreatDoorW.PrintLast Go.Proofs.YtonmpnghlopnoaaGreatDoorW.PrintMore
set_option linter.unusedVariables false
set_option linter.unusedSimpArgs false
set_option maxHeartbeats 2000000
def allB (p : Int → Bool) : Nat → Int → Bool
  | 0, _ => true
  | d + 1, i => p i && allB p d (i + 1)
theorem all_loop (F : Nat → Int → Option Bool) (n : Nat) (p : Int → Bool) (K0 : Nat) (stop : ∀ k (i : Int), (n : Int) ≤ i → F (k + 1) i = some true)
    (step : ∀ k (i : Int), 0 ≤ i → i < n → K0 ≤ k → F (k + 1) i = if p i = true then F k (i + 1) else some false) :
    ∀ (d k : Nat) (i : Int), 0 ≤ i → (n : Int) - i = d → d + K0 < k → F k i = some (allB p d i) := by
  intro d
  induction d with
  | zero =>
    intro k i h0 hd hk
    obtain ⟨k, rfl⟩ : ∃ m, k = m + 1 := ⟨k - 1, by omega⟩
    rw [stop k i (by omega)]
    rfl
  | succ d ih =>
    intro k i h0 hd hk
    obtain ⟨k, rfl⟩ : ∃ m, k = m + 1 := ⟨k - 1, by omega⟩
    rw [step k i h0 (by omega) (by omega), ih k (i + 1) (by omega) (by omega) (by omega)]
    simp only [allB]
    cases p i <;> simp
theorem all_from (F : Nat → Int → Option Bool) (n : Nat) (p : Int → Bool) (K0 : Nat) (stop : ∀ k (i : Int), (n : Int) ≤ i → F (k + 1) i = some true)
    (step : ∀ k (i : Int), 0 ≤ i → i < n → K0 ≤ k → F (k + 1) i = if p i = true then F k (i + 1) else some false) (k : Nat) (hk : n + K0 < k) : F k 0 = some (allB p n 0) :=
  all_loop F n p K0 stop step n k 0 (by omega) (by omega) hk

end Go.Proofs.YtonmpnghlopnoaaGreatDoor.P
end

section
/- Plain laws of our own (Token): about numbers and lists alone; no condition beyond those written. -/
namespace Go.Proofs.YtonmpnghlopnoaaGreatDoor.P
open Go.RowKit Go.Proofs.YtonmpnghlopnoaaGreatDoorW.PrintWords Go.Proofs.YtonmpnghlopnoaaGreatDoorW.PrintLast Go.Proofs.YtonmpnghlopnoaaGreatDoorW.PrintMore
set_option linter.unusedVariables false
set_option linter.unusedSimpArgs false
set_option maxHeartbeats 2000000
def tchB (c : Int) : Bool := (impl_isTokenByte.f c).getD false
theorem token_bytesI : ∀ n : Fin 256, impl_isTokenByte.f (n.val : Int) = some (tchB (n.val : Int)) := by decide +kernel
theorem token_bytesS : ∀ n : Fin 256, spec_l1tchar.f 20 (n.val : Int) = some (tchB (n.val : Int)) := by decide +kernel
theorem isTokenByte_eq (c : Int) (h0 : 0 ≤ c) (h1 : c ≤ 255) : impl_isTokenByte.f c = some (tchB c) := by
  obtain ⟨n, rfl⟩ := Int.eq_ofNat_of_zero_le h0
  exact token_bytesI ⟨n, by omega⟩
theorem tchar_eq (c : Int) (h0 : 0 ≤ c) (h1 : c ≤ 255) (k : Nat) (hk : 20 ≤ k) : spec_l1tchar.f k c = some (tchB c) := by
  obtain ⟨n, rfl⟩ := Int.eq_ofNat_of_zero_le h0
  exact at_rounds (g := fun k => spec_l1tchar.f k (n : Int)) (fun k => spec_l1tchar.mono (n : Int) k) hk (token_bytesS ⟨n, by omega⟩)
def tokB (s : ByteArray) : Bool := decide (1 ≤ s.size ∧ s.size ≤ 4000) && allB (fun i => tchB (bt s i)) s.size 0
theorem impl_Token_eq (s : ByteArray) (k : Nat) (hk : 5000 < k) : impl_Token.f k s = some (tokB s) := by
  unfold impl_Token.f tokB
  rw [within_eq, Option.bind_some]
  by_cases h : 1 ≤ s.size ∧ s.size ≤ 4000
  · rw [if_pos (decide_eq_true (by omega)), decide_eq_true h, Bool.true_and]
    unfold impl_all__impl_isTokenByte.f
    rw [all_from (fun k i => impl_all__impl_isTokenByte.l0 k s i) s.size (fun i => tchB (bt s i)) 0 (fun k i hi => by simp only [impl_all__impl_isTokenByte.l0]; rw [if_neg (by omega)])
      (fun k i h0 h1 _ => by
        have hb := bt_range s i
        simp only [impl_all__impl_isTokenByte.l0]
        rw [if_pos h1, if_pos h0, isTokenByte_eq _ hb.1 hb.2, Option.bind_some, wrap_id (by omega) (by omega)]) k (by omega)]
    rfl
  · rw [if_neg (by simp; omega), decide_eq_false h, Bool.false_and]
theorem spec_Token_eq (s : ByteArray) (k : Nat) (hk : 5000 < k) : spec_Token.f k s = some (tokB s) := by
  obtain ⟨k, rfl⟩ : ∃ m, k = m + 1 := ⟨k - 1, by omega⟩
  unfold spec_Token.f tokB
  by_cases h0 : (s.size : Int) = 0
  · rw [if_pos h0, decide_eq_false (by omega), Bool.false_and]
    simp [spec_Token.j0]
  · rw [if_neg h0]
    simp only [spec_Token.j0]
    by_cases h : 1 ≤ s.size ∧ s.size ≤ 4000
    · rw [if_neg (by simp; omega), decide_eq_true h, Bool.true_and]
      exact all_from (fun k i => spec_Token.l0 k s i) s.size (fun i => tchB (bt s i)) 20 (fun k i hi => by simp only [spec_Token.l0]; rw [if_neg (by omega)])
        (fun k i h0 h1 hk => by
          have hb := bt_range s i
          simp only [spec_Token.l0]
          rw [if_pos h1, if_pos h0, tchar_eq _ hb.1 hb.2 k hk, Option.bind_some, wrap_id (by omega) (by omega)]) k (by omega)
    · rw [if_pos (by simp; omega), decide_eq_false h, Bool.false_and]
def plB (c : Int) : Bool := decide (c = 9) || (decide (32 ≤ c) && decide (c ≠ 127))
theorem isPlain_eq (c : Int) : impl_isPlain.f c = some (plB c) := by
  unfold impl_isPlain.f plB
  by_cases h : c = 9
  · rw [if_pos h]; simp [h]
  · rw [if_neg h]
    by_cases h2 : c ≥ 32
    · rw [if_pos h2]
      by_cases h3 : c = 127 <;> simp [h, h2, h3]
    · rw [if_neg h2]; simp [h, h2]
theorem l1plain_eq (c : Int) : spec_l1plain.f c = some (plB c) := isPlain_eq c
def plainB (s : ByteArray) : Bool := allB (fun i => plB (bt s i)) s.size 0
theorem impl_plain_eq (s : ByteArray) (hs : s.size ≤ 140737488351232) (k : Nat) (hk : s.size < k) : impl_all__impl_isPlain.f k s = some (plainB s) := by
  unfold impl_all__impl_isPlain.f plainB
  exact all_from (fun k i => impl_all__impl_isPlain.l0 k s i) s.size (fun i => plB (bt s i)) 0 (fun k i hi => by simp only [impl_all__impl_isPlain.l0]; rw [if_neg (by omega)])
    (fun k i h0 h1 _ => by
      simp only [impl_all__impl_isPlain.l0]
      rw [if_pos h1, if_pos h0, isPlain_eq, Option.bind_some, wrap_id (by omega) (by omega)]) k (by omega)
theorem spec_plain_eq (s : ByteArray) (hs : s.size ≤ 140737488351232) (k : Nat) (hk : s.size < k) : spec_l5plain.f k s = some (plainB s) := by
  unfold spec_l5plain.f plainB
  exact all_from (fun k i => spec_l5plain.l0 k s i) s.size (fun i => plB (bt s i)) 0 (fun k i hi => by simp only [spec_l5plain.l0]; rw [if_neg (by omega)])
    (fun k i h0 h1 _ => by
      simp only [spec_l5plain.l0]
      rw [if_pos h1, if_pos h0, l1plain_eq, Option.bind_some, wrap_id (by omega) (by omega)]) k (by omega)

end Go.Proofs.YtonmpnghlopnoaaGreatDoor.P
end

section
/- Plain laws of our own (Trim): about numbers and lists alone; no condition beyond those written. -/
namespace Go.Proofs.YtonmpnghlopnoaaGreatDoor.P
open Go.RowKit Go.Proofs.YtonmpnghlopnoaaGreatDoorW.PrintWords Go.Proofs.YtonmpnghlopnoaaGreatDoorW.PrintLast Go.Proofs.YtonmpnghlopnoaaGreatDoorW.PrintMore
set_option linter.unusedVariables false
set_option linter.unusedSimpArgs false
set_option maxHeartbeats 2000000
theorem toList_nil (s : ByteArray) : s.toList = ([] : List UInt8) ↔ s.size = 0 := by
  rw [ByteArray.toList_eq]
  constructor
  · intro h
    have := congrArg List.length h
    rw [data_length] at this
    simpa using this
  · intro h
    apply List.eq_nil_of_length_eq_zero
    rw [data_length]; exact h
def ws (c : Int) : Bool := decide (c = 32) || decide (c = 9)
theorem isSpace_eq (c : Int) : impl_isSpace.f c = some (ws c) := by
  unfold impl_isSpace.f ws
  by_cases h : c = 32
  · rw [if_pos h]; simp [h]
  · rw [if_neg h]
    by_cases h2 : c = 9 <;> simp [h, h2]
theorem white_eq (c : Int) : spec_l1white.f c = some (ws c) := isSpace_eq c
def lead (s : ByteArray) : Nat → Nat → Nat
  | 0, i => i
  | d + 1, i => if ws (bt s (i : Int)) = true then lead s d (i + 1) else i
def back (s : ByteArray) : Nat → Nat → Nat
  | 0, j => j
  | d + 1, j => if ws (bt s ((j - 1 : Nat) : Int)) = true then back s d (j - 1) else j
theorem lead_le (s : ByteArray) : ∀ d i, i ≤ lead s d i ∧ lead s d i ≤ i + d := by
  intro d
  induction d with
  | zero => intro i; simp [lead]
  | succ d ih =>
    intro i
    simp only [lead]
    split
    · have := ih (i + 1); omega
    · omega
theorem back_le (s : ByteArray) : ∀ d j, back s d j ≤ j ∧ j ≤ back s d j + d := by
  intro d
  induction d with
  | zero => intro i; simp [back]
  | succ d ih =>
    intro j
    simp only [back]
    split
    · have := ih (j - 1); omega
    · omega
def trimS (s : ByteArray) : ByteArray := s.extract (lead s s.size 0) (back s (s.size - lead s s.size 0) s.size)
theorem trimS_size (s : ByteArray) : (trimS s).size ≤ s.size := by
  unfold trimS
  rw [size_extract]
  omega
theorem spec_trim_l1 (s : ByteArray) (hs : s.size ≤ 140737488351232) : ∀ (d k a j : Nat), a ≤ j → j ≤ s.size → j - a = d → d < k → spec_Trim.l1 k s (a : Int) (j : Int) = some (s.extract a (back s d j)) := by
  intro d
  induction d with
  | zero =>
    intro k a j h1 h2 hd hk
    obtain ⟨k, rfl⟩ : ∃ m, k = m + 1 := ⟨k - 1, by omega⟩
    simp only [spec_Trim.l1]
    rw [if_neg (by omega), if_pos (by omega), if_pos (by omega), if_pos (by omega)]
    rfl
  | succ d ih =>
    intro k a j h1 h2 hd hk
    obtain ⟨k, rfl⟩ : ∃ m, k = m + 1 := ⟨k - 1, by omega⟩
    simp only [spec_Trim.l1]
    have hw : wrap64 ((j : Int) - 1) = ((j - 1 : Nat) : Int) := by rw [wrap_id (by omega) (by omega)]; omega
    rw [if_pos (by omega), hw, if_pos (by omega), if_pos (by omega), white_eq, Option.bind_some]
    simp only [back]
    by_cases hb : ws (bt s ((j - 1 : Nat) : Int)) = true
    · rw [if_pos hb, if_pos hb]
      exact ih k a (j - 1) (by omega) (by omega) (by omega) (by omega)
    · rw [if_neg hb, if_neg hb, if_pos (by omega), if_pos (by omega), if_pos (by omega)]
      rfl
theorem spec_trim_l0 (s : ByteArray) (hs : s.size ≤ 140737488351232) : ∀ (d k i : Nat), i ≤ s.size → s.size - i = d → d + s.size + 3 < k → spec_Trim.l0 k s (i : Int) = some (s.extract (lead s d i) (back s (s.size - lead s d i) s.size)) := by
  intro d
  induction d with
  | zero =>
    intro k i h1 hd hk
    obtain ⟨k, rfl⟩ : ∃ m, k = m + 2 := ⟨k - 2, by omega⟩
    simp only [spec_Trim.l0]
    rw [if_neg (by omega)]
    simp only [spec_Trim.j1, lead]
    exact spec_trim_l1 s hs _ k i s.size h1 (Nat.le_refl _) rfl (by omega)
  | succ d ih =>
    intro k i h1 hd hk
    obtain ⟨k, rfl⟩ : ∃ m, k = m + 2 := ⟨k - 2, by omega⟩
    rw [spec_Trim.l0.eq_def]
    have hw : wrap64 ((i : Int) + 1) = ((i + 1 : Nat) : Int) := by rw [wrap_id (by omega) (by omega)]; omega
    dsimp only
    rw [if_pos (by omega), if_pos (by omega), white_eq, Option.bind_some]
    simp only [lead]
    by_cases hb : ws (bt s (i : Int)) = true
    · rw [if_pos hb, if_pos hb, hw]
      exact ih (k + 1) (i + 1) (by omega) (by omega) (by omega)
    · rw [if_neg hb, if_neg hb]
      simp only [spec_Trim.j1]
      exact spec_trim_l1 s hs _ k i s.size h1 (Nat.le_refl _) rfl (by omega)
theorem impl_trim_l1 (s : ByteArray) (hs : s.size ≤ 140737488351232) : ∀ (d k a j : Nat), a ≤ j → j ≤ s.size → j - a = d → d < k → impl_Trim.l1 k (s.extract a j) = some (s.extract a (back s d j)) := by
  intro d
  induction d with
  | zero =>
    intro k a j h1 h2 hd hk
    obtain ⟨k, rfl⟩ : ∃ m, k = m + 1 := ⟨k - 1, by omega⟩
    simp only [impl_Trim.l1]
    rw [if_pos ((toList_nil _).2 (by rw [size_extract]; omega))]
    rfl
  | succ d ih =>
    intro k a j h1 h2 hd hk
    obtain ⟨k, rfl⟩ : ∃ m, k = m + 1 := ⟨k - 1, by omega⟩
    have hz : (s.extract a j).size = d + 1 := by rw [size_extract]; omega
    simp only [impl_Trim.l1]
    have hw : wrap64 (((s.extract a j).size : Int) - 1) = ((d : Nat) : Int) := by rw [hz, wrap_id (by omega) (by omega)]; omega
    have hb0 : bt (s.extract a j) ((d : Nat) : Int) = bt s ((j - 1 : Nat) : Int) := by
      rw [bt_extract s a j _ (by omega) (by omega) h2]
      congr 1; omega
    rw [if_neg (fun h => by have := (toList_nil _).1 h; omega), hw, if_pos (by omega), if_pos (by omega), isSpace_eq, Option.bind_some, Int.toNat_natCast, ByteArray.extract_extract, hb0]
    simp only [back]
    have he : s.extract (a + 0) (min (a + d) j) = s.extract a (j - 1) := by congr 1; omega
    by_cases hb : ws (bt s ((j - 1 : Nat) : Int)) = true
    · rw [if_pos hb, if_pos hb, if_pos (by omega), he]
      exact ih k a (j - 1) (by omega) (by omega) (by omega) (by omega)
    · rw [if_neg hb, if_neg hb]
theorem impl_trim_l0 (s : ByteArray) (hs : s.size ≤ 140737488351232) : ∀ (d k i : Nat), i ≤ s.size → s.size - i = d → d + s.size + 3 < k → impl_Trim.l0 k (s.extract i s.size) = some (s.extract (lead s d i) (back s (s.size - lead s d i) s.size)) := by
  intro d
  induction d with
  | zero =>
    intro k i h1 hd hk
    obtain ⟨k, rfl⟩ : ∃ m, k = m + 2 := ⟨k - 2, by omega⟩
    rw [impl_Trim.l0.eq_def]
    dsimp only
    rw [if_pos ((toList_nil _).2 (by rw [size_extract]; omega))]
    simp only [impl_Trim.j1, lead]
    exact impl_trim_l1 s hs _ k i s.size h1 (Nat.le_refl _) rfl (by omega)
  | succ d ih =>
    intro k i h1 hd hk
    obtain ⟨k, rfl⟩ : ∃ m, k = m + 2 := ⟨k - 2, by omega⟩
    have hz : (s.extract i s.size).size = d + 1 := by rw [size_extract]; omega
    rw [impl_Trim.l0.eq_def]
    dsimp only
    have hb0 : bt (s.extract i s.size) 0 = bt s (i : Int) := by
      rw [bt_extract s i s.size 0 (by omega) (by omega) (Nat.le_refl _)]
      congr 1
    have he : (s.extract i s.size).extract 1 (s.extract i s.size).size = s.extract (i + 1) s.size := by
      rw [ByteArray.extract_extract, hz]; congr 1; omega
    rw [if_neg (fun h => by have := (toList_nil _).1 h; omega), if_pos (by omega), isSpace_eq, Option.bind_some, hb0, he]
    simp only [lead]
    by_cases hb : ws (bt s (i : Int)) = true
    · rw [if_pos hb, if_pos hb, if_pos (by omega)]
      exact ih (k + 1) (i + 1) (by omega) (by omega) (by omega)
    · rw [if_neg hb, if_neg hb]
      simp only [impl_Trim.j1]
      exact impl_trim_l1 s hs _ k i s.size h1 (Nat.le_refl _) rfl (by omega)
theorem spec_Trim_eq (s : ByteArray) (hs : s.size ≤ 140737488351232) (k : Nat) (hk : 2 * s.size + 3 < k) : spec_Trim.f k s = some (trimS s) := by
  unfold spec_Trim.f trimS
  exact spec_trim_l0 s hs s.size k 0 (Nat.zero_le _) (by omega) (by omega)
theorem impl_Trim_eq (s : ByteArray) (hs : s.size ≤ 140737488351232) (k : Nat) (hk : 2 * s.size + 3 < k) : impl_Trim.f k s = some (trimS s) := by
  unfold impl_Trim.f trimS
  have h := impl_trim_l0 s hs s.size k 0 (Nat.zero_le _) (by omega) (by omega)
  rw [ByteArray.extract_zero_size] at h
  exact h

end Go.Proofs.YtonmpnghlopnoaaGreatDoor.P
end

section
/- Plain laws of our own (Fields): about numbers and lists alone; no condition beyond those written. -/
namespace Go.Proofs.YtonmpnghlopnoaaGreatDoor.P
open Go.RowKit Go.Proofs.YtonmpnghlopnoaaGreatDoorW.PrintWords Go.Proofs.YtonmpnghlopnoaaGreatDoorW.PrintLast Go.Proofs.YtonmpnghlopnoaaGreatDoorW.PrintMore
set_option linter.unusedVariables false
set_option linter.unusedSimpArgs false
set_option maxHeartbeats 2000000
def fieldOkB (n v : ByteArray) : Bool := decide (n.size ≤ 40) && (tokB n && (decide (v.size ≤ 190) && (plainB v && ((trimS v).toList == v.toList))))
theorem impl_FieldOk_eq (n v : ByteArray) (k : Nat) (hk : 5000 < k) : impl_FieldOk.f k n v = some (fieldOkB n v) := by
  unfold impl_FieldOk.f fieldOkB
  rw [impl_Token_eq n k hk, Option.bind_some]
  by_cases h1 : tokB n = true
  · rw [if_pos h1, h1, Bool.true_and]
    by_cases h2 : n.size ≤ 40
    · rw [if_pos (by omega), decide_eq_true h2, Bool.true_and]
      by_cases h3 : v.size ≤ 190
      · rw [if_pos (by omega), decide_eq_true h3, Bool.true_and, impl_plain_eq v (by omega) k (by omega), Option.bind_some]
        by_cases h4 : plainB v = true
        · rw [if_pos h4, h4, Bool.true_and, impl_Trim_eq v (by omega) k (by omega)]; rfl
        · rw [if_neg h4]; simp [h4]
      · rw [if_neg (by omega), decide_eq_false h3, Bool.false_and]
    · rw [if_neg (by omega), decide_eq_false h2, Bool.false_and]
  · rw [if_neg h1]; simp [h1]
theorem spec_FieldOk_eq (n v : ByteArray) (k : Nat) (hk : 5000 < k) : spec_FieldOk.f k n v = some (fieldOkB n v) := by
  unfold spec_FieldOk.f fieldOkB
  by_cases h2 : n.size ≤ 40
  · rw [if_pos (by omega), decide_eq_true h2, Bool.true_and, spec_Token_eq n k hk, Option.bind_some]
    by_cases h1 : tokB n = true
    · rw [if_pos h1, h1, Bool.true_and]
      by_cases h3 : v.size ≤ 190
      · rw [if_pos (by omega), decide_eq_true h3, Bool.true_and, spec_plain_eq v (by omega) k (by omega), Option.bind_some]
        by_cases h4 : plainB v = true
        · rw [if_pos h4, h4, Bool.true_and, spec_Trim_eq v (by omega) k (by omega)]; rfl
        · rw [if_neg h4]; simp [h4]
      · rw [if_neg (by omega), decide_eq_false h3, Bool.false_and]
    · rw [if_neg h1]; simp [h1]
  · rw [if_neg (by omega), decide_eq_false h2, Bool.false_and]
abbrev FieldT := S41
def fieldsOkB (l : List FieldT) : Bool := decide (l.length ≤ 20) && allB (fun i => fieldOkB (rd_T41 l i).f0 (rd_T41 l i).f1) l.length 0
theorem fieldsOk_short {l : List FieldT} (h : fieldsOkB l = true) : l.length ≤ 20 := by
  unfold fieldsOkB at h
  have := (Bool.and_eq_true_iff.1 h).1
  exact of_decide_eq_true this
theorem allB_at {p : Int → Bool} : ∀ (d : Nat) (i : Int), allB p d i = true → ∀ j : Nat, j < d → p (i + j) = true := by
  intro d
  induction d with
  | zero => intro i _ j hj; omega
  | succ d ih =>
    intro i h j hj
    simp only [allB, Bool.and_eq_true] at h
    cases j with
    | zero => simpa using h.1
    | succ j =>
      have := ih (i + 1) h.2 j (by omega)
      rw [show i + ((j + 1 : Nat) : Int) = i + 1 + (j : Int) by omega]
      exact this
theorem fieldsOk_name {l : List FieldT} (h : fieldsOkB l = true) (j : Nat) (hj : j < l.length) : (rd_T41 l (j : Int)).f0.size ≤ 40 ∧ (rd_T41 l (j : Int)).f1.size ≤ 190 := by
  unfold fieldsOkB at h
  have h2 := allB_at _ _ (Bool.and_eq_true_iff.1 h).2 j hj
  rw [Int.zero_add] at h2
  unfold fieldOkB at h2
  simp only [Bool.and_eq_true] at h2
  exact ⟨of_decide_eq_true h2.1, of_decide_eq_true h2.2.2.1⟩
def sameB (a b : ByteArray) : Bool := (foldS a).toList == (foldS b).toList
end Go.Proofs.YtonmpnghlopnoaaGreatDoor.P
end

section
/- Plain laws of our own (ReadField): about numbers and lists alone; no condition beyond those written. -/
namespace Go.Proofs.YtonmpnghlopnoaaGreatDoor.P
open Go.RowKit Go.Proofs.YtonmpnghlopnoaaGreatDoorW.PrintWords Go.Proofs.YtonmpnghlopnoaaGreatDoorW.PrintLast Go.Proofs.YtonmpnghlopnoaaGreatDoorW.PrintMore
set_option linter.unusedVariables false
set_option linter.unusedSimpArgs false
set_option maxHeartbeats 2000000
theorem indexByte_at_hit (s : ByteArray) (n : Nat) (c : UInt8) (h1 : n < s.size) (h2 : bt s (n : Int) = (c.toNat : Int)) (h3 : ∀ m : Nat, m < n → bt s (m : Int) ≠ (c.toNat : Int)) :
    Lib.indexByte s.data.toList c = (n : Int) := by
  obtain ⟨b, hb, hbt⟩ := at_bt h1
  rw [← Lib.indexAny_one]
  refine Lib.indexAny_hit (x := b) (fun j y hj hy => ?_) hb ?_
  · have := h3 j hj
    rw [(bt_at hy).2] at this
    have hn : y ≠ c := fun e => this (by rw [e])
    simp [hn]
  · have : b = c := UInt8.toNat_inj.1 (by omega)
    simp [this]
theorem indexByte_at_none (s : ByteArray) (c : UInt8) (h3 : ∀ m : Nat, m < s.size → bt s (m : Int) ≠ (c.toNat : Int)) :
    Lib.indexByte s.data.toList c = -1 := by
  rw [← Lib.indexAny_one]
  refine Lib.indexAny_none (fun j y hj hy => ?_)
  have hq := bt_at hy
  have := h3 j hq.1
  rw [hq.2] at this
  have hn : y ≠ c := fun e => this (by rw [e])
  simp [hn]
theorem skip_to2 {α : Type} (F : Nat → Int → Option α) (lo hi : Nat) (step : ∀ k (i : Nat), lo ≤ i → i < hi → F (k + 2) (i : Int) = F k ((i + 1 : Nat) : Int)) :
    ∀ (d k i : Nat), lo ≤ i → i + d = hi → F (k + 2 * d) (i : Int) = F k (hi : Int) := by
  intro d
  induction d with
  | zero => intro k i _ h; rw [← h]; rfl
  | succ d ih =>
    intro k i h0 h
    rw [show k + 2 * (d + 1) = (k + 2 * d) + 2 by omega, step _ i h0 (by omega)]
    exact ih k (i + 1) (by omega) (by omega)
abbrev FieldR := ByteArray × ByteArray × Bool
def noFieldR : FieldR := ((⟨#[]⟩ : ByteArray), (⟨#[]⟩ : ByteArray), false)
def fieldAt (s : ByteArray) (n : Nat) : FieldR :=
  if fieldOkB (s.extract 0 n) (trimS (s.extract (n + 1) s.size)) = true then (s.extract 0 n, trimS (s.extract (n + 1) s.size), true) else noFieldR
theorem spec_field_stop (s : ByteArray) (i : Nat) (h : s.size ≤ i ∨ 41 ≤ i) (k : Nat) : spec_ReadField.l0 (k + 2) s (i : Int) = some noFieldR := by
  simp only [spec_ReadField.l0]
  split
  · rw [show decide ((i : Int) ≤ 40) = false from decide_eq_false (by omega)]
    simp only [spec_ReadField.j1]
    rfl
  · simp only [spec_ReadField.j1]
    rfl
theorem spec_field_step (s : ByteArray) (i : Nat) (hs : s.size ≤ 1048576) (h : i < s.size) (h2 : i ≤ 40) (hb : bt s (i : Int) ≠ 58) (k : Nat) : spec_ReadField.l0 (k + 2) s (i : Int) = spec_ReadField.l0 k s ((i + 1 : Nat) : Int) := by
  have hw := wrap_succ i (by omega)
  simp only [spec_ReadField.l0]
  rw [if_pos (by omega), show decide ((i : Int) ≤ 40) = true from decide_eq_true (by omega)]
  simp only [spec_ReadField.j1]
  rw [if_pos trivial, if_pos (by omega), if_pos (by omega), if_neg hb, hw]
theorem spec_field_hit (s : ByteArray) (i : Nat) (hs : s.size ≤ 1048576) (h : i < s.size) (h2 : i ≤ 40) (hb : bt s (i : Int) = 58) (k : Nat) (hk : 2 * s.size + 5005 < k) : spec_ReadField.l0 (k + 2) s (i : Int) = some (fieldAt s i) := by
  have hw := wrap_succ i (by omega)
  have hsz : (s.extract (i + 1) s.size).size ≤ s.size := by rw [size_extract]; omega
  simp only [spec_ReadField.l0]
  rw [if_pos (by omega), show decide ((i : Int) ≤ 40) = true from decide_eq_true (by omega)]
  simp only [spec_ReadField.j1]
  rw [if_pos trivial, if_pos (by omega), if_pos (by omega), if_pos hb, if_pos (by omega), hw, if_pos (by omega), if_pos (by omega)]
  simp only [Int.toNat_natCast]
  rw [spec_Trim_eq _ (by omega) k (by omega), Option.bind_some, spec_FieldOk_eq _ _ k (by omega), Option.bind_some]
  unfold fieldAt noFieldR
  split <;> rfl
theorem impl_field_hit (s : ByteArray) (i : Nat) (hs : s.size ≤ 1048576) (h : i < s.size) (hx : Lib.indexByte s.data.toList 58 = (i : Int)) (k : Nat) (hk : 2 * s.size + 5005 < k) : impl_ReadField.f k s = some (fieldAt s i) := by
  have hw := wrap_succ i (by omega)
  have hsz : (s.extract (i + 1) s.size).size ≤ s.size := by rw [size_extract]; omega
  have hi : stringslite_Index.f s (⟨#[58]⟩ : ByteArray) = some (i : Int) := by unfold stringslite_Index.f; rw [← hx]
  have h1 : ((⟨#[58]⟩ : ByteArray).size : Int) = 1 := rfl
  unfold impl_ReadField.f strings_Cut.f stringslite_Cut.f
  rw [hi, Option.bind_some, if_pos (by omega), if_pos (by omega), if_pos (by omega), h1, hw, if_pos (by omega), if_pos (by omega)]
  simp only [Option.bind_some, Int.toNat_natCast]
  rw [impl_Trim_eq _ (by omega) k (by omega), Option.bind_some, if_pos trivial, impl_FieldOk_eq _ _ k (by omega), Option.bind_some]
  unfold fieldAt noFieldR
  split <;> rfl
theorem impl_field_none (s : ByteArray) (hx : Lib.indexByte s.data.toList 58 = -1) (k : Nat) (hk : 5005 < k) : impl_ReadField.f k s = some noFieldR := by
  have hi : stringslite_Index.f s (⟨#[58]⟩ : ByteArray) = some (-1) := by unfold stringslite_Index.f; rw [← hx]
  unfold impl_ReadField.f strings_Cut.f stringslite_Cut.f
  rw [hi, Option.bind_some, if_neg (by decide)]
  simp only [Option.bind_some]
  rw [impl_Trim_eq _ (by decide) k (by show 2 * 0 + 3 < k; omega), Option.bind_some, if_neg (by decide)]
  rfl
theorem fieldAt_far (s : ByteArray) (n : Nat) (h : n < s.size) (h1 : 41 ≤ n) : fieldAt s n = noFieldR := by
  have hsz : ¬ (s.extract 0 n).size ≤ 40 := by rw [size_extract]; omega
  unfold fieldAt fieldOkB
  rw [decide_eq_false hsz, Bool.false_and, if_neg (by decide)]
theorem readField_eq (s : ByteArray) (hs : s.size ≤ 1048576) : ∃ r : FieldR, ∀ k, 2 * s.size + 5200 < k → spec_ReadField.f k s = some r ∧ impl_ReadField.f k s = some r := by
  have walk := fun (hi : Nat) (hhi : hi ≤ s.size) (h41 : hi ≤ 41) (hno : ∀ m : Nat, m < hi → bt s (m : Int) ≠ 58) (k : Nat) =>
    skip_to2 (fun k i => spec_ReadField.l0 k s i) 0 hi (fun k i h0 h1 => spec_field_step s i hs (by omega) (by omega) (hno i h1) k) hi k 0 (Nat.le_refl _) (by omega)
  rcases first_or_none (fun n => decide (bt s (n : Int) = 58)) s.size s.size 0 (by omega) with ⟨n, h1, h2, h3, h4⟩ | h4
  · have h3' : bt s (n : Int) = 58 := of_decide_eq_true h3
    have h4' : ∀ m : Nat, m < n → bt s (m : Int) ≠ 58 := fun m m2 => of_decide_eq_false (h4 m (Nat.zero_le _) m2)
    have hx := indexByte_at_hit s n 58 h2 h3' h4'
    clear h3 h4
    refine ⟨fieldAt s n, fun k hk => ⟨?_, impl_field_hit s n hs h2 hx k (by clear h3' hx; omega)⟩⟩
    clear hx
    unfold spec_ReadField.f
    by_cases hn : n ≤ 40
    · obtain ⟨q, rfl⟩ : ∃ q, k = q + 2 + 2 * n := ⟨k - 2 - 2 * n, by clear h3'; omega⟩
      have := walk n (by clear h3'; omega) (by clear h3'; omega) h4' (q + 2)
      refine this.trans ?_
      exact spec_field_hit s n hs h2 hn h3' q (by clear h3'; omega)
    · clear h3'
      obtain ⟨q, rfl⟩ : ∃ q, k = q + 2 + 2 * 41 := ⟨k - 2 - 2 * 41, by omega⟩
      have := walk 41 (by omega) (by omega) (fun m hm => h4' m (by omega)) (q + 2)
      refine this.trans ?_
      rw [spec_field_stop s 41 (by omega) q, fieldAt_far s n h2 (by omega)]
  · have h4' : ∀ m : Nat, m < s.size → bt s (m : Int) ≠ 58 := fun m m2 => of_decide_eq_false (h4 m (Nat.zero_le _) m2)
    have hx := indexByte_at_none s 58 h4'
    refine ⟨noFieldR, fun k hk => ⟨?_, impl_field_none s hx k (by clear hx; omega)⟩⟩
    clear hx
    unfold spec_ReadField.f
    by_cases hn : s.size ≤ 41
    · obtain ⟨q, rfl⟩ : ∃ q, k = q + 2 + 2 * s.size := ⟨k - 2 - 2 * s.size, by omega⟩
      have := walk s.size (by omega) hn h4' (q + 2)
      refine this.trans ?_
      exact spec_field_stop s s.size (by omega) q
    · obtain ⟨q, rfl⟩ : ∃ q, k = q + 2 + 2 * 41 := ⟨k - 2 - 2 * 41, by omega⟩
      have := walk 41 (by omega) (by omega) (fun m hm => h4' m (by omega)) (q + 2)
      refine this.trans ?_
      exact spec_field_stop s 41 (by omega) q

end Go.Proofs.YtonmpnghlopnoaaGreatDoor.P
end

section
/- Plain laws of our own (Status): about numbers and lists alone; no condition beyond those written. -/
namespace Go.Proofs.YtonmpnghlopnoaaGreatDoor.P
open Go.RowKit Go.Proofs.YtonmpnghlopnoaaGreatDoorW.PrintWords Go.Proofs.YtonmpnghlopnoaaGreatDoorW.PrintLast Go.Proofs.YtonmpnghlopnoaaGreatDoorW.PrintMore
set_option linter.unusedVariables false
set_option linter.unusedSimpArgs false
set_option maxHeartbeats 2000000
def dg (u : UInt8) : Bool := decide (48 ≤ u.toNat ∧ u.toNat ≤ 57)
def dd (a : Fin 10) : UInt8 := UInt8.ofNat (48 + a.val)
theorem dg_dd {u : UInt8} (h : dg u = true) : ∃ a : Fin 10, u = dd a := by
  have h1 := of_decide_eq_true h
  refine ⟨⟨u.toNat - 48, by omega⟩, ?_⟩
  unfold dd
  apply UInt8.toNat_inj.1
  simp only [UInt8.toNat_ofNat']
  omega
theorem spec_digit_eq (u : UInt8) : spec_l1digit.f (u.toNat : Int) = some (dg u) := by
  unfold spec_l1digit.f dg
  split
  · congr 1; apply decide_eq_decide.2; omega
  · congr 1; exact (decide_eq_false (by omega)).symm
theorem impl_digit_eq (u : UInt8) : impl_isDigit.f (u.toNat : Int) = some (dg u) := by
  unfold impl_isDigit.f dg
  split
  · congr 1; apply decide_eq_decide.2; omega
  · congr 1; exact (decide_eq_false (by omega)).symm
theorem w3_0 : wrap64 (0 + 1) = 1 := by unfold wrap64; omega
theorem w3_1 : wrap64 (1 + 1) = 2 := by unfold wrap64; omega
theorem w3_2 : wrap64 (2 + 1) = 3 := by unfold wrap64; omega
theorem bt3_0 (u0 u1 u2 : UInt8) : bt (⟨#[u0, u1, u2]⟩ : ByteArray) 0 = (u0.toNat : Int) := rfl
theorem bt3_1 (u0 u1 u2 : UInt8) : bt (⟨#[u0, u1, u2]⟩ : ByteArray) 1 = (u1.toNat : Int) := rfl
theorem bt3_2 (u0 u1 u2 : UInt8) : bt (⟨#[u0, u1, u2]⟩ : ByteArray) 2 = (u2.toNat : Int) := rfl
theorem sz3 (u0 u1 u2 : UInt8) : ((⟨#[u0, u1, u2]⟩ : ByteArray).size : Int) = 3 := rfl
theorem impl_digits3 (u0 u1 u2 : UInt8) (k : Nat) : impl_all__impl_isDigit.f (k + 4) ⟨#[u0, u1, u2]⟩ = some (dg u0 && (dg u1 && dg u2)) := by
  unfold impl_all__impl_isDigit.f
  simp only [impl_all__impl_isDigit.l0, sz3, w3_0, w3_1, w3_2, bt3_0, bt3_1, bt3_2, impl_digit_eq, Option.bind_some,
    show ((0 : Int) < 3) = True from eq_true (by decide), show ((1 : Int) < 3) = True from eq_true (by decide), show ((2 : Int) < 3) = True from eq_true (by decide), show ((3 : Int) < 3) = False from eq_false (by decide),
    show ((0 : Int) ≤ 0) = True from eq_true (by decide), show ((0 : Int) ≤ 1) = True from eq_true (by decide), show ((0 : Int) ≤ 2) = True from eq_true (by decide), if_true, if_false]
  cases dg u0 <;> cases dg u1 <;> cases dg u2 <;> rfl
theorem readDec3_no (u0 u1 u2 : UInt8) (h : (dg u0 && (dg u1 && dg u2)) = false) (k : Nat) : spec_ReadDec.f (k + 5) ⟨#[u0, u1, u2]⟩ = some (0, false) := by
  unfold spec_ReadDec.f
  rw [sz3, if_neg (by decide), show decide ((3 : Int) > 15) = false from rfl]
  simp only [spec_ReadDec.j0]
  rw [if_neg (by decide)]
  simp only [spec_ReadDec.l0, sz3, w3_0, w3_1, w3_2, bt3_0, bt3_1, bt3_2, spec_digit_eq, Option.bind_some,
    show ((0 : Int) < 3) = True from eq_true (by decide), show ((1 : Int) < 3) = True from eq_true (by decide), show ((2 : Int) < 3) = True from eq_true (by decide), show ((3 : Int) < 3) = False from eq_false (by decide),
    show ((0 : Int) ≤ 0) = True from eq_true (by decide), show ((0 : Int) ≤ 1) = True from eq_true (by decide), show ((0 : Int) ≤ 2) = True from eq_true (by decide), if_true, if_false]
  revert h
  cases dg u0 <;> cases dg u1 <;> cases dg u2 <;> intro h <;> first | rfl | cases h
def val3 (a b c : Fin 10) : Int := ((100 * a.val + 10 * b.val + c.val : Nat) : Int)
def txt3 (a b c : Fin 10) : ByteArray := ⟨#[dd a, dd b, dd c]⟩
def dec3B (a b c : Fin 10) : Bool := match spec_ReadDec.f 14 (txt3 a b c) with
  | some r => if 2 ≤ a.val then r.1 == val3 a b c && r.2 else !r.2 || r.1 == val3 a b c
  | none => false
theorem dec3_all : ∀ a b c : Fin 10, dec3B a b c = true := by decide +kernel
theorem atoi3_all : ∀ a b c : Fin 10, (strconv_Atoi_38.f (txt3 a b c) == some (val3 a b c, none)) = true := by decide +kernel
theorem readDec3_yes (a b c : Fin 10) : ∃ r : Int × Bool, (∀ k, 14 ≤ k → spec_ReadDec.f k (txt3 a b c) = some r) ∧ (2 ≤ a.val → r = (val3 a b c, true)) ∧ (r.2 = true → r.1 = val3 a b c) := by
  have h := dec3_all a b c
  unfold dec3B at h
  cases hr : spec_ReadDec.f 14 (txt3 a b c) with
  | none => rw [hr] at h; cases h
  | some r =>
    rw [hr] at h
    simp only at h
    refine ⟨r, fun k hk => at_rounds (g := fun k => spec_ReadDec.f k (txt3 a b c)) (fun k => spec_ReadDec.mono (txt3 a b c) k) hk hr, fun h2 => ?_, fun h2 => ?_⟩
    · rw [if_pos h2, Bool.and_eq_true] at h
      exact Prod.ext (beq_iff_eq.1 h.1) h.2
    · split at h
      · exact beq_iff_eq.1 (Bool.and_eq_true_iff.1 h).1
      · rw [h2] at h; simpa using h
theorem three_bytes {x : ByteArray} (h : x.size = 3) : ∃ u0 u1 u2 : UInt8, x = ⟨#[u0, u1, u2]⟩ := by
  obtain ⟨⟨l⟩⟩ := x
  have h1 : l.length = 3 := h
  match l, h1 with
  | [u0, u1, u2], _ => exact ⟨u0, u1, u2, rfl⟩
abbrev FirstR := ByteArray × ByteArray × Int × ByteArray × Bool × (List (S41)) × ByteArray × Bool
def noFirst : FirstR := ((⟨#[]⟩ : ByteArray), (⟨#[]⟩ : ByteArray), 0, (⟨#[]⟩ : ByteArray), false, [], (⟨#[]⟩ : ByteArray), false)
def mkStatus (v : Int) (t : ByteArray) (ok : Bool) : FirstR := ((⟨#[]⟩ : ByteArray), (⟨#[]⟩ : ByteArray), v, t, false, [], (⟨#[]⟩ : ByteArray), ok)
def stB (v : Int) (t : ByteArray) : Bool := decide (200 ≤ v ∧ v ≤ 599) && (decide (t.size ≤ 40) && plainB t)
theorem spec_status_j0 (s : ByteArray) (hs : s.size ≤ 1048576) (h13 : 13 ≤ s.size) (r : Int × Bool) (k : Nat) (hk : s.size + 20 < k) (hr : spec_ReadDec.f k (s.extract 9 12) = some r) :
    spec_l6status.j0 (k + 1) s false = some (mkStatus r.1 (s.extract 13 s.size) (r.2 && stB r.1 (s.extract 13 s.size))) := by
  have hsz : (s.extract 13 s.size).size ≤ s.size := by rw [size_extract]; omega
  generalize hy : s.extract 13 s.size = y at hsz ⊢
  simp only [spec_l6status.j0]
  rw [if_neg (by decide), if_pos (by decide), if_pos (by omega), hr, Option.bind_some, if_pos (by omega), hy]
  unfold stB mkStatus
  obtain ⟨v, ok⟩ := r
  simp only
  cases ok with
  | false => rw [if_neg (by decide), Bool.false_and]
  | true =>
    rw [if_pos rfl, Bool.true_and]
    by_cases h1 : 200 ≤ v
    · rw [if_pos h1]
      by_cases h2 : v ≤ 599
      · rw [if_pos h2, decide_eq_true (And.intro h1 h2), Bool.true_and]
        by_cases h3 : y.size ≤ 40
        · rw [if_pos (by omega), decide_eq_true h3, Bool.true_and, spec_plain_eq y (by omega) k (by omega), Option.bind_some]
        · rw [if_neg (by omega), decide_eq_false h3, Bool.false_and]
      · rw [if_neg h2, decide_eq_false (fun h => h2 h.2), Bool.false_and]
    · rw [if_neg h1, decide_eq_false (fun h => h1 h.1), Bool.false_and]
theorem impl_status_j0 (s x : ByteArray) (hs : s.size ≤ 1048576) (h13 : 4 ≤ s.size) (v : Int) (k : Nat) (hk : s.size + 20 < k) (hx : s.extract 0 3 = x) (hr : strconv_Atoi_38.f x = some (v, none)) :
    impl_readFirst.j0 (k + 1) s false = some (mkStatus v (s.extract 4 s.size) (stB v (s.extract 4 s.size))) := by
  have hsz : (s.extract 4 s.size).size ≤ s.size := by rw [size_extract]; omega
  generalize hy : s.extract 4 s.size = y at hsz ⊢
  simp only [impl_readFirst.j0]
  rw [if_neg (by decide), if_pos (by decide), if_pos (by omega), hx, hr, Option.bind_some, if_pos (by omega), hy]
  unfold stB mkStatus impl_isStatus.f
  rw [within_eq, Option.bind_some, Option.bind_some]
  by_cases h1 : 200 ≤ v ∧ v ≤ 599
  · rw [if_pos (decide_eq_true h1), decide_eq_true h1, Bool.true_and]
    unfold impl_isReason.f
    by_cases h3 : y.size ≤ 40
    · rw [if_pos (by omega), decide_eq_true h3, Bool.true_and, impl_plain_eq y (by omega) k (by omega)]; rfl
    · rw [if_neg (by omega), decide_eq_false h3, Bool.false_and]; rfl
  · rw [if_neg (by rw [decide_eq_false h1]; decide), decide_eq_false h1, Bool.false_and]
def pfxS : List UInt8 := [72, 84, 84, 80, 47, 49, 46, 49, 32]
theorem cutPfx_yes (s : ByteArray) (h : 9 ≤ s.size) (hp : (s.extract 0 9).toList = pfxS) : strings_CutPrefix.f s (⟨#[72, 84, 84, 80, 47, 49, 46, 49, 32]⟩ : ByteArray) = some (s.extract 9 s.size, true) := by
  have hz : ((⟨#[72, 84, 84, 80, 47, 49, 46, 49, 32]⟩ : ByteArray).size : Int) = 9 := rfl
  have hl : (⟨#[72, 84, 84, 80, 47, 49, 46, 49, 32]⟩ : ByteArray).toList = pfxS := by decide +kernel
  unfold strings_CutPrefix.f stringslite_CutPrefix.f stringslite_HasPrefix.f
  rw [hz, if_pos (by omega), if_pos (by decide), if_pos (by omega), hl]
  simp only [show (9 : Int).toNat = 9 from rfl]
  rw [hp, show (pfxS == pfxS) = true from by decide, Option.bind_some, if_pos rfl, if_pos (by omega), if_pos (by omega)]
  rfl
theorem cutPfx_no (s : ByteArray) (hp : ¬ (9 ≤ s.size ∧ (s.extract 0 9).toList = pfxS)) : strings_CutPrefix.f s (⟨#[72, 84, 84, 80, 47, 49, 46, 49, 32]⟩ : ByteArray) = some (s, false) := by
  have hz : ((⟨#[72, 84, 84, 80, 47, 49, 46, 49, 32]⟩ : ByteArray).size : Int) = 9 := rfl
  have hl : (⟨#[72, 84, 84, 80, 47, 49, 46, 49, 32]⟩ : ByteArray).toList = pfxS := by decide +kernel
  unfold strings_CutPrefix.f stringslite_CutPrefix.f stringslite_HasPrefix.f
  rw [hz]
  by_cases h : 9 ≤ s.size
  · have hp' : (s.extract 0 9).toList ≠ pfxS := fun e => hp ⟨h, e⟩
    rw [if_pos (by omega), if_pos (by decide), if_pos (by omega), hl]
    simp only [show (9 : Int).toNat = 9 from rfl]
    rw [show ((s.extract 0 9).toList == pfxS) = false from beq_eq_false_iff_ne.2 hp', Option.bind_some, if_neg (by decide)]
    rfl
  · rw [if_neg (by omega)]
    rfl
theorem impl_first_no (k : Nat) (s : ByteArray) : impl_readFirst.j0 (k + 1) s true = some noFirst := by
  simp only [impl_readFirst.j0]
  rfl
theorem spec_first_no (k : Nat) (s : ByteArray) : spec_l6status.j0 (k + 1) s true = some noFirst := by
  simp only [spec_l6status.j0]
  rfl
theorem status_eq (s : ByteArray) (hs : s.size ≤ 1048576) : ∃ r r' : FirstR, (∀ k, s.size + 40 < k → spec_l6status.f k s = some r ∧ impl_readFirst.f k s true = some r') ∧
    r.2.2.2.2.2.2.2 = r'.2.2.2.2.2.2.2 ∧ (r.2.2.2.2.2.2.2 = true → r = r' ∧ r.2.2.2.2.2.1 = []) := by
  by_cases hp : 9 ≤ s.size ∧ (s.extract 0 9).toList = pfxS
  · have hcut := cutPfx_yes s hp.1 hp.2
    have hp2 : (s.extract 0 9).toList = ([72, 84, 84, 80, 47, 49, 46, 49, 32] : List UInt8) := hp.2
    have hrs : (s.extract 9 s.size).size = s.size - 9 := by rw [size_extract]; omega
    by_cases h13 : s.size < 13
    · refine ⟨noFirst, noFirst, fun k hk => ?_, rfl, fun h => absurd h (by decide)⟩
      obtain ⟨q, rfl⟩ := ex_succ k (by omega)
      unfold spec_l6status.f impl_readFirst.f
      rw [if_pos (by omega), if_pos rfl, hcut, Option.bind_some, if_pos rfl]
      simp only
      rw [if_pos (by omega)]
      exact ⟨spec_first_no q s, impl_first_no q _⟩
    · have hb : bt (s.extract 9 s.size) 3 = bt s 12 := by rw [bt_extract _ _ _ _ (by decide) (by omega) (by omega)]; rfl
      by_cases h32 : bt s 12 = 32
      · obtain ⟨u0, u1, u2, hx⟩ := three_bytes (x := s.extract 9 12) (by rw [size_extract]; omega)
        have hx' : (s.extract 9 s.size).extract 0 3 = ⟨#[u0, u1, u2]⟩ := by rw [ext_ext _ _ _ _ _ (by omega)]; exact hx
        have hy' : (s.extract 9 s.size).extract 4 (s.extract 9 s.size).size = s.extract 13 s.size := by
          rw [hrs, ext_ext _ _ _ _ _ (by omega), show 9 + (s.size - 9) = s.size by omega]
        have hspec : ∀ k, spec_l6status.f k s = spec_l6status.j0 k s false := fun k => by
          unfold spec_l6status.f
          rw [if_neg (by omega), if_pos (by decide), if_pos (by omega), if_pos hp2, if_pos (by omega), h32]
          rfl
        have himpl : ∀ k, impl_readFirst.f (k + 4) s true = impl_readFirst.j0 (k + 4) (s.extract 9 s.size) (!(dg u0 && (dg u1 && dg u2))) := fun k => by
          unfold impl_readFirst.f
          rw [if_pos rfl, hcut, Option.bind_some, if_pos rfl]
          simp only
          rw [if_neg (by omega), if_pos (by omega), hb, if_pos h32, if_pos (by decide), if_pos (by omega), hx', impl_digits3, Option.bind_some]
        cases hdg : (dg u0 && (dg u1 && dg u2)) with
        | false =>
          refine ⟨mkStatus 0 (s.extract 13 s.size) false, noFirst, fun k hk => ?_, rfl, fun h => absurd (show false = true from h) (by decide)⟩
          obtain ⟨q, rfl⟩ : ∃ q, k = q + 5 + 1 := ⟨k - 6, by omega⟩
          rw [hspec, spec_status_j0 s hs (by omega) (0, false) (q + 5) (by omega) (by rw [hx]; exact readDec3_no u0 u1 u2 hdg q)]
          refine ⟨rfl, ?_⟩
          rw [show q + 5 + 1 = (q + 2) + 4 by omega, himpl, hdg]
          exact impl_first_no _ _
        | true =>
          obtain ⟨hd0, hd1, hd2⟩ : dg u0 = true ∧ dg u1 = true ∧ dg u2 = true := by simpa using hdg
          obtain ⟨a, rfl⟩ := dg_dd hd0
          obtain ⟨b, rfl⟩ := dg_dd hd1
          obtain ⟨c, rfl⟩ := dg_dd hd2
          obtain ⟨r, hr1, hr2, hr3⟩ := readDec3_yes a b c
          have hat : strconv_Atoi_38.f (txt3 a b c) = some (val3 a b c, none) := by simpa using atoi3_all a b c
          refine ⟨mkStatus r.1 (s.extract 13 s.size) (r.2 && stB r.1 (s.extract 13 s.size)), mkStatus (val3 a b c) (s.extract 13 s.size) (stB (val3 a b c) (s.extract 13 s.size)), fun k hk => ?_, ?_⟩
          · obtain ⟨q, rfl⟩ : ∃ q, k = q + 14 + 1 := ⟨k - 15, by omega⟩
            rw [hspec, spec_status_j0 s hs (by omega) r (q + 14) (by omega) (by rw [hx]; exact hr1 _ (by omega))]
            refine ⟨rfl, ?_⟩
            rw [show q + 14 + 1 = (q + 11) + 4 by omega, himpl, hdg, show q + 11 + 4 = (q + 14) + 1 by omega]
            rw [show (!true) = false from rfl, impl_status_j0 _ (txt3 a b c) (by omega) (by omega) (val3 a b c) (q + 14) (by omega) hx' hat, hy']
          · unfold mkStatus
            simp only
            cases h200 : decide (200 ≤ val3 a b c ∧ val3 a b c ≤ 599) with
            | true =>
              have := of_decide_eq_true h200
              have ha : 2 ≤ a.val := by unfold val3 at this; omega
              rw [hr2 ha]
              exact ⟨by simp, fun _ => ⟨by simp, by simp⟩⟩
            | false =>
              have e2 : stB (val3 a b c) (s.extract 13 s.size) = false := by unfold stB; rw [h200, Bool.false_and]
              have e1 : (r.2 && stB r.1 (s.extract 13 s.size)) = false := by
                cases hr : r.2 with
                | false => rfl
                | true => rw [hr3 hr, e2]; rfl
              rw [e1, e2]
              exact ⟨rfl, fun h => by cases h⟩
      · refine ⟨noFirst, noFirst, fun k hk => ?_, rfl, fun h => absurd h (by decide)⟩
        obtain ⟨q, rfl⟩ := ex_succ k (by omega)
        unfold spec_l6status.f impl_readFirst.f
        rw [if_neg (by omega), if_pos (by decide), if_pos (by omega), if_pos hp2, if_pos (by omega), if_pos rfl, hcut, Option.bind_some, if_pos rfl, show (bt s 12 != 32) = true from bne_iff_ne.2 h32]
        simp only
        rw [if_neg (by omega), if_pos (by omega), hb, if_neg h32]
        exact ⟨spec_first_no q s, impl_first_no q _⟩
  · have hcut := cutPfx_no s hp
    refine ⟨noFirst, noFirst, fun k hk => ?_, rfl, fun h => absurd h (by decide)⟩
    obtain ⟨q, rfl⟩ := ex_succ k (by omega)
    refine ⟨?_, ?_⟩
    · unfold spec_l6status.f
      by_cases h13 : s.size < 13
      · rw [if_pos (by omega)]; exact spec_first_no q s
      · rw [if_neg (by omega), if_pos (by decide), if_pos (by omega), if_neg (show ¬ (s.extract 0 9).toList = ([72, 84, 84, 80, 47, 49, 46, 49, 32] : List UInt8) from fun e => hp ⟨by omega, e⟩)]; exact spec_first_no q s
    · unfold impl_readFirst.f
      rw [if_pos rfl, hcut, Option.bind_some, if_neg (show ¬ false = true from Bool.false_ne_true)]
      exact impl_first_no q _

end Go.Proofs.YtonmpnghlopnoaaGreatDoor.P
end

section
/- Plain laws of our own (Request): about numbers and lists alone; no condition beyond those written. -/
namespace Go.Proofs.YtonmpnghlopnoaaGreatDoor.P
open Go.RowKit Go.Proofs.YtonmpnghlopnoaaGreatDoorW.PrintWords Go.Proofs.YtonmpnghlopnoaaGreatDoorW.PrintLast Go.Proofs.YtonmpnghlopnoaaGreatDoorW.PrintMore
set_option linter.unusedVariables false
set_option linter.unusedSimpArgs false
set_option maxHeartbeats 2000000
theorem toListD (s : ByteArray) : s.toList = s.data.toList := ByteArray.toList_eq s
theorem rest_hit (s : ByteArray) (p n : Nat) (hp : p ≤ n) (h1 : n < s.size) (h2 : bt s (n : Int) = 32) (h3 : ∀ m : Nat, p ≤ m → m < n → bt s (m : Int) ≠ 32) :
    Lib.indexB (s.extract p s.size) (⟨#[32]⟩ : ByteArray) = ((n - p : Nat) : Int) := by
  have hsz : (s.extract p s.size).size = s.size - p := by rw [size_extract]; omega
  show Lib.index (s.extract p s.size).data.toList [32] = _
  rw [Lib.index_one]
  apply indexByte_at_hit
  · omega
  · rw [bt_extract _ _ _ _ (by omega) (by omega) (by omega), show (p : Int) + ((n - p : Nat) : Int) = (n : Int) by omega]; exact h2
  · intro m hm
    rw [bt_extract _ _ _ _ (by omega) (by omega) (by omega)]
    exact h3 (p + m) (by omega) (by omega)
theorem rest_none (s : ByteArray) (p : Nat) (h3 : ∀ m : Nat, p ≤ m → m < s.size → bt s (m : Int) ≠ 32) :
    Lib.indexB (s.extract p s.size) (⟨#[32]⟩ : ByteArray) = -1 := by
  have hsz : (s.extract p s.size).size = s.size - p := by rw [size_extract]; omega
  show Lib.index (s.extract p s.size).data.toList [32] = _
  rw [Lib.index_one]
  apply indexByte_at_none
  intro m hm
  rw [bt_extract _ _ _ _ (by omega) (by omega) (by omega)]
  exact h3 (p + m) (by omega) (by omega)
def splitW (s : ByteArray) (p : Nat) : List ByteArray := Lib.splitB (⟨#[32]⟩ : ByteArray) 0 (Lib.countB (s.extract p s.size) (⟨#[32]⟩ : ByteArray)) (s.extract p s.size)
theorem splitW_none (s : ByteArray) (p : Nat) (h3 : ∀ m : Nat, p ≤ m → m < s.size → bt s (m : Int) ≠ 32) : splitW s p = [s.extract p s.size] := by
  unfold splitW
  exact Lib.splitB_miss _ _ _ _ (rest_none s p h3)
theorem splitW_hit (s : ByteArray) (p n : Nat) (hp : p ≤ n) (h1 : n < s.size) (h2 : bt s (n : Int) = 32) (h3 : ∀ m : Nat, p ≤ m → m < n → bt s (m : Int) ≠ 32) :
    splitW s p = s.extract p n :: splitW s (n + 1) := by
  have hix := rest_hit s p n hp h1 h2 h3
  have hsz : (s.extract p s.size).size = s.size - p := by rw [size_extract]; omega
  have h1s : (⟨#[32]⟩ : ByteArray).size = 1 := rfl
  have hr : (s.extract p s.size).extract (n - p + 1) (s.extract p s.size).size = s.extract (n + 1) s.size := by
    rw [hsz, ext_ext _ _ _ _ _ (by omega), show p + (n - p + 1) = n + 1 by omega, show p + (s.size - p) = s.size by omega]
  unfold splitW
  rw [Lib.countB_hit _ _ _ (by decide) hix, h1s, hr, Nat.add_comm 1, Lib.splitB_hit _ _ _ _ _ hix, h1s, hr, ext_ext _ _ _ _ _ (by omega), show p + 0 = p by omega, show p + (n - p + 0) = n by omega]
theorem extract_all (s : ByteArray) : s.extract 0 s.size = s := by
  apply ByteArray.ext
  rw [ByteArray.data_extract]
  exact Array.extract_eq_self_of_le (Nat.le_refl _)
def visB (s : ByteArray) : Bool := allB (fun i => decide (33 ≤ bt s i ∧ bt s i ≤ 126)) s.size 0
theorem impl_visible_eq (s : ByteArray) (hs : s.size ≤ 1048576) (k : Nat) (hk : s.size + 1 < k) : impl_all__impl_isVisible.f k s = some (visB s) := by
  refine all_from (fun k i => impl_all__impl_isVisible.l0 k s i) s.size _ 1 (fun k i hi => by simp only [impl_all__impl_isVisible.l0]; rw [if_neg (by omega)]) (fun k i h0 h1 hk => ?_) k (by omega)
  simp only [impl_all__impl_isVisible.l0, impl_isVisible.f]
  rw [if_pos h1, if_pos h0, wrap_id (by omega) (by omega)]
  by_cases h : bt s i ≥ 33
  · rw [if_pos h, Option.bind_some]
    by_cases h2 : bt s i ≤ 126
    · rw [if_pos (decide_eq_true h2), if_pos (decide_eq_true ⟨h, h2⟩)]
    · rw [if_neg (by rw [decide_eq_false h2]; decide), if_neg (by rw [decide_eq_false (fun x => h2 x.2)]; decide)]
  · rw [if_neg h, Option.bind_some, if_neg (by decide), if_neg (by rw [decide_eq_false (fun x => h x.1)]; decide)]
theorem spec_visible_eq (s : ByteArray) (hs : s.size ≤ 1048576) (k : Nat) (hk : s.size + 1 < k) : spec_l6visible.f k s = some (decide (0 < s.size) && visB s) := by
  by_cases h0 : 0 < s.size
  · rw [decide_eq_true h0, Bool.true_and]
    refine all_from (fun k i => spec_l6visible.l0 k s i) s.size _ 1 (fun k i hi => by simp only [spec_l6visible.l0]; rw [if_neg (by omega), decide_eq_true (by omega)]) (fun k i h0 h1 hk => ?_) k (by omega)
    simp only [spec_l6visible.l0]
    rw [if_pos h1, if_pos h0, wrap_id (by omega) (by omega)]
    by_cases h : bt s i < 33
    · rw [if_pos h, if_neg (by rw [decide_eq_false (fun x => by omega)]; decide)]
    · rw [if_neg h]
      by_cases h2 : bt s i > 126
      · rw [if_pos h2, if_neg (by rw [decide_eq_false (fun x => by omega)]; decide)]
      · rw [if_neg h2, if_pos (decide_eq_true (by omega))]
  · obtain ⟨k, rfl⟩ := ex_succ k (by omega)
    unfold spec_l6visible.f
    simp only [spec_l6visible.l0]
    rw [if_neg (by omega), decide_eq_false h0, Bool.false_and, decide_eq_false (by omega)]
def reqR (a b : ByteArray) (ok : Bool) : FirstR := (a, b, 0, (⟨#[]⟩ : ByteArray), false, [], (⟨#[]⟩ : ByteArray), ok)
def reqB (a b : ByteArray) : Bool := decide (a.size ≤ 20) && (tokB a && (decide (b.size ≤ 200) && (decide (0 < b.size) && visB b)))
theorem spec_request_eq (a b : ByteArray) (k : Nat) (hk : 5500 < k) : spec_l6request.f k a b 0 (⟨#[]⟩ : ByteArray) false [] (⟨#[]⟩ : ByteArray) = some (reqB a b) := by
  have h0 : ((⟨#[]⟩ : ByteArray).toList = ([] : List UInt8)) = True := eq_true (by decide +kernel)
  unfold spec_l6request.f reqB
  by_cases h1 : a.size ≤ 20
  · rw [if_pos (by omega), decide_eq_true h1, Bool.true_and, spec_Token_eq a k (by omega), Option.bind_some]
    by_cases h2 : tokB a = true
    · rw [if_pos h2, h2, Bool.true_and]
      by_cases h3 : b.size ≤ 200
      · rw [if_pos (by omega), decide_eq_true h3, Bool.true_and, spec_visible_eq b (by omega) k (by omega), Option.bind_some]
        simp only [h0]
        cases (decide (0 < b.size) && visB b) <;> rfl
      · rw [if_neg (by omega), decide_eq_false h3, Bool.false_and]
    · rw [if_neg h2]; simp [h2]
  · rw [if_neg (by omega), decide_eq_false h1, Bool.false_and]
theorem impl_request_eq (a b c : ByteArray) (k : Nat) (hk : 5500 < k) : impl_readFirst.j1 (k + 1) [a, b, c] false = some (reqR a b (reqB a b)) := by
  have e0 : rdOf ByteArray.empty [a, b, c] 0 = a := rfl
  have e1 : rdOf ByteArray.empty [a, b, c] 1 = b := rfl
  simp only [impl_readFirst.j1, e0, e1]
  rw [if_neg (by decide), if_pos (by simp), if_pos (by simp)]
  unfold impl_isMethod.f impl_isTarget.f reqB reqR
  rw [impl_Token_eq a k (by omega), Option.bind_some, within_eq]
  by_cases h2 : tokB a = true
  · rw [if_pos h2, Option.bind_some, h2, Bool.true_and]
    by_cases h1 : a.size ≤ 20
    · rw [if_pos (decide_eq_true (by omega)), decide_eq_true h1, Bool.true_and, Option.bind_some]
      by_cases h3 : b.size ≤ 200
      · rw [decide_eq_true h3, Bool.true_and]
        by_cases h4 : 0 < b.size
        · rw [if_pos (decide_eq_true (by omega)), decide_eq_true h4, Bool.true_and, impl_visible_eq b (by omega) k (by omega)]
          rfl
        · rw [if_neg (by rw [decide_eq_false (by omega)]; decide), decide_eq_false h4, Bool.false_and]
          rfl
      · rw [if_neg (by rw [decide_eq_false (by omega)]; decide), decide_eq_false h3, Bool.false_and]
        rfl
    · rw [if_neg (by rw [decide_eq_false (by omega)]; decide), decide_eq_false h1, Bool.false_and]
  · rw [if_neg h2, Option.bind_some, if_neg (by decide)]
    simp [h2]
theorem impl_req_no (k : Nat) (l : List ByteArray) : impl_readFirst.j1 (k + 1) l true = some noFirst := by
  simp only [impl_readFirst.j1]
  rfl
def verL : List UInt8 := [72, 84, 84, 80, 47, 49, 46, 49]
def firstAt (s : ByteArray) (n : Nat) : FirstR :=
  if s.size < n + 11 then noFirst
  else if (s.extract (s.size - 9) s.size).toList = ([32, 72, 84, 84, 80, 47, 49, 46, 49] : List UInt8) then
    reqR (s.extract 0 n) (s.extract (n + 1) (s.size - 9)) (reqB (s.extract 0 n) (s.extract (n + 1) (s.size - 9)))
  else noFirst
theorem spec_first_hit (s : ByteArray) (hs : s.size ≤ 1048576) (n : Nat) (hn : n < s.size) (hb : bt s (n : Int) = 32) (k : Nat) (hk : 5500 < k) : spec_l6first.l0 (k + 1) s (n : Int) = some (firstAt s n) := by
  have hw := wrap_succ n (by omega)
  have hw2 : wrap64 ((n : Int) + 11) = ((n + 11 : Nat) : Int) := by rw [wrap_id (by omega) (by omega)]; rfl
  simp only [spec_l6first.l0]
  rw [if_pos (by omega), if_pos (by omega), if_pos hb, hw2, hw]
  clear hb
  unfold firstAt noFirst
  by_cases h : s.size < n + 11
  · rw [if_pos (by omega), if_pos h]
  · have hw3 : wrap64 ((s.size : Int) - 9) = ((s.size - 9 : Nat) : Int) := by
      rw [wrap_id (by clear hw hw2; omega) (by clear hw hw2; omega)]; clear hw hw2; omega
    rw [if_neg (by omega), if_neg h, hw3, if_pos (by clear hw hw2 hw3; omega), if_pos (by clear hw hw2 hw3; omega)]
    simp only [Int.toNat_natCast]
    clear hw hw2 hw3
    split
    · rw [if_pos (by omega), if_pos (by omega), if_pos (by omega), spec_request_eq _ _ k hk]
      rfl
    · rfl
theorem spec_first_none (s : ByteArray) (hs : s.size ≤ 1048576) (k : Nat) : spec_l6first.l0 (k + 1) s (s.size : Int) = some noFirst := by
  have hw2 : wrap64 ((s.size : Int) + 11) = ((s.size + 11 : Nat) : Int) := by rw [wrap_id (by omega) (by omega)]; rfl
  simp only [spec_l6first.l0]
  rw [if_neg (by omega), hw2, if_pos (by omega)]
  rfl
theorem tail_list (s : ByteArray) (p : Nat) : (s.extract p s.size).toList = s.data.toList.drop p := by
  rw [toListD, list_extract, List.take_of_length_le (by rw [len_eq]; omega)]
theorem last9_bt {s : ByteArray} (h9 : 9 ≤ s.size) (h : (s.extract (s.size - 9) s.size).toList = ([32, 72, 84, 84, 80, 47, 49, 46, 49] : List UInt8)) :
    bt s ((s.size - 9 : Nat) : Int) = 32 ∧ (∀ m : Nat, s.size - 9 < m → m < s.size → bt s (m : Int) ≠ 32) ∧ (s.extract (s.size - 8) s.size).toList = verL := by
  rw [tail_list] at h
  have at9 : ∀ j : Nat, s.data.toList[s.size - 9 + j]? = ([32, 72, 84, 84, 80, 47, 49, 46, 49] : List UInt8)[j]? := fun j => by rw [← h, List.getElem?_drop]
  refine ⟨(bt_at (b := 32) (at9 0)).2, fun m h1 h2 => ?_, ?_⟩
  · obtain ⟨j, rfl⟩ : ∃ j, m = s.size - 9 + (j + 1) := ⟨m - (s.size - 9) - 1, by omega⟩
    have hj : j < 8 := by omega
    have hx := at9 (j + 1)
    obtain ⟨b, hb1, hb2⟩ := at_bt h2
    rw [hx] at hb1
    rw [hb2]
    intro e
    have e2 : b = 32 := UInt8.toNat_inj.1 (by show b.toNat = 32; omega)
    subst e2
    have hall : ∀ j : Fin 8, ([32, 72, 84, 84, 80, 47, 49, 46, 49] : List UInt8)[j.val + 1]? ≠ some 32 := by decide
    exact hall ⟨j, hj⟩ hb1
  · rw [tail_list, show s.size - 8 = (s.size - 9) + 1 by omega, ← List.drop_drop, h]
    rfl
theorem last9_of {s : ByteArray} {n : Nat} (h9 : s.size = n + 9) (hb : bt s (n : Int) = 32) (h : (s.extract (n + 1) s.size).toList = verL) : (s.extract (s.size - 9) s.size).toList = ([32, 72, 84, 84, 80, 47, 49, 46, 49] : List UInt8) := by
  rw [tail_list] at h ⊢
  obtain ⟨b, hb1, hb2⟩ := at_bt (s := s) (n := n) (by omega)
  have e2 : b = 32 := UInt8.toNat_inj.1 (by show b.toNat = 32; omega)
  obtain ⟨h1, h2⟩ := List.getElem?_eq_some_iff.mp hb1
  rw [show s.size - 9 = n by omega, List.drop_eq_getElem_cons h1, h, h2, e2]
  rfl
theorem not_vis {s : ByteArray} {m : Nat} (h : m < s.size) (hb : bt s (m : Int) = 32) : visB s = false := by
  cases hv : visB s with
  | false => rfl
  | true =>
    have := allB_at _ _ hv m h
    rw [Int.zero_add] at this
    have := of_decide_eq_true this
    omega
theorem impl_first_split (s : ByteArray) (hs : s.size ≤ 1048576) (k : Nat) : impl_readFirst.f k s false = if (((splitW s 0).length : Nat) : Int) = 3 then (if 2 < (((splitW s 0).length : Nat) : Int) then impl_readFirst.j1 k (splitW s 0) ((rdOf ByteArray.empty (splitW s 0) 2).toList != ([72, 84, 84, 80, 47, 49, 46, 49] : List UInt8)) else none) else impl_readFirst.j1 k (splitW s 0) true := by
  have h : strings_Split.f s (⟨#[32]⟩ : ByteArray) = some (splitW s 0) := by
    unfold strings_Split.f splitW
    simp only
    rw [if_pos (by omega), extract_all]
  unfold impl_readFirst.f
  rw [if_neg (by decide), h, Option.bind_some]
theorem impl_words_no (s : ByteArray) (hs : s.size ≤ 1048576) (h : (splitW s 0).length ≠ 3) (k : Nat) : impl_readFirst.f (k + 1) s false = some noFirst := by
  rw [impl_first_split s hs, if_neg (by omega)]
  exact impl_req_no k _
theorem impl_words_3 (s a b c : ByteArray) (hs : s.size ≤ 1048576) (h : splitW s 0 = [a, b, c]) (k : Nat) (hk : 5500 < k) :
    impl_readFirst.f (k + 1) s false = some (if c.toList = verL then reqR a b (reqB a b) else noFirst) := by
  rw [impl_first_split s hs, h, if_pos (by rfl), if_pos (show (2 : Int) < (([a, b, c].length : Nat) : Int) from (by show (2 : Int) < ((3 : Nat) : Int); decide))]
  have e2 : rdOf ByteArray.empty [a, b, c] 2 = c := rfl
  rw [e2]
  by_cases hc : c.toList = verL
  · rw [if_pos hc, hc, show (verL != ([72, 84, 84, 80, 47, 49, 46, 49] : List UInt8)) = false from by decide]
    exact impl_request_eq a b c k hk
  · rw [if_neg hc, show (c.toList != ([72, 84, 84, 80, 47, 49, 46, 49] : List UInt8)) = true from bne_iff_ne.2 hc]
    exact impl_req_no k _
theorem reqB_false_of (a b : ByteArray) (h : b.size = 0 ∨ visB b = false) : reqB a b = false := by
  unfold reqB
  rcases h with h | h
  · rw [decide_eq_false (show ¬ 0 < b.size by omega), Bool.false_and, Bool.and_false, Bool.and_false, Bool.and_false]
  · rw [h, Bool.and_false, Bool.and_false, Bool.and_false, Bool.and_false]
theorem request_eq (s : ByteArray) (hs : s.size ≤ 1048576) : ∃ r r' : FirstR, (∀ k, s.size + 5600 < k → spec_l6first.f k s = some r ∧ impl_readFirst.f k s false = some r') ∧
    r.2.2.2.2.2.2.2 = r'.2.2.2.2.2.2.2 ∧ (r.2.2.2.2.2.2.2 = true → r = r' ∧ r.2.2.2.2.2.1 = []) := by
  have skip := fun (hi : Nat) (hhi : hi ≤ s.size) (hno : ∀ m : Nat, m < hi → bt s (m : Int) ≠ 32) (k : Nat) =>
    skip_to (fun k i => spec_l6first.l0 k s i) 0 hi (fun k i h0 h1 => by
      have hw := wrap_succ i (by omega)
      simp only [spec_l6first.l0]
      rw [if_pos (by omega), if_pos (by omega), if_neg (hno i h1), hw]) hi k 0 (Nat.le_refl _) (by omega)
  have fon : ∀ p, p ≤ s.size → (∃ n, p ≤ n ∧ n < s.size ∧ bt s (n : Int) = 32 ∧ ∀ m : Nat, p ≤ m → m < n → bt s (m : Int) ≠ 32) ∨ (∀ m : Nat, p ≤ m → m < s.size → bt s (m : Int) ≠ 32) := by
    intro p hp
    rcases first_or_none (fun n => decide (bt s (n : Int) = 32)) s.size (s.size - p) p (by omega) with ⟨n, h1, h2, h3, h4⟩ | h4
    · exact .inl ⟨n, h1, h2, of_decide_eq_true h3, fun m m1 m2 => of_decide_eq_false (h4 m m1 m2)⟩
    · exact .inr fun m m1 m2 => of_decide_eq_false (h4 m m1 m2)
  have ok_no : noFirst.2.2.2.2.2.2.2 = false := rfl
  rcases fon 0 (Nat.zero_le _) with ⟨n, h1, h2, h3, h4⟩ | h4
  · have hspec : ∀ k, s.size + 5600 < k → spec_l6first.f k s = some (firstAt s n) := by
      intro k hk
      unfold spec_l6first.f
      obtain ⟨q, rfl⟩ := ex_rounds k n (by omega)
      exact (skip n (by omega) (fun m hm => h4 m (Nat.zero_le _) hm) (q + 1)).trans (spec_first_hit s hs n h2 h3 q (by omega))
    have hw0 := splitW_hit s 0 n (Nat.zero_le _) h2 h3 h4
    -- when the line does not end well, spec says no
    have bad : (∀ k, s.size + 5600 < k → impl_readFirst.f k s false = some noFirst) → (firstAt s n).2.2.2.2.2.2.2 = false → ∃ r r' : FirstR, (∀ k, s.size + 5600 < k → spec_l6first.f k s = some r ∧ impl_readFirst.f k s false = some r') ∧
        r.2.2.2.2.2.2.2 = r'.2.2.2.2.2.2.2 ∧ (r.2.2.2.2.2.2.2 = true → r = r' ∧ r.2.2.2.2.2.1 = []) := fun hi hf =>
      ⟨firstAt s n, noFirst, fun k hk => ⟨hspec k hk, hi k hk⟩, by rw [hf]; rfl, fun h => by rw [hf] at h; cases h⟩
    rcases fon (n + 1) (by omega) with ⟨n1, g1, g2, g3, g4⟩ | g4
    · have hw1 := splitW_hit s (n + 1) n1 g1 g2 g3 g4
      rcases fon (n1 + 1) (by omega) with ⟨n2, f1, f2, f3, f4⟩ | f4
      · have hw2 := splitW_hit s (n1 + 1) n2 f1 f2 f3 f4
        have hlen : (splitW s 0).length ≠ 3 := by
          rw [hw0, hw1, hw2]
          have : (splitW s (n2 + 1)) ≠ [] := by
            unfold splitW
            cases hc : Lib.countB (s.extract (n2 + 1) s.size) (⟨#[32]⟩ : ByteArray) with
            | zero => simp [Lib.splitB]
            | succ c => unfold Lib.splitB; split <;> simp
          intro e
          have : (splitW s (n2 + 1)).length = 0 := by simpa using e
          exact absurd (List.eq_nil_of_length_eq_zero this) ‹_›
        refine bad (fun k hk => ?_) ?_
        · obtain ⟨q, rfl⟩ := ex_succ k (by omega)
          exact impl_words_no s hs hlen q
        · unfold firstAt
          split
          · rfl
          · rename_i hl
            split
            · rename_i hx
              obtain ⟨l1, l2, _⟩ := last9_bt (by omega) hx
              have hlt : n1 < s.size - 9 := by
                rcases Nat.lt_or_ge n1 (s.size - 9) with h | h
                · exact h
                · exact absurd f3 (l2 n2 (by omega) f2)
              show reqB _ _ = false
              apply reqB_false_of
              right
              apply not_vis (m := n1 - (n + 1)) (by rw [size_extract]; omega)
              rw [bt_extract _ _ _ _ (by omega) (by omega) (by omega), show ((n + 1 : Nat) : Int) + ((n1 - (n + 1) : Nat) : Int) = (n1 : Int) by omega]
              exact g3
            · rfl
      · have hws : splitW s 0 = [s.extract 0 n, s.extract (n + 1) n1, s.extract (n1 + 1) s.size] := by
          rw [hw0, hw1, splitW_none s (n1 + 1) f4]
        by_cases hc : (s.extract (n1 + 1) s.size).toList = verL
        · have hsz : s.size = n1 + 9 := by
            have := congrArg List.length hc
            rw [tail_list, List.length_drop, len_eq] at this
            have e8 : verL.length = 8 := rfl
            omega
          have h9 := last9_of hsz g3 hc
          have hn1 : s.size - 9 = n1 := by omega
          have himpl : ∀ k, s.size + 5600 < k → impl_readFirst.f k s false = some (reqR (s.extract 0 n) (s.extract (n + 1) n1) (reqB (s.extract 0 n) (s.extract (n + 1) n1))) := by
            intro k hk
            obtain ⟨q, rfl⟩ := ex_succ k (by omega)
            rw [impl_words_3 s _ _ _ hs hws q (by omega), if_pos hc]
          by_cases hl : s.size < n + 11
          · have hb : reqB (s.extract 0 n) (s.extract (n + 1) n1) = false := reqB_false_of _ _ (.inl (by rw [size_extract]; omega))
            rw [hb] at himpl
            have hf : firstAt s n = noFirst := by unfold firstAt; rw [if_pos hl]
            rw [hf] at hspec
            exact ⟨_, _, fun k hk => ⟨hspec k hk, himpl k hk⟩, rfl, fun h => by cases h⟩
          · have hf : firstAt s n = reqR (s.extract 0 n) (s.extract (n + 1) n1) (reqB (s.extract 0 n) (s.extract (n + 1) n1)) := by
              unfold firstAt
              rw [if_neg hl, if_pos h9, hn1]
            rw [hf] at hspec
            exact ⟨_, _, fun k hk => ⟨hspec k hk, himpl k hk⟩, rfl, fun _ => ⟨rfl, rfl⟩⟩
        · refine bad (fun k hk => ?_) ?_
          · obtain ⟨q, rfl⟩ := ex_succ k (by omega)
            rw [impl_words_3 s _ _ _ hs hws q (by omega), if_neg hc]
          · unfold firstAt
            split
            · rfl
            · rename_i hl
              split
              · rename_i hx
                obtain ⟨l1, l2, l3⟩ := last9_bt (by omega) hx
                exfalso
                have e : s.size - 9 = n1 := by
                  rcases Nat.lt_trichotomy n1 (s.size - 9) with h | h | h
                  · exact absurd l1 (f4 _ (by omega) (by omega))
                  · exact h.symm
                  · exact absurd l1 (g4 _ (by omega) h)
                apply hc
                rw [show n1 + 1 = s.size - 8 by omega]
                exact l3
              · rfl
    · have hws : splitW s 0 = [s.extract 0 n, s.extract (n + 1) s.size] := by rw [hw0, splitW_none s (n + 1) g4]
      refine bad (fun k hk => ?_) ?_
      · obtain ⟨q, rfl⟩ := ex_succ k (by omega)
        exact impl_words_no s hs (by rw [hws]; simp) q
      · unfold firstAt
        split
        · rfl
        · rename_i hl
          split
          · rename_i hx
            obtain ⟨l1, l2, l3⟩ := last9_bt (by omega) hx
            exact absurd l1 (g4 _ (by omega) (by omega))
          · rfl
  · refine ⟨noFirst, noFirst, fun k hk => ⟨?_, ?_⟩, rfl, fun h => by cases h⟩
    · unfold spec_l6first.f
      obtain ⟨q, rfl⟩ := ex_rounds k s.size (by omega)
      exact (skip s.size (Nat.le_refl _) (fun m hm => h4 m (Nat.zero_le _) hm) (q + 1)).trans (spec_first_none s hs q)
    · obtain ⟨q, rfl⟩ := ex_succ k (by omega)
      exact impl_words_no s hs (by rw [splitW_none s 0 h4]; simp) q

end Go.Proofs.YtonmpnghlopnoaaGreatDoor.P
end

section
/- Plain laws of our own (ReadHead): about numbers and lists alone; no condition beyond those written. -/
namespace Go.Proofs.YtonmpnghlopnoaaGreatDoor.P
open Go.RowKit Go.Proofs.YtonmpnghlopnoaaGreatDoorW.PrintWords Go.Proofs.YtonmpnghlopnoaaGreatDoorW.PrintLast Go.Proofs.YtonmpnghlopnoaaGreatDoorW.PrintMore
set_option linter.unusedVariables false
set_option linter.unusedSimpArgs false
set_option maxHeartbeats 2000000
abbrev HeadR := ByteArray × ByteArray × Int × ByteArray × Bool × (List (S41)) × ByteArray × Int × Int
def noHead (c : Int) : HeadR := ((⟨#[]⟩ : ByteArray), (⟨#[]⟩ : ByteArray), 0, (⟨#[]⟩ : ByteArray), false, [], (⟨#[]⟩ : ByteArray), 0, c)
theorem first_eq (s : ByteArray) (hs : s.size ≤ 1048576) (a1 : Bool) : ∃ r r' : FirstR, (∀ k, s.size + 5600 < k → (if a1 = true then spec_l6status.f k s else spec_l6first.f k s) = some r ∧ impl_readFirst.f k s a1 = some r') ∧
    r.2.2.2.2.2.2.2 = r'.2.2.2.2.2.2.2 ∧ (r.2.2.2.2.2.2.2 = true → r = r' ∧ r.2.2.2.2.2.1 = []) := by
  cases a1 with
  | true =>
    obtain ⟨r, r', h1, h2⟩ := status_eq s hs
    exact ⟨r, r', fun k hk => by rw [if_pos rfl]; exact h1 k (by omega), h2⟩
  | false =>
    obtain ⟨r, r', h1, h2⟩ := request_eq s hs
    exact ⟨r, r', fun k hk => by rw [if_neg (by decide)]; exact h1 k (by omega), h2⟩
theorem spec_head_j1_first (k : Nat) (a1 : Bool) (x m0 m1 m3 m6 T : ByteArray) (m2 : Int) (m4 : Bool) (l : List S41) (p : Int) (r : FirstR)
    (h : (if a1 = true then spec_l6status.f k x else spec_l6first.f k x) = some r) :
    spec_ReadHead.j1 (k + 1) a1 true x false m0 m1 m2 m3 m4 l m6 T p = if r.2.2.2.2.2.2.2 = true then spec_ReadHead.l0 k a1 false r.1 r.2.1 r.2.2.1 r.2.2.2.1 r.2.2.2.2.1 r.2.2.2.2.2.1 r.2.2.2.2.2.2.1 T p else some (noHead 400) := by
  simp only [spec_ReadHead.j1]
  rw [if_neg (by decide), if_pos trivial]
  cases a1 with
  | true => rw [if_pos rfl] at h ⊢; rw [h, Option.bind_some]; rfl
  | false => rw [if_neg (by decide)] at h ⊢; rw [h, Option.bind_some]; rfl
theorem impl_head_j1_first (k : Nat) (a1 : Bool) (x m0 m1 m3 m6 T : ByteArray) (m2 : Int) (m4 : Bool) (l : List S41) (p : Int) (r : FirstR)
    (h : impl_readFirst.f k x a1 = some r) :
    impl_ReadHead.j1 (k + 1) a1 true x false T p m0 m1 m2 m3 m4 l m6 = if r.2.2.2.2.2.2.2 = true then impl_ReadHead.l0 k a1 false T p r.1 r.2.1 r.2.2.1 r.2.2.2.1 r.2.2.2.2.1 r.2.2.2.2.2.1 r.2.2.2.2.2.2.1 else some (noHead 400) := by
  simp only [impl_ReadHead.j1]
  rw [if_neg (by decide), if_pos trivial, h, Option.bind_some]
  rfl
theorem spec_head_j1_next (k : Nat) (a1 : Bool) (x m0 m1 m3 m6 T : ByteArray) (m2 : Int) (m4 : Bool) (l : List S41) (p : Int) (r : FieldR)
    (h : spec_ReadField.f k x = some r) (hl : l.length ≤ 20) :
    spec_ReadHead.j1 (k + 1) a1 false x false m0 m1 m2 m3 m4 l m6 T p = if x.toList = ([] : List UInt8) then some (m0, m1, m2, m3, m4, l, m6, p, 0) else if (l.length : Int) = 20 then some (noHead 431) else
      if r.2.2 = true then spec_ReadHead.l0 k a1 false m0 m1 m2 m3 m4 (l ++ [⟨r.1, r.2.1⟩]) m6 T p else some (noHead 400) := by
  simp only [spec_ReadHead.j1]
  rw [if_neg (by decide), if_neg (by decide), h, Option.bind_some, if_pos (show l.length < 4398046511104 by omega)]
  rfl
theorem impl_head_j1_next (k : Nat) (a1 : Bool) (x m0 m1 m3 m6 T : ByteArray) (m2 : Int) (m4 : Bool) (l : List S41) (p : Int) (r : FieldR)
    (h : impl_ReadField.f k x = some r) (hl : l.length ≤ 20) :
    impl_ReadHead.j1 (k + 1) a1 false x false T p m0 m1 m2 m3 m4 l m6 = if x.toList = ([] : List UInt8) then some (m0, m1, m2, m3, m4, l, m6, p, 0) else if (l.length : Int) = 20 then some (noHead 431) else
      if r.2.2 = true then impl_ReadHead.l0 k a1 false T p m0 m1 m2 m3 m4 (l ++ [⟨r.1, r.2.1⟩]) m6 else some (noHead 400) := by
  simp only [impl_ReadHead.j1]
  rw [if_neg (by decide), if_neg (by decide), h, Option.bind_some, if_pos (show l.length < 4398046511104 by omega)]
  rfl
theorem spec_head_l0 (k : Nat) (a1 b : Bool) (m0 m1 m3 m6 T : ByteArray) (m2 : Int) (m4 : Bool) (l : List S41) (p : Int) (r : LineT) (h : spec_TakeLine.f (k + 1) T p = some r) (h0 : r.2.2.2 = 0) (hT : r.2.1 = T) :
    spec_ReadHead.l0 (k + 2) a1 b m0 m1 m2 m3 m4 l m6 T p = if ((r.1.size : Int) > 300 ∨ r.2.2.1 > 1500) then some (noHead 431) else spec_ReadHead.j1 (k + 1) a1 b r.1 false m0 m1 m2 m3 m4 l m6 T r.2.2.1 := by
  simp only [spec_ReadHead.l0]
  rw [h, Option.bind_some, if_pos h0, hT]
  by_cases h1 : (r.1.size : Int) > 300
  · rw [if_pos h1, if_pos (.inl h1)]
    simp only [spec_ReadHead.j1]
    rfl
  · rw [if_neg h1]
    by_cases h2 : r.2.2.1 > 1500
    · rw [if_pos (.inr h2), decide_eq_true h2]
      simp only [spec_ReadHead.j1]
      rfl
    · rw [if_neg (fun e => e.elim h1 h2), decide_eq_false h2]
theorem impl_head_l0 (k : Nat) (a1 b : Bool) (m0 m1 m3 m6 T : ByteArray) (m2 : Int) (m4 : Bool) (l : List S41) (p : Int) (r : LineT) (h : impl_TakeLine.f (k + 1) T p = some r) (h0 : r.2.2.2 = 0) (hT : r.2.1 = T) :
    impl_ReadHead.l0 (k + 2) a1 b T p m0 m1 m2 m3 m4 l m6 = if ((r.1.size : Int) > 300 ∨ r.2.2.1 > 1500) then some (noHead 431) else impl_ReadHead.j1 (k + 1) a1 b r.1 false T r.2.2.1 m0 m1 m2 m3 m4 l m6 := by
  simp only [impl_ReadHead.l0]
  rw [h, Option.bind_some, if_pos h0, hT]
  by_cases h1 : (r.1.size : Int) > 300
  · rw [if_pos h1, if_pos (.inl h1)]
    simp only [impl_ReadHead.j1]
    rfl
  · rw [if_neg h1]
    by_cases h2 : r.2.2.1 > 1500
    · rw [if_pos (.inr h2), decide_eq_true h2]
      simp only [impl_ReadHead.j1]
      rfl
    · rw [if_neg (fun e => e.elim h1 h2), decide_eq_false h2]
theorem noHead_len (c : Int) : (noHead c).2.2.2.2.2.1.length ≤ 20 := by show 0 ≤ 20; omega
theorem readHead_loop (T : ByteArray) (hT : T.size ≤ 1048576) (a1 : Bool) : ∀ (d p : Nat), p ≤ T.size → T.size - p = d → ∀ (b : Bool) (m0 m1 m3 m6 : ByteArray) (m2 : Int) (m4 : Bool) (l : List S41), l.length ≤ 20 →
    ∃ r : HeadR, r.2.2.2.2.2.1.length ≤ 20 ∧ ∀ k, 3 * T.size + 10000 + 2 * d < k → spec_ReadHead.l0 k a1 b m0 m1 m2 m3 m4 l m6 T (p : Int) = some r ∧ impl_ReadHead.l0 k a1 b T (p : Int) m0 m1 m2 m3 m4 l m6 = some r := by
  intro d
  induction d using Nat.strongRecOn with
  | _ d ih =>
    intro p hp hd b m0 m1 m3 m6 m2 m4 l hl
    obtain ⟨r, hr, hr2⟩ := takeLine_eq T hT p hp
    by_cases h0 : r.2.2.2 = 0
    · obtain ⟨hrT, q, hq, hq1, hq2⟩ := hr2 h0
      by_cases hbig : (r.1.size : Int) > 300 ∨ r.2.2.1 > 1500
      · refine ⟨noHead 431, noHead_len _, fun k hk => ?_⟩
        obtain ⟨k, rfl⟩ : ∃ j, k = j + 2 := ⟨k - 2, by omega⟩
        obtain ⟨e1, e2⟩ := hr (k + 1) (by omega)
        rw [spec_head_l0 k a1 b m0 m1 m3 m6 T m2 m4 l _ r e1 h0 hrT, impl_head_l0 k a1 b m0 m1 m3 m6 T m2 m4 l _ r e2 h0 hrT, if_pos hbig, if_pos hbig]
        exact ⟨rfl, rfl⟩
      · have hx : r.1.size ≤ 300 := by omega
        have ihq := ih (T.size - q) (by omega) q hq2 rfl
        have toj1 : ∀ R : HeadR, (∀ k, 3 * T.size + 9998 + 2 * d < k → spec_ReadHead.j1 (k + 1) a1 b r.1 false m0 m1 m2 m3 m4 l m6 T (q : Int) = some R ∧ impl_ReadHead.j1 (k + 1) a1 b r.1 false T (q : Int) m0 m1 m2 m3 m4 l m6 = some R) →
            ∀ k, 3 * T.size + 10000 + 2 * d < k → spec_ReadHead.l0 k a1 b m0 m1 m2 m3 m4 l m6 T (p : Int) = some R ∧ impl_ReadHead.l0 k a1 b T (p : Int) m0 m1 m2 m3 m4 l m6 = some R := by
          intro R hR k hk
          obtain ⟨k, rfl⟩ : ∃ j, k = j + 2 := ⟨k - 2, by omega⟩
          obtain ⟨e1, e2⟩ := hr (k + 1) (by omega)
          rw [spec_head_l0 k a1 b m0 m1 m3 m6 T m2 m4 l _ r e1 h0 hrT, impl_head_l0 k a1 b m0 m1 m3 m6 T m2 m4 l _ r e2 h0 hrT, if_neg hbig, if_neg hbig, hq]
          exact hR k (by omega)
        cases b with
        | true =>
          obtain ⟨f, f', hf, hf1, hf2⟩ := first_eq r.1 (by omega) a1
          cases hok : f.2.2.2.2.2.2.2 with
          | false =>
            refine ⟨noHead 400, noHead_len _, toj1 _ fun k hk => ?_⟩
            obtain ⟨g1, g2⟩ := hf k (by omega)
            rw [spec_head_j1_first k a1 r.1 m0 m1 m3 m6 T m2 m4 l _ f g1, impl_head_j1_first k a1 r.1 m0 m1 m3 m6 T m2 m4 l _ f' g2, ← hf1, hok, if_neg (by decide), if_neg (by decide)]
            exact ⟨rfl, rfl⟩
          | true =>
            obtain ⟨hff, hfl⟩ := hf2 hok
            subst hff
            obtain ⟨R, hRl, hR⟩ := ihq false f.1 f.2.1 f.2.2.2.1 f.2.2.2.2.2.2.1 f.2.2.1 f.2.2.2.2.1 f.2.2.2.2.2.1 (by rw [hfl]; exact Nat.zero_le _)
            refine ⟨R, hRl, toj1 _ fun k hk => ?_⟩
            obtain ⟨g1, g2⟩ := hf k (by omega)
            rw [spec_head_j1_first k a1 r.1 m0 m1 m3 m6 T m2 m4 l _ f g1, impl_head_j1_first k a1 r.1 m0 m1 m3 m6 T m2 m4 l _ f g2, if_pos hok, if_pos hok]
            exact hR k (by omega)
        | false =>
          obtain ⟨f, hf⟩ := readField_eq r.1 (by omega)
          have step := fun k (hk : 3 * T.size + 9998 + 2 * d < k) => (show _ ∧ _ from ⟨spec_head_j1_next k a1 r.1 m0 m1 m3 m6 T m2 m4 l (q : Int) f (hf k (by omega)).1 hl, impl_head_j1_next k a1 r.1 m0 m1 m3 m6 T m2 m4 l (q : Int) f (hf k (by omega)).2 hl⟩)
          by_cases hnil : r.1.toList = ([] : List UInt8)
          · refine ⟨(m0, m1, m2, m3, m4, l, m6, (q : Int), 0), hl, toj1 _ fun k hk => ?_⟩
            obtain ⟨g1, g2⟩ := step k hk
            rw [g1, g2, if_pos hnil, if_pos hnil]
            exact ⟨rfl, rfl⟩
          · by_cases h20 : (l.length : Int) = 20
            · refine ⟨noHead 431, noHead_len _, toj1 _ fun k hk => ?_⟩
              obtain ⟨g1, g2⟩ := step k hk
              rw [g1, g2, if_neg hnil, if_neg hnil, if_pos h20, if_pos h20]
              exact ⟨rfl, rfl⟩
            · by_cases hok : f.2.2 = true
              · obtain ⟨R, hRl, hR⟩ := ihq false m0 m1 m3 m6 m2 m4 (l ++ [⟨f.1, f.2.1⟩]) (by rw [List.length_append]; show l.length + 1 ≤ 20; omega)
                refine ⟨R, hRl, toj1 _ fun k hk => ?_⟩
                obtain ⟨g1, g2⟩ := step k hk
                rw [g1, g2, if_neg hnil, if_neg hnil, if_neg h20, if_neg h20, if_pos hok, if_pos hok]
                exact hR k (by omega)
              · refine ⟨noHead 400, noHead_len _, toj1 _ fun k hk => ?_⟩
                obtain ⟨g1, g2⟩ := step k hk
                rw [g1, g2, if_neg hnil, if_neg hnil, if_neg h20, if_neg h20, if_neg hok, if_neg hok]
                exact ⟨rfl, rfl⟩
    · refine ⟨noHead 400, noHead_len _, fun k hk => ?_⟩
      obtain ⟨k, rfl⟩ : ∃ j, k = j + 1 := ⟨k - 1, by omega⟩
      obtain ⟨e1, e2⟩ := hr k (by omega)
      simp only [spec_ReadHead.l0, impl_ReadHead.l0]
      rw [e1, e2, Option.bind_some, Option.bind_some, if_neg h0, if_neg h0]
      exact ⟨rfl, rfl⟩
theorem readHead_eq (T : ByteArray) (a1 : Bool) : ∃ r : HeadR, r.2.2.2.2.2.1.length ≤ 20 ∧ ∀ k, 6000000 < k → spec_ReadHead.f k T a1 = some r ∧ impl_ReadHead.f k T a1 = some r := by
  unfold spec_ReadHead.f impl_ReadHead.f
  by_cases h : (T.size : Int) > 4000
  · refine ⟨noHead 413, noHead_len _, fun k hk => ?_⟩
    rw [if_pos h, if_pos h]
    exact ⟨rfl, rfl⟩
  · obtain ⟨r, h1, h2⟩ := readHead_loop T (by omega) a1 T.size 0 (Nat.zero_le _) (by omega) true (⟨#[]⟩ : ByteArray) (⟨#[]⟩ : ByteArray) (⟨#[]⟩ : ByteArray) (⟨#[]⟩ : ByteArray) 0 false [] (Nat.zero_le _)
    refine ⟨r, h1, fun k hk => ?_⟩
    rw [if_neg h, if_neg h]
    exact h2 k (by omega)

end Go.Proofs.YtonmpnghlopnoaaGreatDoor.P
end

section
/- The program's ReadHead answers what the reference's answers, for every text and both kinds of head; no condition. -/
namespace Go.Proofs.YtonmpnghlopnoaaGreatDoor.Pure
open Go.RowKit Go.Proofs.YtonmpnghlopnoaaGreatDoor.P Go.Proofs.YtonmpnghlopnoaaGreatDoorW.PrintWords Go.Proofs.YtonmpnghlopnoaaGreatDoorW.PrintLast Go.Proofs.YtonmpnghlopnoaaGreatDoorW.PrintMore
set_option linter.unusedVariables false
set_option linter.unusedSimpArgs false

theorem FnExactReadHead : laws_FnExactReadHead.Pure := by
  intro a0 a1 h
  by_cases hbig : (a0.size : Int) > 1048576
  · exact ⟨0, by unfold laws_FnExactReadHead.f; rw [if_pos hbig]⟩
  · obtain ⟨r, hl, hr⟩ := readHead_eq a0 a1
    obtain ⟨m0, m1, m2, m3, m4, l, m6, p, c⟩ := r
    have hl' : l.length ≤ 20 := hl
    obtain ⟨l', hm⟩ := mark_then_FieldS l 1 (by omega) (by omega) (by omega)
    have hpos : ¬ (1 + 2 * (l.length : Int) < 0) := by omega
    obtain ⟨K, hK⟩ : ∃ K, K = 6000000 := ⟨_, rfl⟩
    refine ⟨K + 3, ?_⟩
    obtain ⟨e1, e2⟩ := hr (K + 3) (by omega)
    obtain ⟨e3, e4⟩ := hr (K + 2) (by omega)
    obtain ⟨g1, g2⟩ := hm (K + 2) (by omega)
    obtain ⟨_, g3⟩ := hm (K + 1) (by omega)
    unfold laws_FnExactReadHead.f
    rw [if_neg hbig, e1, Option.bind_some, e2, Option.bind_some]
    simp only
    rw [eqMsg_self m0 m1 m3 m6 m2 m4 l hl' _ (by omega), Option.bind_some, if_pos rfl, if_pos trivial, show (c != c) = false by simp]
    simp only [laws_FnExactReadHead.j0]
    unfold laws_markMsg.f laws_heldMsg.f
    rw [if_neg (by decide), g1, Option.bind_some, Option.bind_some]
    simp only
    rw [g2, Option.bind_some, if_neg hpos, Option.bind_some, if_neg hpos, if_pos rfl, e4, Option.bind_some]
    simp only
    rw [eqMsg_self m0 m1 m3 m6 m2 m4 l hl' _ (by omega), Option.bind_some, if_pos rfl, if_pos trivial, show (c != c) = false by simp]
    simp only [laws_FnExactReadHead.j1]
    unfold laws_heldMsg.f
    rw [if_neg (by decide), g3, Option.bind_some, if_neg hpos, Option.bind_some, if_neg hpos, if_pos rfl]

end Go.Proofs.YtonmpnghlopnoaaGreatDoor.Pure
end
