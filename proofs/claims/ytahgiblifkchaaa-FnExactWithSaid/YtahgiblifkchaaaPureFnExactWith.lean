import Derived.Test.YtahgiblifkchaaaQFnExactWith
import Derived.Test.YtahgiblifkchaaaOwn
import Derived.Test.YtahgiblifkchaaaPxauxc
import Derived.Test.YtahgiblifkchaaaPx0
import Derived.Test.YtahgiblifkchaaaPxauxf
import Derived.Test.YtahgiblifkchaaaPxauxg
import Derived.Test.YtahgiblifkchaaaPxauxi
import Derived.Test.YtahgiblifkchaaaPxauxj
import Derived.Test.YtahgiblifkchaaaPximpl01a
import Derived.Test.YtahgiblifkchaaaPximpl01c
import Derived.Test.YtahgiblifkchaaaPximpl01d
import Derived.Test.YtahgiblifkchaaaPxspec01c
import Derived.Test.YtahgiblifkchaaaPxspec01d
import Derived.Test.YtahgiblifkchaaaPxspec05a
import Derived.Test.YtahgiblifkchaaaPximpl01b
import Derived.Test.YtahgiblifkchaaaPxspec01a
import Derived.Test.YtahgiblifkchaaaPximpl05a
import Derived.Test.YtahgiblifkchaaaPximpl05b
import Derived.Test.YtahgiblifkchaaaPxspec05b
import Derived.Test.YtahgiblifkchaaaPxauxk
import Derived.Test.YtahgiblifkchaaaPximpl05d
import Derived.Test.YtahgiblifkchaaaPxspec05d
import Derived.Test.YtahgiblifkchaaaPxlawFnExactWith
section
/- Plain laws of our own (Kit): about numbers and lists alone; no condition beyond those written. -/
namespace Go.Proofs.Ytahgiblifkchaaa.P
open Go.RowKit Go.Proofs.YtahgiblifkchaaaW.PrintWords Go.Proofs.YtahgiblifkchaaaW.PrintLast Go.Proofs.YtahgiblifkchaaaW.PrintMore
set_option linter.unusedVariables false
set_option linter.unusedSimpArgs false
set_option maxHeartbeats 2000000
theorem wrap_id {x : Int} (h : -9223372036854775808 ≤ x) (h' : x ≤ 9223372036854775807) : wrap64 x = x := by unfold wrap64; omega
theorem size_extract (s : ByteArray) (a b : Nat) : (s.extract a b).size = min b s.size - a := ByteArray.size_extract
theorem bt_extract (s : ByteArray) (a b : Nat) (i : Int) (h0 : 0 ≤ i) (h1 : i < (b : Int) - a) (h2 : b ≤ s.size) : bt (s.extract a b) i = bt s (a + i) := by
  obtain ⟨n, rfl⟩ := Int.eq_ofNat_of_zero_le h0
  unfold bt
  have e : ((a : Int) + (n : Int)).toNat = a + n := by omega
  rw [e]
  have h3 : n < (s.extract a b).size := by rw [ByteArray.size_extract]; omega
  rw [dif_pos (show ((n : Int)).toNat < (s.extract a b).size by simpa using h3), dif_pos (show a + n < s.size by omega)]
  simp only [Int.toNat_natCast]
  rw [ByteArray.getElem_extract]

end Go.Proofs.Ytahgiblifkchaaa.P
end

section
/- Plain laws of our own (MarkText): about numbers and lists alone; no condition beyond those written. -/
namespace Go.Proofs.Ytahgiblifkchaaa.P
open Go.RowKit Go.Proofs.YtahgiblifkchaaaW.PrintWords Go.Proofs.YtahgiblifkchaaaW.PrintLast Go.Proofs.YtahgiblifkchaaaW.PrintMore
set_option linter.unusedVariables false
set_option linter.unusedSimpArgs false
set_option maxHeartbeats 2000000
/-! ### the marks of the laws: markText answers -/
theorem markText_l_total : ∀ (n k : Nat) (x : Int) (acc : ByteArray), 0 ≤ x → x < (10 : Int) ^ n → x ≤ 9223372036854775807 → acc.size + n ≤ 1000 → n < k → ∃ t, laws_markText.l0 k x acc = some t := by
  intro n
  induction n with
  | zero =>
    intro k x acc h0 h1 hx hs hk
    obtain ⟨k, rfl⟩ : ∃ m, k = m + 1 := ⟨k - 1, by omega⟩
    simp only [laws_markText.l0]
    have hx0 : x = 0 := by
      have h10 : (10 : Int) ^ 0 = 1 := by decide
      omega
    rw [if_neg (by omega), if_pos (by omega)]
    exact ⟨_, rfl⟩
  | succ n ih =>
    intro k x acc h0 h1 hx hs hk
    obtain ⟨k, rfl⟩ : ∃ m, k = m + 1 := ⟨k - 1, by omega⟩
    simp only [laws_markText.l0]
    by_cases hp : x > 0
    · rw [if_pos hp, Option.bind_some, if_pos (by rw [strOfNums_size]; simp; omega)]
      have hd : Int.tdiv x 10 = x / 10 := Int.tdiv_eq_ediv_of_nonneg h0
      rw [hd, wrap_id (x := x / 10) (by omega) (by omega)]
      have hpow : (10 : Int) ^ (n + 1) = 10 ^ n * 10 := Int.pow_succ 10 n
      exact ih k (x / 10) _ (by omega) (by omega) (by omega) (by rw [ByteArray.size_append, strOfNums_size]; simp; omega) (by omega)
    · rw [if_neg hp, if_pos (by omega)]
      exact ⟨_, rfl⟩
theorem markText_total (x : Int) (hx : x ≤ 9223372036854775807) : ∃ t, laws_markText.f 25 x = some t := by
  unfold laws_markText.f
  by_cases h : x ≤ 0
  · rw [if_pos h]; exact ⟨_, rfl⟩
  · rw [if_neg h]
    have h10 : (10 : Int) ^ 19 = 10000000000000000000 := by decide
    exact markText_l_total 19 25 x _ (by omega) (by omega) hx (by decide) (by decide)
/-- The text of a mark. -/
def mt (x : Int) : ByteArray := (laws_markText.f 25 x).getD ⟨#[]⟩
theorem mt_eq (x : Int) (hx : x ≤ 9223372036854775807) (k : Nat) (hk : 25 ≤ k) : laws_markText.f k x = some (mt x) := by
  obtain ⟨t, ht⟩ := markText_total x hx
  have : mt x = t := by unfold mt; rw [ht]; rfl
  rw [this]
  exact at_rounds (fun k => laws_markText.mono x k) hk ht

end Go.Proofs.Ytahgiblifkchaaa.P
end

section
/- Plain laws of our own (FieldS): about numbers and lists alone; no condition beyond those written. -/
namespace Go.Proofs.Ytahgiblifkchaaa.P
open Go.RowKit Go.Proofs.YtahgiblifkchaaaW.PrintWords Go.Proofs.YtahgiblifkchaaaW.PrintLast Go.Proofs.YtahgiblifkchaaaW.PrintMore
set_option linter.unusedVariables false
set_option linter.unusedSimpArgs false
set_option maxHeartbeats 2000000
/-! ### FieldS: marked, held, compared -/
theorem rd_set_FieldS (l : List S71) (n : Nat) (v : S71) (h : n < l.length) : rd_T71 (l.set n v) (n : Int) = v := by
  unfold rd_T71
  rw [Int.toNat_natCast, List.getD_eq_getElem?_getD]
  simp [h]
theorem mark_held_FieldS : ∀ (d k : Nat) (l : List S71) (c i : Int), 0 ≤ i → (l.length : Int) - i = d → l.length ≤ 281474976710656 → 0 ≤ c → c + 2 * d ≤ 1152921504606846976 → d + 30 < k →
    ∃ l', laws_markFieldS.l0 k l c i = some (c + 2 * d, l') ∧ l'.length = l.length ∧ (∀ j : Nat, (j : Int) < i → l'[j]? = l[j]?) ∧ laws_heldFieldS.l0 k l' c i = some (c + 2 * d) := by
  intro d
  induction d with
  | zero =>
    intro k l c i h0 hd hl hc hcd hk
    obtain ⟨k, rfl⟩ : ∃ m, k = m + 1 := ⟨k - 1, by omega⟩
    refine ⟨l, ?_, rfl, fun _ _ => rfl, ?_⟩
    · simp only [laws_markFieldS.l0]
      rw [if_neg (by omega)]
      simp
    · simp only [laws_heldFieldS.l0]
      rw [if_neg (by omega)]
      simp
  | succ d ih =>
    intro k l c i h0 hd hl hc hcd hk
    obtain ⟨k, rfl⟩ : ∃ m, k = m + 1 := ⟨k - 1, by omega⟩
    obtain ⟨n, rfl⟩ := Int.eq_ofNat_of_zero_le h0
    have hn : n < l.length := by omega
    have hw1 : wrap64 (c + 1) = c + 1 := wrap_id (by omega) (by omega)
    have hw2 : wrap64 (c + 1 + 1) = c + 1 + 1 := wrap_id (by omega) (by omega)
    have hm0 : laws_markText.f k (c) = some (mt (c)) := mt_eq _ (by omega) k (by omega)
    have hm1 : laws_markText.f k (c + 1) = some (mt (c + 1)) := mt_eq _ (by omega) k (by omega)
    have hwi : wrap64 ((n : Int) + 1) = ((n + 1 : Nat) : Int) := by rw [wrap_id (by omega) (by omega)]; omega
    have hlt : ((n : Int) < (l.length : Int)) = True := eq_true (by omega)
    have hge : (0 ≤ (n : Int)) = True := eq_true h0
    obtain ⟨l', e1, e2, e3, e4⟩ := ih k (l.set n (⟨mt (c), mt (c + 1)⟩)) (c + 1 + 1) ((n + 1 : Nat) : Int) (by omega) (by rw [List.length_set]; omega) (by rw [List.length_set]; omega) (by omega) (by omega) (by omega)
    have hcc : c + 1 + 1 + 2 * (d : Int) = c + 2 * ((d + 1 : Nat) : Int) := by omega
    rw [hcc] at e1 e4
    rw [List.length_set] at e2
    have hat : l'[n]? = some (⟨mt (c), mt (c + 1)⟩) := by rw [e3 n (by omega)]; simp [hn]
    have hrd : rd_T71 l' (n : Int) = ⟨mt (c), mt (c + 1)⟩ := by
      unfold rd_T71
      rw [Int.toNat_natCast, List.getD_eq_getElem?_getD, hat]
      rfl
    have hlt' : ((n : Int) < (l'.length : Int)) = True := eq_true (by omega)
    refine ⟨l', ?_, e2, fun j hj => ?_, ?_⟩
    · simp only [laws_markFieldS.l0, hlt, hge, if_true, Option.bind_some, hw1, hw2, hm0, hm1, hwi, Int.toNat_natCast, List.set_set, List.length_set, hn, rd_set_FieldS]
      exact e1
    · rw [e3 j (by omega), List.getElem?_set_ne (by omega)]
    · simp only [laws_heldFieldS.l0, hlt', hge, if_true, Option.bind_some, hw1, hw2, hm0, hm1, hrd, hwi, bne_self_eq_false, Bool.false_eq_true, if_false]
      exact e4
theorem eq_refl_FieldS : ∀ (d k : Nat) (l : List S71) (i : Int), 0 ≤ i → (l.length : Int) - i = d → l.length ≤ 281474976710656 → d < k → laws_eqFieldS.l0 k l l i = some true := by
  intro d
  induction d with
  | zero =>
    intro k l i h0 hd hl hk
    obtain ⟨k, rfl⟩ : ∃ m, k = m + 1 := ⟨k - 1, by omega⟩
    simp only [laws_eqFieldS.l0]
    rw [if_neg (by omega)]
  | succ d ih =>
    intro k l i h0 hd hl hk
    obtain ⟨k, rfl⟩ : ∃ m, k = m + 1 := ⟨k - 1, by omega⟩
    simp only [laws_eqFieldS.l0]
    rw [if_pos (by omega), if_pos h0, if_pos (by omega), show laws_eqField.f (rd_T71 l i).f0 (rd_T71 l i).f1 (rd_T71 l i).f0 (rd_T71 l i).f1 = some true by unfold laws_eqField.f; simp, Option.bind_some, if_pos rfl, wrap_id (by omega) (by omega)]
    exact ih k l (i + 1) (by omega) (by omega) hl (by omega)
theorem eq_self_FieldS (k : Nat) (l : List S71) (hl : l.length ≤ 281474976710656) (hk : l.length < k) : laws_eqFieldS.f k l l = some true := by
  unfold laws_eqFieldS.f
  rw [if_pos rfl]
  exact eq_refl_FieldS l.length k l 0 (by omega) (by omega) hl hk
theorem mark_then_FieldS (l : List S71) (c : Int) (hl : l.length ≤ 281474976710656) (hc : 0 ≤ c) (hcd : c + 2 * l.length ≤ 1152921504606846976) :
    ∃ l', ∀ k, l.length + 31 ≤ k → laws_markFieldS.f k l c = some (c + 2 * l.length, l') ∧ laws_heldFieldS.f k l' c = some (c + 2 * l.length) := by
  obtain ⟨l', e1, _, _, e4⟩ := mark_held_FieldS l.length (l.length + 31) l c 0 (by omega) (by omega) hl hc hcd (by omega)
  exact ⟨l', fun k hk => ⟨at_rounds (g := fun k => laws_markFieldS.f k l c) (fun k => laws_markFieldS.mono l c k) hk e1, at_rounds (g := fun k => laws_heldFieldS.f k l' c) (fun k => laws_heldFieldS.mono l' c k) hk e4⟩⟩

end Go.Proofs.Ytahgiblifkchaaa.P
end

section
/- Plain laws of our own (AllB): about numbers and lists alone; no condition beyond those written. -/
namespace Go.Proofs.Ytahgiblifkchaaa.P
open Go.RowKit Go.Proofs.YtahgiblifkchaaaW.PrintWords Go.Proofs.YtahgiblifkchaaaW.PrintLast Go.Proofs.YtahgiblifkchaaaW.PrintMore
set_option linter.unusedVariables false
set_option linter.unusedSimpArgs false
set_option maxHeartbeats 2000000
/-! ### loops that ask all bytes, or all elements -/
def allB (p : Int → Bool) : Nat → Int → Bool
  | 0, _ => true
  | d + 1, i => p i && allB p d (i + 1)
theorem all_loop (F : Nat → Int → Option Bool) (n : Nat) (p : Int → Bool) (K0 : Nat) (stop : ∀ k (i : Int), (n : Int) ≤ i → F (k + 1) i = some true)
    (step : ∀ k (i : Int), 0 ≤ i → i < n → K0 ≤ k → F (k + 1) i = if p i = true then F k (i + 1) else some false) :
    ∀ (d k : Nat) (i : Int), 0 ≤ i → (n : Int) - i = d → d + K0 < k → F k i = some (allB p d i) := by
  intro d
  induction d with
  | zero =>
    intro k i h0 hd hk
    obtain ⟨k, rfl⟩ : ∃ m, k = m + 1 := ⟨k - 1, by omega⟩
    rw [stop k i (by omega)]
    rfl
  | succ d ih =>
    intro k i h0 hd hk
    obtain ⟨k, rfl⟩ : ∃ m, k = m + 1 := ⟨k - 1, by omega⟩
    rw [step k i h0 (by omega) (by omega), ih k (i + 1) (by omega) (by omega) (by omega)]
    simp only [allB]
    cases p i <;> simp
theorem all_from (F : Nat → Int → Option Bool) (n : Nat) (p : Int → Bool) (K0 : Nat) (stop : ∀ k (i : Int), (n : Int) ≤ i → F (k + 1) i = some true)
    (step : ∀ k (i : Int), 0 ≤ i → i < n → K0 ≤ k → F (k + 1) i = if p i = true then F k (i + 1) else some false) (k : Nat) (hk : n + K0 < k) : F k 0 = some (allB p n 0) :=
  all_loop F n p K0 stop step n k 0 (by omega) (by omega) hk

end Go.Proofs.Ytahgiblifkchaaa.P
end

section
/- Plain laws of our own (Within): about numbers and lists alone; no condition beyond those written. -/
namespace Go.Proofs.Ytahgiblifkchaaa.P
open Go.RowKit Go.Proofs.YtahgiblifkchaaaW.PrintWords Go.Proofs.YtahgiblifkchaaaW.PrintLast Go.Proofs.YtahgiblifkchaaaW.PrintMore
set_option linter.unusedVariables false
set_option linter.unusedSimpArgs false
set_option maxHeartbeats 2000000
/-! ### within -/
theorem within_eq (a b c : Int) : impl_within.f a b c = some (decide (b ≤ a ∧ a ≤ c)) := by
  unfold impl_within.f
  by_cases h : b ≤ a
  · rw [if_pos h]; simp [h]
  · rw [if_neg h]; simp [h]

end Go.Proofs.Ytahgiblifkchaaa.P
end

section
/- Plain laws of our own (Token): about numbers and lists alone; no condition beyond those written. -/
namespace Go.Proofs.Ytahgiblifkchaaa.P
open Go.RowKit Go.Proofs.YtahgiblifkchaaaW.PrintWords Go.Proofs.YtahgiblifkchaaaW.PrintLast Go.Proofs.YtahgiblifkchaaaW.PrintMore
set_option linter.unusedVariables false
set_option linter.unusedSimpArgs false
set_option maxHeartbeats 2000000
/-! ### tokens and plain texts -/
def tchB (c : Int) : Bool := (impl_isTokenByte.f c).getD false
theorem token_bytes : ∀ n : Fin 256, impl_isTokenByte.f (n.val : Int) = some (tchB (n.val : Int)) ∧ spec_l1tchar.f 20 (n.val : Int) = some (tchB (n.val : Int)) := by decide +kernel
theorem isTokenByte_eq (c : Int) (h0 : 0 ≤ c) (h1 : c ≤ 255) : impl_isTokenByte.f c = some (tchB c) := by
  obtain ⟨n, rfl⟩ := Int.eq_ofNat_of_zero_le h0
  exact (token_bytes ⟨n, by omega⟩).1
theorem tchar_eq (c : Int) (h0 : 0 ≤ c) (h1 : c ≤ 255) (k : Nat) (hk : 20 ≤ k) : spec_l1tchar.f k c = some (tchB c) := by
  obtain ⟨n, rfl⟩ := Int.eq_ofNat_of_zero_le h0
  exact at_rounds (g := fun k => spec_l1tchar.f k (n : Int)) (fun k => spec_l1tchar.mono (n : Int) k) hk (token_bytes ⟨n, by omega⟩).2
def tokB (s : ByteArray) : Bool := decide (1 ≤ s.size ∧ s.size ≤ 4000) && allB (fun i => tchB (bt s i)) s.size 0
theorem impl_Token_eq (s : ByteArray) (k : Nat) (hk : 5000 < k) : impl_Token.f k s = some (tokB s) := by
  unfold impl_Token.f tokB
  rw [within_eq, Option.bind_some]
  by_cases h : 1 ≤ s.size ∧ s.size ≤ 4000
  · rw [if_pos (decide_eq_true (by omega)), decide_eq_true h, Bool.true_and]
    unfold impl_all__impl_isTokenByte.f
    rw [all_from (fun k i => impl_all__impl_isTokenByte.l0 k s i) s.size (fun i => tchB (bt s i)) 0 (fun k i hi => by simp only [impl_all__impl_isTokenByte.l0]; rw [if_neg (by omega)])
      (fun k i h0 h1 _ => by
        have hb := bt_range s i
        simp only [impl_all__impl_isTokenByte.l0]
        rw [if_pos h1, if_pos h0, isTokenByte_eq _ hb.1 hb.2, Option.bind_some, wrap_id (by omega) (by omega)]) k (by omega)]
    rfl
  · rw [if_neg (by simp; omega), decide_eq_false h, Bool.false_and]
theorem spec_Token_eq (s : ByteArray) (k : Nat) (hk : 5000 < k) : spec_Token.f k s = some (tokB s) := by
  obtain ⟨k, rfl⟩ : ∃ m, k = m + 1 := ⟨k - 1, by omega⟩
  unfold spec_Token.f tokB
  by_cases h0 : (s.size : Int) = 0
  · rw [if_pos h0, decide_eq_false (by omega), Bool.false_and]
    simp [spec_Token.j0]
  · rw [if_neg h0]
    simp only [spec_Token.j0]
    by_cases h : 1 ≤ s.size ∧ s.size ≤ 4000
    · rw [if_neg (by simp; omega), decide_eq_true h, Bool.true_and]
      exact all_from (fun k i => spec_Token.l0 k s i) s.size (fun i => tchB (bt s i)) 20 (fun k i hi => by simp only [spec_Token.l0]; rw [if_neg (by omega)])
        (fun k i h0 h1 hk => by
          have hb := bt_range s i
          simp only [spec_Token.l0]
          rw [if_pos h1, if_pos h0, tchar_eq _ hb.1 hb.2 k hk, Option.bind_some, wrap_id (by omega) (by omega)]) k (by omega)
    · rw [if_pos (by simp; omega), decide_eq_false h, Bool.false_and]
def plB (c : Int) : Bool := decide (c = 9) || (decide (32 ≤ c) && decide (c ≠ 127))
theorem isPlain_eq (c : Int) : impl_isPlain.f c = some (plB c) := by
  unfold impl_isPlain.f plB
  by_cases h : c = 9
  · rw [if_pos h]; simp [h]
  · rw [if_neg h]
    by_cases h2 : c ≥ 32
    · rw [if_pos h2]
      by_cases h3 : c = 127 <;> simp [h, h2, h3]
    · rw [if_neg h2]; simp [h, h2]
theorem l1plain_eq (c : Int) : spec_l1plain.f c = some (plB c) := isPlain_eq c
def plainB (s : ByteArray) : Bool := allB (fun i => plB (bt s i)) s.size 0
theorem impl_plain_eq (s : ByteArray) (hs : s.size ≤ 140737488351232) (k : Nat) (hk : s.size < k) : impl_all__impl_isPlain.f k s = some (plainB s) := by
  unfold impl_all__impl_isPlain.f plainB
  exact all_from (fun k i => impl_all__impl_isPlain.l0 k s i) s.size (fun i => plB (bt s i)) 0 (fun k i hi => by simp only [impl_all__impl_isPlain.l0]; rw [if_neg (by omega)])
    (fun k i h0 h1 _ => by
      simp only [impl_all__impl_isPlain.l0]
      rw [if_pos h1, if_pos h0, isPlain_eq, Option.bind_some, wrap_id (by omega) (by omega)]) k (by omega)
theorem spec_plain_eq (s : ByteArray) (hs : s.size ≤ 140737488351232) (k : Nat) (hk : s.size < k) : spec_l5plain.f k s = some (plainB s) := by
  unfold spec_l5plain.f plainB
  exact all_from (fun k i => spec_l5plain.l0 k s i) s.size (fun i => plB (bt s i)) 0 (fun k i hi => by simp only [spec_l5plain.l0]; rw [if_neg (by omega)])
    (fun k i h0 h1 _ => by
      simp only [spec_l5plain.l0]
      rw [if_pos h1, if_pos h0, l1plain_eq, Option.bind_some, wrap_id (by omega) (by omega)]) k (by omega)

end Go.Proofs.Ytahgiblifkchaaa.P
end

section
/- Plain laws of our own (Trim): about numbers and lists alone; no condition beyond those written. -/
namespace Go.Proofs.Ytahgiblifkchaaa.P
open Go.RowKit Go.Proofs.YtahgiblifkchaaaW.PrintWords Go.Proofs.YtahgiblifkchaaaW.PrintLast Go.Proofs.YtahgiblifkchaaaW.PrintMore
set_option linter.unusedVariables false
set_option linter.unusedSimpArgs false
set_option maxHeartbeats 2000000
/-! ### Trim: both leave the same cut of the text -/
theorem toList_nil (s : ByteArray) : s.toList = ([] : List UInt8) ↔ s.size = 0 := by
  rw [ByteArray.toList_eq]
  constructor
  · intro h
    have := congrArg List.length h
    rw [data_length] at this
    simpa using this
  · intro h
    apply List.eq_nil_of_length_eq_zero
    rw [data_length]; exact h
def ws (c : Int) : Bool := decide (c = 32) || decide (c = 9)
theorem isSpace_eq (c : Int) : impl_isSpace.f c = some (ws c) := by
  unfold impl_isSpace.f ws
  by_cases h : c = 32
  · rw [if_pos h]; simp [h]
  · rw [if_neg h]
    by_cases h2 : c = 9 <;> simp [h, h2]
theorem white_eq (c : Int) : spec_l1white.f c = some (ws c) := isSpace_eq c
def lead (s : ByteArray) : Nat → Nat → Nat
  | 0, i => i
  | d + 1, i => if ws (bt s (i : Int)) = true then lead s d (i + 1) else i
def back (s : ByteArray) : Nat → Nat → Nat
  | 0, j => j
  | d + 1, j => if ws (bt s ((j - 1 : Nat) : Int)) = true then back s d (j - 1) else j
theorem lead_le (s : ByteArray) : ∀ d i, i ≤ lead s d i ∧ lead s d i ≤ i + d := by
  intro d
  induction d with
  | zero => intro i; simp [lead]
  | succ d ih =>
    intro i
    simp only [lead]
    split
    · have := ih (i + 1); omega
    · omega
theorem back_le (s : ByteArray) : ∀ d j, back s d j ≤ j ∧ j ≤ back s d j + d := by
  intro d
  induction d with
  | zero => intro i; simp [back]
  | succ d ih =>
    intro j
    simp only [back]
    split
    · have := ih (j - 1); omega
    · omega
def trimS (s : ByteArray) : ByteArray := s.extract (lead s s.size 0) (back s (s.size - lead s s.size 0) s.size)
theorem trimS_size (s : ByteArray) : (trimS s).size ≤ s.size := by
  unfold trimS
  rw [size_extract]
  omega
theorem spec_trim_l1 (s : ByteArray) (hs : s.size ≤ 140737488351232) : ∀ (d k a j : Nat), a ≤ j → j ≤ s.size → j - a = d → d < k → spec_Trim.l1 k s (a : Int) (j : Int) = some (s.extract a (back s d j)) := by
  intro d
  induction d with
  | zero =>
    intro k a j h1 h2 hd hk
    obtain ⟨k, rfl⟩ : ∃ m, k = m + 1 := ⟨k - 1, by omega⟩
    simp only [spec_Trim.l1]
    rw [if_neg (by omega), if_pos (by omega), if_pos (by omega), if_pos (by omega)]
    rfl
  | succ d ih =>
    intro k a j h1 h2 hd hk
    obtain ⟨k, rfl⟩ : ∃ m, k = m + 1 := ⟨k - 1, by omega⟩
    simp only [spec_Trim.l1]
    have hw : wrap64 ((j : Int) - 1) = ((j - 1 : Nat) : Int) := by rw [wrap_id (by omega) (by omega)]; omega
    rw [if_pos (by omega), hw, if_pos (by omega), if_pos (by omega), white_eq, Option.bind_some]
    simp only [back]
    by_cases hb : ws (bt s ((j - 1 : Nat) : Int)) = true
    · rw [if_pos hb, if_pos hb]
      exact ih k a (j - 1) (by omega) (by omega) (by omega) (by omega)
    · rw [if_neg hb, if_neg hb, if_pos (by omega), if_pos (by omega), if_pos (by omega)]
      rfl
theorem spec_trim_l0 (s : ByteArray) (hs : s.size ≤ 140737488351232) : ∀ (d k i : Nat), i ≤ s.size → s.size - i = d → d + s.size + 3 < k → spec_Trim.l0 k s (i : Int) = some (s.extract (lead s d i) (back s (s.size - lead s d i) s.size)) := by
  intro d
  induction d with
  | zero =>
    intro k i h1 hd hk
    obtain ⟨k, rfl⟩ : ∃ m, k = m + 2 := ⟨k - 2, by omega⟩
    simp only [spec_Trim.l0]
    rw [if_neg (by omega)]
    simp only [spec_Trim.j1, lead]
    exact spec_trim_l1 s hs _ k i s.size h1 (Nat.le_refl _) rfl (by omega)
  | succ d ih =>
    intro k i h1 hd hk
    obtain ⟨k, rfl⟩ : ∃ m, k = m + 2 := ⟨k - 2, by omega⟩
    rw [spec_Trim.l0.eq_def]
    have hw : wrap64 ((i : Int) + 1) = ((i + 1 : Nat) : Int) := by rw [wrap_id (by omega) (by omega)]; omega
    dsimp only
    rw [if_pos (by omega), if_pos (by omega), white_eq, Option.bind_some]
    simp only [lead]
    by_cases hb : ws (bt s (i : Int)) = true
    · rw [if_pos hb, if_pos hb, hw]
      exact ih (k + 1) (i + 1) (by omega) (by omega) (by omega)
    · rw [if_neg hb, if_neg hb]
      simp only [spec_Trim.j1]
      exact spec_trim_l1 s hs _ k i s.size h1 (Nat.le_refl _) rfl (by omega)
theorem impl_trim_l1 (s : ByteArray) (hs : s.size ≤ 140737488351232) : ∀ (d k a j : Nat), a ≤ j → j ≤ s.size → j - a = d → d < k → impl_Trim.l1 k (s.extract a j) = some (s.extract a (back s d j)) := by
  intro d
  induction d with
  | zero =>
    intro k a j h1 h2 hd hk
    obtain ⟨k, rfl⟩ : ∃ m, k = m + 1 := ⟨k - 1, by omega⟩
    simp only [impl_Trim.l1]
    rw [if_pos ((toList_nil _).2 (by rw [size_extract]; omega))]
    rfl
  | succ d ih =>
    intro k a j h1 h2 hd hk
    obtain ⟨k, rfl⟩ : ∃ m, k = m + 1 := ⟨k - 1, by omega⟩
    have hz : (s.extract a j).size = d + 1 := by rw [size_extract]; omega
    simp only [impl_Trim.l1]
    have hw : wrap64 (((s.extract a j).size : Int) - 1) = ((d : Nat) : Int) := by rw [hz, wrap_id (by omega) (by omega)]; omega
    have hb0 : bt (s.extract a j) ((d : Nat) : Int) = bt s ((j - 1 : Nat) : Int) := by
      rw [bt_extract s a j _ (by omega) (by omega) h2]
      congr 1; omega
    rw [if_neg (fun h => by have := (toList_nil _).1 h; omega), hw, if_pos (by omega), if_pos (by omega), isSpace_eq, Option.bind_some, Int.toNat_natCast, ByteArray.extract_extract, hb0]
    simp only [back]
    have he : s.extract (a + 0) (min (a + d) j) = s.extract a (j - 1) := by congr 1; omega
    by_cases hb : ws (bt s ((j - 1 : Nat) : Int)) = true
    · rw [if_pos hb, if_pos hb, if_pos (by omega), he]
      exact ih k a (j - 1) (by omega) (by omega) (by omega) (by omega)
    · rw [if_neg hb, if_neg hb]
theorem impl_trim_l0 (s : ByteArray) (hs : s.size ≤ 140737488351232) : ∀ (d k i : Nat), i ≤ s.size → s.size - i = d → d + s.size + 3 < k → impl_Trim.l0 k (s.extract i s.size) = some (s.extract (lead s d i) (back s (s.size - lead s d i) s.size)) := by
  intro d
  induction d with
  | zero =>
    intro k i h1 hd hk
    obtain ⟨k, rfl⟩ : ∃ m, k = m + 2 := ⟨k - 2, by omega⟩
    rw [impl_Trim.l0.eq_def]
    dsimp only
    rw [if_pos ((toList_nil _).2 (by rw [size_extract]; omega))]
    simp only [impl_Trim.j1, lead]
    exact impl_trim_l1 s hs _ k i s.size h1 (Nat.le_refl _) rfl (by omega)
  | succ d ih =>
    intro k i h1 hd hk
    obtain ⟨k, rfl⟩ : ∃ m, k = m + 2 := ⟨k - 2, by omega⟩
    have hz : (s.extract i s.size).size = d + 1 := by rw [size_extract]; omega
    rw [impl_Trim.l0.eq_def]
    dsimp only
    have hb0 : bt (s.extract i s.size) 0 = bt s (i : Int) := by
      rw [bt_extract s i s.size 0 (by omega) (by omega) (Nat.le_refl _)]
      congr 1
    have he : (s.extract i s.size).extract 1 (s.extract i s.size).size = s.extract (i + 1) s.size := by
      rw [ByteArray.extract_extract, hz]; congr 1; omega
    rw [if_neg (fun h => by have := (toList_nil _).1 h; omega), if_pos (by omega), isSpace_eq, Option.bind_some, hb0, he]
    simp only [lead]
    by_cases hb : ws (bt s (i : Int)) = true
    · rw [if_pos hb, if_pos hb, if_pos (by omega)]
      exact ih (k + 1) (i + 1) (by omega) (by omega) (by omega)
    · rw [if_neg hb, if_neg hb]
      simp only [impl_Trim.j1]
      exact impl_trim_l1 s hs _ k i s.size h1 (Nat.le_refl _) rfl (by omega)
theorem spec_Trim_eq (s : ByteArray) (hs : s.size ≤ 140737488351232) (k : Nat) (hk : 2 * s.size + 3 < k) : spec_Trim.f k s = some (trimS s) := by
  unfold spec_Trim.f trimS
  exact spec_trim_l0 s hs s.size k 0 (Nat.zero_le _) (by omega) (by omega)
theorem impl_Trim_eq (s : ByteArray) (hs : s.size ≤ 140737488351232) (k : Nat) (hk : 2 * s.size + 3 < k) : impl_Trim.f k s = some (trimS s) := by
  unfold impl_Trim.f trimS
  have h := impl_trim_l0 s hs s.size k 0 (Nat.zero_le _) (by omega) (by omega)
  rw [ByteArray.extract_zero_size] at h
  exact h

end Go.Proofs.Ytahgiblifkchaaa.P
end

section
/- Plain laws of our own (Fields): about numbers and lists alone; no condition beyond those written. -/
namespace Go.Proofs.Ytahgiblifkchaaa.P
open Go.RowKit Go.Proofs.YtahgiblifkchaaaW.PrintWords Go.Proofs.YtahgiblifkchaaaW.PrintLast Go.Proofs.YtahgiblifkchaaaW.PrintMore
set_option linter.unusedVariables false
set_option linter.unusedSimpArgs false
set_option maxHeartbeats 2000000
/-! ### FieldOk, FieldsOk, SameFold, Values -/
def fieldOkB (n v : ByteArray) : Bool := decide (n.size ≤ 40) && (tokB n && (decide (v.size ≤ 190) && (plainB v && ((trimS v).toList == v.toList))))
theorem impl_FieldOk_eq (n v : ByteArray) (k : Nat) (hk : 5000 < k) : impl_FieldOk.f k n v = some (fieldOkB n v) := by
  unfold impl_FieldOk.f fieldOkB
  rw [impl_Token_eq n k hk, Option.bind_some]
  by_cases h1 : tokB n = true
  · rw [if_pos h1, h1, Bool.true_and]
    by_cases h2 : n.size ≤ 40
    · rw [if_pos (by omega), decide_eq_true h2, Bool.true_and]
      by_cases h3 : v.size ≤ 190
      · rw [if_pos (by omega), decide_eq_true h3, Bool.true_and, impl_plain_eq v (by omega) k (by omega), Option.bind_some]
        by_cases h4 : plainB v = true
        · rw [if_pos h4, h4, Bool.true_and, impl_Trim_eq v (by omega) k (by omega)]; rfl
        · rw [if_neg h4]; simp [h4]
      · rw [if_neg (by omega), decide_eq_false h3, Bool.false_and]
    · rw [if_neg (by omega), decide_eq_false h2, Bool.false_and]
  · rw [if_neg h1]; simp [h1]
theorem spec_FieldOk_eq (n v : ByteArray) (k : Nat) (hk : 5000 < k) : spec_FieldOk.f k n v = some (fieldOkB n v) := by
  unfold spec_FieldOk.f fieldOkB
  by_cases h2 : n.size ≤ 40
  · rw [if_pos (by omega), decide_eq_true h2, Bool.true_and, spec_Token_eq n k hk, Option.bind_some]
    by_cases h1 : tokB n = true
    · rw [if_pos h1, h1, Bool.true_and]
      by_cases h3 : v.size ≤ 190
      · rw [if_pos (by omega), decide_eq_true h3, Bool.true_and, spec_plain_eq v (by omega) k (by omega), Option.bind_some]
        by_cases h4 : plainB v = true
        · rw [if_pos h4, h4, Bool.true_and, spec_Trim_eq v (by omega) k (by omega)]; rfl
        · rw [if_neg h4]; simp [h4]
      · rw [if_neg (by omega), decide_eq_false h3, Bool.false_and]
    · rw [if_neg h1]; simp [h1]
  · rw [if_neg (by omega), decide_eq_false h2, Bool.false_and]
abbrev FieldT := S71
def fieldsOkB (l : List FieldT) : Bool := decide (l.length ≤ 20) && allB (fun i => fieldOkB (rd_T71 l i).f0 (rd_T71 l i).f1) l.length 0
theorem impl_FieldsOk_eq (l : List FieldT) (k : Nat) (hk : 6000 < k) : impl_FieldsOk.f k l = some (fieldsOkB l) := by
  unfold impl_FieldsOk.f fieldsOkB
  by_cases h : l.length ≤ 20
  · rw [if_neg (by omega), decide_eq_true h, Bool.true_and]
    exact all_from (fun k i => impl_FieldsOk.l0 k l (l.length : Int) i) l.length _ 5001 (fun k i hi => by simp only [impl_FieldsOk.l0]; rw [if_neg (by omega)])
      (fun k i h0 h1 hk => by
        simp only [impl_FieldsOk.l0]
        rw [if_pos h1, if_pos h0, if_pos h1, impl_FieldOk_eq _ _ k (by omega), Option.bind_some, wrap_id (by omega) (by omega)]) k (by omega)
  · rw [if_pos (by omega), decide_eq_false h, Bool.false_and]
theorem spec_FieldsOk_eq (l : List FieldT) (k : Nat) (hk : 6000 < k) : spec_FieldsOk.f k l = some (fieldsOkB l) := by
  unfold spec_FieldsOk.f fieldsOkB
  by_cases h : l.length ≤ 20
  · rw [if_neg (by omega), decide_eq_true h, Bool.true_and]
    exact all_from (fun k i => spec_FieldsOk.l0 k l i) l.length _ 5001 (fun k i hi => by simp only [spec_FieldsOk.l0]; rw [if_neg (by omega)])
      (fun k i h0 h1 hk => by
        simp only [spec_FieldsOk.l0]
        rw [if_pos h1, if_pos h0, spec_FieldOk_eq _ _ k (by omega), Option.bind_some, wrap_id (by omega) (by omega)]) k (by omega)
  · rw [if_pos (by omega), decide_eq_false h, Bool.false_and]
theorem fieldsOk_short {l : List FieldT} (h : fieldsOkB l = true) : l.length ≤ 20 := by
  unfold fieldsOkB at h
  have := (Bool.and_eq_true_iff.1 h).1
  exact of_decide_eq_true this
/-- The names of a valid list are short. -/
theorem allB_at {p : Int → Bool} : ∀ (d : Nat) (i : Int), allB p d i = true → ∀ j : Nat, j < d → p (i + j) = true := by
  intro d
  induction d with
  | zero => intro i _ j hj; omega
  | succ d ih =>
    intro i h j hj
    simp only [allB, Bool.and_eq_true] at h
    cases j with
    | zero => simpa using h.1
    | succ j =>
      have := ih (i + 1) h.2 j (by omega)
      rw [show i + ((j + 1 : Nat) : Int) = i + 1 + (j : Int) by omega]
      exact this
theorem fieldsOk_name {l : List FieldT} (h : fieldsOkB l = true) (j : Nat) (hj : j < l.length) : (rd_T71 l (j : Int)).f0.size ≤ 40 ∧ (rd_T71 l (j : Int)).f1.size ≤ 190 := by
  unfold fieldsOkB at h
  have h2 := allB_at _ _ (Bool.and_eq_true_iff.1 h).2 j hj
  rw [Int.zero_add] at h2
  unfold fieldOkB at h2
  simp only [Bool.and_eq_true] at h2
  exact ⟨of_decide_eq_true h2.1, of_decide_eq_true h2.2.2.1⟩
def sameB (a b : ByteArray) : Bool := (foldS a).toList == (foldS b).toList
theorem impl_SameFold_eq (a b : ByteArray) (ha : a.size ≤ 9223372036854775807) (hb : b.size ≤ 9223372036854775807) : impl_SameFold.f a b = some (sameB a b) := by
  unfold impl_SameFold.f impl_Fold.f sameB
  rw [if_pos ha, Option.bind_some, if_pos hb, Option.bind_some]
theorem spec_SameFold_eq (a b : ByteArray) (ha : a.size ≤ 9223372036854775807) (hb : b.size ≤ 9223372036854775807) : spec_SameFold.f a b = some (sameB a b) := by
  unfold spec_SameFold.f spec_Fold.f sameB
  rw [if_pos ha, Option.bind_some, if_pos hb, Option.bind_some]

end Go.Proofs.Ytahgiblifkchaaa.P
end

section
/- Plain laws of our own (ToFields): about numbers and lists alone; no condition beyond those written. -/
namespace Go.Proofs.Ytahgiblifkchaaa.P
open Go.RowKit Go.Proofs.YtahgiblifkchaaaW.PrintWords Go.Proofs.YtahgiblifkchaaaW.PrintLast Go.Proofs.YtahgiblifkchaaaW.PrintMore
set_option linter.unusedVariables false
set_option linter.unusedSimpArgs false
set_option maxHeartbeats 2000000
/-! ### the laws' own fields: read over, counted -/
abbrev LawFieldT := S68
def toF (x : LawFieldT) : FieldT := ⟨x.f0, x.f1⟩
theorem toFieldS_l (l : List LawFieldT) (hl : l.length ≤ 4398046511104) : ∀ (d k i : Nat) (out : List FieldT), out.length = l.length → i ≤ l.length → l.length - i = d → (∀ j, j < i → out[j]? = (l.map toF)[j]?) → d < k →
    laws_toFieldS.l0 k l out (i : Int) = some (l.map toF) := by
  intro d
  induction d with
  | zero =>
    intro k i out ho h1 hd hj hk
    obtain ⟨k, rfl⟩ : ∃ m, k = m + 1 := ⟨k - 1, by omega⟩
    simp only [laws_toFieldS.l0]
    rw [if_neg (by omega)]
    congr 1
    apply List.ext_getElem?
    intro j
    by_cases h : j < l.length
    · exact hj j (by omega)
    · rw [List.getElem?_eq_none (by omega), List.getElem?_eq_none (by simp; omega)]
  | succ d ih =>
    intro k i out ho h1 hd hj hk
    obtain ⟨k, rfl⟩ : ∃ m, k = m + 1 := ⟨k - 1, by omega⟩
    have hw : wrap64 ((i : Int) + 1) = ((i + 1 : Nat) : Int) := by rw [wrap_id (by omega) (by omega)]; omega
    simp only [laws_toFieldS.l0]
    unfold laws_toField.f
    rw [if_pos (by omega), if_pos (by omega), Option.bind_some, if_pos (by omega), hw, Int.toNat_natCast]
    refine ih k (i + 1) _ (by rw [List.length_set]; exact ho) (by omega) (by omega) (fun j hji => ?_) (by omega)
    rw [List.getElem?_set]
    by_cases e : i = j
    · subst e
      rw [if_pos rfl, if_pos (by omega), List.getElem?_map]
      unfold rd_T68
      rw [Int.toNat_natCast, List.getD_eq_getElem?_getD, List.getElem?_eq_getElem (by omega)]
      rfl
    · rw [if_neg e]
      exact hj j (by omega)
theorem toFieldS_eq (l : List LawFieldT) (hl : l.length ≤ 4398046511104) (k : Nat) (hk : l.length < k) : laws_toFieldS.f k l = some (l.map toF) := by
  unfold laws_toFieldS.f
  rw [if_pos (by omega), if_pos (by omega)]
  exact toFieldS_l l hl l.length k 0 _ (by simp) (Nat.zero_le _) (by omega) (fun j hj => by omega) hk
theorem szField_some (a b : ByteArray) (n : Int) : ∃ t, laws_szField.f a b n = some t := by
  unfold laws_szField.f
  split
  · exact ⟨_, rfl⟩
  · split <;> exact ⟨_, rfl⟩
theorem szFieldS_l (l : List LawFieldT) (hl : l.length ≤ 4398046511104) : ∀ (d k : Nat) (n i : Int), 0 ≤ i → (l.length : Int) - i = d → d < k → ∃ t, laws_szFieldS.l0 k l n i = some t := by
  intro d
  induction d with
  | zero =>
    intro k n i h0 hd hk
    obtain ⟨k, rfl⟩ : ∃ m, k = m + 1 := ⟨k - 1, by omega⟩
    simp only [laws_szFieldS.l0]
    rw [if_neg (by omega)]
    exact ⟨_, rfl⟩
  | succ d ih =>
    intro k n i h0 hd hk
    obtain ⟨k, rfl⟩ : ∃ m, k = m + 1 := ⟨k - 1, by omega⟩
    simp only [laws_szFieldS.l0]
    obtain ⟨t, ht⟩ := szField_some (rd_T68 l i).f0 (rd_T68 l i).f1 n
    rw [if_pos (by omega), if_pos h0, ht, Option.bind_some]
    by_cases h : t < 0
    · rw [if_pos h]; exact ⟨_, rfl⟩
    · rw [if_neg h, wrap_id (x := i + 1) (by omega) (by omega)]
      exact ih k t (i + 1) (by omega) (by omega) (by omega)
theorem szFieldS_some (l : List LawFieldT) (hl : l.length ≤ 4398046511104) (n : Int) (k : Nat) (hk : l.length < k) : ∃ t, laws_szFieldS.f k l n = some t := by
  unfold laws_szFieldS.f
  split
  · exact ⟨_, rfl⟩
  · exact szFieldS_l l hl l.length k _ 0 (by omega) (by omega) hk

end Go.Proofs.Ytahgiblifkchaaa.P
end

section
/- Plain laws of our own (Without): about numbers and lists alone; no condition beyond those written. -/
namespace Go.Proofs.Ytahgiblifkchaaa.P
open Go.RowKit Go.Proofs.YtahgiblifkchaaaW.PrintWords Go.Proofs.YtahgiblifkchaaaW.PrintLast Go.Proofs.YtahgiblifkchaaaW.PrintMore
set_option linter.unusedVariables false
set_option linter.unusedSimpArgs false
set_option maxHeartbeats 2000000
/-! ### Without -/
def keptFrom (l : List FieldT) (a : ByteArray) : Nat → Nat → List FieldT → List FieldT
  | 0, _, out => out
  | d + 1, i, out => keptFrom l a d (i + 1) (if sameB (rd_T71 l (i : Int)).f0 a = true then out else out ++ [rd_T71 l (i : Int)])
theorem keptFrom_length (l : List FieldT) (a : ByteArray) : ∀ d i out, (keptFrom l a d i out).length ≤ out.length + d := by
  intro d
  induction d with
  | zero => intro i out; simp [keptFrom]
  | succ d ih =>
    intro i out
    simp only [keptFrom]
    split
    · have := ih (i + 1) out; omega
    · have := ih (i + 1) (out ++ [rd_T71 l (i : Int)])
      simp at this; omega
theorem impl_kept (l : List FieldT) (a : ByteArray) (ha : a.size ≤ 140737488351232) (hok : fieldsOkB l = true) : ∀ (d k i : Nat) (out : List FieldT), i ≤ l.length → l.length - i = d → out.length ≤ i → d < k →
    keptL (fun x => (impl_SameFold.f x a).bind fun b => some (!b)) k l out (i : Int) = some (keptFrom l a d i out) := by
  have hl := fieldsOk_short hok
  intro d
  induction d with
  | zero =>
    intro k i out h1 hd ho hk
    obtain ⟨k, rfl⟩ : ∃ m, k = m + 1 := ⟨k - 1, by omega⟩
    simp only [keptL]
    rw [if_neg (by omega)]
    rfl
  | succ d ih =>
    intro k i out h1 hd ho hk
    obtain ⟨k, rfl⟩ : ∃ m, k = m + 1 := ⟨k - 1, by omega⟩
    have hn := fieldsOk_name hok i (by omega)
    have hw : wrap64 ((i : Int) + 1) = ((i + 1 : Nat) : Int) := by rw [wrap_id (by omega) (by omega)]; omega
    simp only [keptL, keptFrom]
    rw [if_pos (by omega), if_pos (by omega), impl_SameFold_eq _ a (by omega) (by omega), Option.bind_some, Option.bind_some, hw]
    by_cases hb : sameB (rd_T71 l (i : Int)).f0 a = true
    · rw [hb, if_neg (by decide), if_pos rfl]
      exact ih k (i + 1) out (by omega) (by omega) (by omega) (by omega)
    · have hb' : sameB (rd_T71 l (i : Int)).f0 a = false := by simpa using hb
      rw [hb', if_pos (by decide), if_pos (by omega), if_neg (by decide)]
      exact ih k (i + 1) _ (by omega) (by omega) (by simp; omega) (by omega)
theorem spec_kept (l : List FieldT) (a : ByteArray) (ha : a.size ≤ 140737488351232) (hok : fieldsOkB l = true) : ∀ (d k i : Nat) (out : List FieldT), i ≤ l.length → l.length - i = d → out.length ≤ i → d < k →
    spec_Without.l0 k l a out (i : Int) = some (keptFrom l a d i out) := by
  have hl := fieldsOk_short hok
  intro d
  induction d with
  | zero =>
    intro k i out h1 hd ho hk
    obtain ⟨k, rfl⟩ : ∃ m, k = m + 1 := ⟨k - 1, by omega⟩
    simp only [spec_Without.l0]
    rw [if_neg (by omega)]
    rfl
  | succ d ih =>
    intro k i out h1 hd ho hk
    obtain ⟨k, rfl⟩ : ∃ m, k = m + 1 := ⟨k - 1, by omega⟩
    have hn := fieldsOk_name hok i (by omega)
    have hw : wrap64 ((i : Int) + 1) = ((i + 1 : Nat) : Int) := by rw [wrap_id (by omega) (by omega)]; omega
    simp only [spec_Without.l0, keptFrom]
    rw [if_pos (by omega), if_pos (by omega), spec_SameFold_eq _ a (by omega) (by omega), Option.bind_some, hw]
    by_cases hb : sameB (rd_T71 l (i : Int)).f0 a = true
    · rw [if_pos hb, if_pos hb]
      exact ih k (i + 1) out (by omega) (by omega) (by omega) (by omega)
    · rw [if_neg hb, if_neg hb, if_pos (by omega)]
      exact ih k (i + 1) _ (by omega) (by omega) (by simp; omega) (by omega)
def withoutOf (l : List FieldT) (a : ByteArray) : List FieldT := if fieldsOkB l = true then keptFrom l a l.length 0 [] else []
theorem withoutOf_length (l : List FieldT) (a : ByteArray) : (withoutOf l a).length ≤ 20 := by
  unfold withoutOf
  split
  · rename_i h
    have h1 := fieldsOk_short h
    have h2 := keptFrom_length l a l.length 0 []
    simp at h2; omega
  · exact Nat.zero_le _
theorem impl_Without_eq (l : List FieldT) (a : ByteArray) (ha : a.size ≤ 140737488351232) (k : Nat) (hk : 6000 < k) : impl_Without.f k l a = some (withoutOf l a) := by
  unfold impl_Without.f keptF withoutOf
  rw [impl_FieldsOk_eq l k hk, Option.bind_some]
  by_cases h : fieldsOkB l = true
  · have := fieldsOk_short h
    rw [if_pos h, if_pos h]
    exact impl_kept l a ha h l.length k 0 [] (Nat.zero_le _) (by omega) (Nat.le_refl _) (by omega)
  · rw [if_neg h, if_neg h]
theorem spec_Without_eq (l : List FieldT) (a : ByteArray) (ha : a.size ≤ 140737488351232) (k : Nat) (hk : 6000 < k) : spec_Without.f k l a = some (withoutOf l a) := by
  unfold spec_Without.f withoutOf
  rw [spec_FieldsOk_eq l k hk, Option.bind_some]
  by_cases h : fieldsOkB l = true
  · have := fieldsOk_short h
    rw [if_pos h, if_pos h]
    exact spec_kept l a ha h l.length k 0 [] (Nat.zero_le _) (by omega) (Nat.le_refl _) (by omega)
  · rw [if_neg h, if_neg h]

end Go.Proofs.Ytahgiblifkchaaa.P
end

section
/- Plain laws of our own (With): about numbers and lists alone; no condition beyond those written. -/
namespace Go.Proofs.Ytahgiblifkchaaa.P
open Go.RowKit Go.Proofs.YtahgiblifkchaaaW.PrintWords Go.Proofs.YtahgiblifkchaaaW.PrintLast Go.Proofs.YtahgiblifkchaaaW.PrintMore
set_option linter.unusedVariables false
set_option linter.unusedSimpArgs false
set_option maxHeartbeats 2000000
/-! ### With -/
def withOf (l : List FieldT) (n v : ByteArray) : List FieldT := if fieldsOkB l = true ∧ fieldOkB n v = true ∧ (withoutOf l n).length < 20 then withoutOf l n ++ [⟨n, v⟩] else []
theorem withOf_length (l : List FieldT) (n v : ByteArray) : (withOf l n v).length ≤ 20 := by
  unfold withOf
  split
  · rename_i h
    simp; omega
  · exact Nat.zero_le _
theorem impl_With_eq (l : List FieldT) (n v : ByteArray) (hn : n.size ≤ 140737488351232) (k : Nat) (hk : 7000 < k) : impl_With.f k l n v = some (withOf l n v) := by
  unfold impl_With.f
  rw [impl_FieldsOk_eq l k (by omega), Option.bind_some]
  obtain ⟨k, rfl⟩ : ∃ m, k = m + 1 := ⟨k - 1, by omega⟩
  by_cases h : fieldsOkB l = true
  · rw [if_pos h, impl_FieldOk_eq n v _ (by omega), Option.bind_some]
    simp only [impl_With.j0]
    by_cases h2 : fieldOkB n v = true
    · have hw := withoutOf_length l n
      rw [h2, if_neg (by decide), impl_Without_eq l n hn k (by omega)]
      simp only [Option.bind_some]
      rw [if_pos (by simp; omega)]
      by_cases h3 : (withoutOf l n).length < 20
      · rw [if_neg (by simp; omega)]
        unfold withOf
        rw [if_pos ⟨h, h2, h3⟩]
      · rw [if_pos (by simp; omega)]
        unfold withOf
        rw [if_neg (fun z => h3 z.2.2)]
    · have h2' : fieldOkB n v = false := by simpa using h2
      rw [h2', if_pos (by decide)]
      unfold withOf
      rw [if_neg (fun z => h2 z.2.1)]
  · rw [if_neg h]
    simp only [impl_With.j0]
    rw [if_pos trivial]
    unfold withOf
    rw [if_neg (fun z => h z.1)]
theorem spec_With_eq (l : List FieldT) (n v : ByteArray) (hn : n.size ≤ 140737488351232) (k : Nat) (hk : 7000 < k) : spec_With.f k l n v = some (withOf l n v) := by
  unfold spec_With.f
  rw [spec_FieldsOk_eq l k (by omega), Option.bind_some]
  obtain ⟨k, rfl⟩ : ∃ m, k = m + 1 := ⟨k - 1, by omega⟩
  by_cases h : fieldsOkB l = true
  · rw [if_pos h, spec_FieldOk_eq n v _ (by omega), Option.bind_some]
    simp only [spec_With.j0]
    by_cases h2 : fieldOkB n v = true
    · have hw := withoutOf_length l n
      rw [h2, if_neg (by decide), spec_Without_eq l n hn k (by omega)]
      simp only [Option.bind_some]
      rw [if_pos (by simp; omega)]
      by_cases h3 : (withoutOf l n).length < 20
      · rw [if_neg (by simp; omega)]
        unfold withOf
        rw [if_pos ⟨h, h2, h3⟩]
      · rw [if_pos (by simp; omega)]
        unfold withOf
        rw [if_neg (fun z => h3 z.2.2)]
    · have h2' : fieldOkB n v = false := by simpa using h2
      rw [h2', if_pos (by decide)]
      unfold withOf
      rw [if_neg (fun z => h2 z.2.1)]
  · rw [if_neg h]
    simp only [spec_With.j0]
    rw [if_pos trivial]
    unfold withOf
    rw [if_neg (fun z => h z.1)]

end Go.Proofs.Ytahgiblifkchaaa.P
end

section
/- The program's With answers what the reference's answers, for all fields; no condition. -/
namespace Go.Proofs.Ytahgiblifkchaaa.Pure
open Go.RowKit Go.Proofs.Ytahgiblifkchaaa.P Go.Proofs.YtahgiblifkchaaaW.PrintWords Go.Proofs.YtahgiblifkchaaaW.PrintLast Go.Proofs.YtahgiblifkchaaaW.PrintMore
set_option linter.unusedVariables false
set_option linter.unusedSimpArgs false

theorem FnExactWith : laws_FnExactWith.Pure := by
  intro l0 a1 hl hz hg hzz
  have ha : a1.f0.size ≤ 140737488351232 := hzz.1
  have hl' : l0.length ≤ 4398046511104 := by omega
  refine ⟨l0.length + 10000, ?_⟩
  unfold laws_FnExactWith.f
  obtain ⟨t, ht⟩ := szFieldS_some l0 hl' 1048576 (l0.length + 10000) (by omega)
  rw [ht, Option.bind_some]
  by_cases hn : t < 0
  · rw [if_pos hn]
  · obtain ⟨t2, ht2⟩ := szField_some a1.f0 a1.f1 t
    rw [if_neg hn, ht2, Option.bind_some]
    by_cases hn2 : t2 < 0
    · rw [if_pos hn2]
    · have hv := withOf_length (l0.map toF) a1.f0 a1.f1
      have hm : (l0.map toF).length = l0.length := by simp
      obtain ⟨m1, e1⟩ := mark_then_FieldS (l0.map toF) 1 (by omega) (by decide) (by omega)
      obtain ⟨m2, e2⟩ := mark_then_FieldS (withOf (l0.map toF) a1.f0 a1.f1) 1 (by omega) (by decide) (by omega)
      rw [if_neg hn2, toFieldS_eq l0 hl' _ (by omega)]
      simp only [laws_toField.f, Option.bind_some, spec_With_eq _ a1.f0 a1.f1 ha (l0.length + 10000) (by omega), impl_With_eq _ a1.f0 a1.f1 ha (l0.length + 10000) (by omega)]
      rw [eq_self_FieldS _ (withOf (l0.map toF) a1.f0 a1.f1) (by omega) (by omega), eq_self_FieldS _ (l0.map toF) (by omega) (by omega), (e1 (l0.length + 10000) (by omega)).1]
      simp only [Option.bind_some, if_true, Bool.not_true]
      rw [if_neg (by omega)]
      obtain ⟨e3, e4⟩ := e2 (l0.length + 9999) (by omega)
      rw [show l0.length + 10000 = (l0.length + 9999) + 1 from rfl]
      simp only [laws_FnExactWith.j0]
      rw [if_neg (by decide), e3]
      simp only [Option.bind_some]
      rw [e4]
      simp only [Option.bind_some, if_true]
      rw [if_neg (by omega), toFieldS_eq l0 hl' _ (by omega)]
      simp only [laws_toField.f, Option.bind_some, impl_With_eq _ a1.f0 a1.f1 ha (l0.length + 9999) (by omega)]
      rw [eq_self_FieldS _ (withOf (l0.map toF) a1.f0 a1.f1) (by omega) (by omega)]
      simp only [Option.bind_some, if_true]
      rw [if_neg (by omega)]

end Go.Proofs.Ytahgiblifkchaaa.Pure
end
