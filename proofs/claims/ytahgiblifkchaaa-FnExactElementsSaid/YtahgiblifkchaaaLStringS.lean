/- Plain laws of our own (StringS): about numbers and lists alone; no condition beyond those written. -/
import Derived.Test.YtahgiblifkchaaaLKit
import Derived.Test.YtahgiblifkchaaaLMarkText
import Derived.Test.YtahgiblifkchaaaPxauxc
import Derived.Test.YtahgiblifkchaaaPxauxe
import Derived.Test.YtahgiblifkchaaaPxauxf
import Derived.Test.YtahgiblifkchaaaOwn
namespace Go.Proofs.Ytahgiblifkchaaa.P
open Go.RowKit Go.Proofs.YtahgiblifkchaaaW.PrintWords Go.Proofs.YtahgiblifkchaaaW.PrintLast Go.Proofs.YtahgiblifkchaaaW.PrintMore
set_option linter.unusedVariables false
set_option linter.unusedSimpArgs false
set_option maxHeartbeats 2000000
/-! ### StringS: marked, held, compared -/
theorem rd_set_StringS (l : List ByteArray) (n : Nat) (v : ByteArray) (h : n < l.length) : rdOf ByteArray.empty (l.set n v) (n : Int) = v := by
  unfold rdOf
  rw [Int.toNat_natCast, List.getD_eq_getElem?_getD]
  simp [h]
theorem mark_held_StringS : ∀ (d k : Nat) (l : List ByteArray) (c i : Int), 0 ≤ i → (l.length : Int) - i = d → l.length ≤ 281474976710656 → 0 ≤ c → c + 1 * d ≤ 1152921504606846976 → d + 30 < k →
    ∃ l', laws_markStringS.l0 k l c i = some (c + 1 * d, l') ∧ l'.length = l.length ∧ (∀ j : Nat, (j : Int) < i → l'[j]? = l[j]?) ∧ laws_heldStringS.l0 k l' c i = some (c + 1 * d) := by
  intro d
  induction d with
  | zero =>
    intro k l c i h0 hd hl hc hcd hk
    obtain ⟨k, rfl⟩ : ∃ m, k = m + 1 := ⟨k - 1, by omega⟩
    refine ⟨l, ?_, rfl, fun _ _ => rfl, ?_⟩
    · simp only [laws_markStringS.l0]
      rw [if_neg (by omega)]
      simp
    · simp only [laws_heldStringS.l0]
      rw [if_neg (by omega)]
      simp
  | succ d ih =>
    intro k l c i h0 hd hl hc hcd hk
    obtain ⟨k, rfl⟩ : ∃ m, k = m + 1 := ⟨k - 1, by omega⟩
    obtain ⟨n, rfl⟩ := Int.eq_ofNat_of_zero_le h0
    have hn : n < l.length := by omega
    have hw1 : wrap64 (c + 1) = c + 1 := wrap_id (by omega) (by omega)
    have hm0 : laws_markText.f k (c) = some (mt (c)) := mt_eq _ (by omega) k (by omega)
    have hwi : wrap64 ((n : Int) + 1) = ((n + 1 : Nat) : Int) := by rw [wrap_id (by omega) (by omega)]; omega
    have hlt : ((n : Int) < (l.length : Int)) = True := eq_true (by omega)
    have hge : (0 ≤ (n : Int)) = True := eq_true h0
    obtain ⟨l', e1, e2, e3, e4⟩ := ih k (l.set n (mt (c))) (c + 1) ((n + 1 : Nat) : Int) (by omega) (by rw [List.length_set]; omega) (by rw [List.length_set]; omega) (by omega) (by omega) (by omega)
    have hcc : c + 1 + 1 * (d : Int) = c + 1 * ((d + 1 : Nat) : Int) := by omega
    rw [hcc] at e1 e4
    rw [List.length_set] at e2
    have hat : l'[n]? = some (mt (c)) := by rw [e3 n (by omega)]; simp [hn]
    have hrd : rdOf ByteArray.empty l' (n : Int) = mt (c) := by
      unfold rdOf
      rw [Int.toNat_natCast, List.getD_eq_getElem?_getD, hat]
      rfl
    have hlt' : ((n : Int) < (l'.length : Int)) = True := eq_true (by omega)
    refine ⟨l', ?_, e2, fun j hj => ?_, ?_⟩
    · simp only [laws_markStringS.l0, hlt, hge, if_true, Option.bind_some, hw1, hm0, hwi, Int.toNat_natCast, List.set_set, List.length_set, hn, rd_set_StringS]
      exact e1
    · rw [e3 j (by omega), List.getElem?_set_ne (by omega)]
    · simp only [laws_heldStringS.l0, hlt', hge, if_true, Option.bind_some, hw1, hm0, hrd, hwi, bne_self_eq_false, Bool.false_eq_true, if_false]
      exact e4
theorem eq_refl_StringS : ∀ (d k : Nat) (l : List ByteArray) (i : Int), 0 ≤ i → (l.length : Int) - i = d → l.length ≤ 281474976710656 → d < k → laws_eqStringS.l0 k l l i = some true := by
  intro d
  induction d with
  | zero =>
    intro k l i h0 hd hl hk
    obtain ⟨k, rfl⟩ : ∃ m, k = m + 1 := ⟨k - 1, by omega⟩
    simp only [laws_eqStringS.l0]
    rw [if_neg (by omega)]
  | succ d ih =>
    intro k l i h0 hd hl hk
    obtain ⟨k, rfl⟩ : ∃ m, k = m + 1 := ⟨k - 1, by omega⟩
    simp only [laws_eqStringS.l0]
    rw [if_pos (by omega), if_pos h0, if_pos (by omega), if_pos trivial, wrap_id (by omega) (by omega)]
    exact ih k l (i + 1) (by omega) (by omega) hl (by omega)
theorem eq_self_StringS (k : Nat) (l : List ByteArray) (hl : l.length ≤ 281474976710656) (hk : l.length < k) : laws_eqStringS.f k l l = some true := by
  unfold laws_eqStringS.f
  rw [if_pos rfl]
  exact eq_refl_StringS l.length k l 0 (by omega) (by omega) hl hk
theorem mark_then_StringS (l : List ByteArray) (c : Int) (hl : l.length ≤ 281474976710656) (hc : 0 ≤ c) (hcd : c + 1 * l.length ≤ 1152921504606846976) :
    ∃ l', ∀ k, l.length + 31 ≤ k → laws_markStringS.f k l c = some (c + 1 * l.length, l') ∧ laws_heldStringS.f k l' c = some (c + 1 * l.length) := by
  obtain ⟨l', e1, _, _, e4⟩ := mark_held_StringS l.length (l.length + 31) l c 0 (by omega) (by omega) hl hc hcd (by omega)
  exact ⟨l', fun k hk => ⟨at_rounds (g := fun k => laws_markStringS.f k l c) (fun k => laws_markStringS.mono l c k) hk e1, at_rounds (g := fun k => laws_heldStringS.f k l' c) (fun k => laws_heldStringS.mono l' c k) hk e4⟩⟩

end Go.Proofs.Ytahgiblifkchaaa.P
