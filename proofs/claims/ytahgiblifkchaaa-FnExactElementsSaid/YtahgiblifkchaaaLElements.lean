/- Plain laws of our own (Elements): about numbers and lists alone; no condition beyond those written. -/
import Derived.Test.YtahgiblifkchaaaLKit
import Derived.Test.YtahgiblifkchaaaLTrim
import Derived.Test.YtahgiblifkchaaaPximpl01c
import Derived.Test.YtahgiblifkchaaaPxspec01a
import Derived.Test.YtahgiblifkchaaaPxspec01b
import Derived.Test.YtahgiblifkchaaaOwn
namespace Go.Proofs.Ytahgiblifkchaaa.P
open Go.RowKit Go.Proofs.YtahgiblifkchaaaW.PrintWords Go.Proofs.YtahgiblifkchaaaW.PrintLast Go.Proofs.YtahgiblifkchaaaW.PrintMore
set_option linter.unusedVariables false
set_option linter.unusedSimpArgs false
set_option maxHeartbeats 2000000
/-! ### Elements: both find the same elements -/
def fin (s : ByteArray) (out : List ByteArray) (a : Nat) : List ByteArray := addS out (trimS (s.extract a s.size))
def elS (s : ByteArray) : Nat → List ByteArray → Nat → Bool → Nat → List ByteArray
  | 0, out, a, _, _ => fin s out a
  | d + 1, out, a, q, i =>
    if bt s (i : Int) = 34 then elS s d out a (!q) (i + 1)
    else if q = true ∧ bt s (i : Int) = 92 then (match d with | 0 => fin s out a | e + 1 => elS s e out a q (i + 2))
    else if q = false ∧ bt s (i : Int) = 44 then elS s d (addS out (trimS (s.extract a i))) (i + 1) q (i + 1)
    else elS s d out a q (i + 1)
theorem elS_succ (s : ByteArray) (d : Nat) (out : List ByteArray) (a : Nat) (q : Bool) (i : Nat) : elS s (d + 1) out a q i =
    if bt s (i : Int) = 34 then elS s d out a (!q) (i + 1)
    else if q = true ∧ bt s (i : Int) = 92 then (match d with | 0 => fin s out a | e + 1 => elS s e out a q (i + 2))
    else if q = false ∧ bt s (i : Int) = 44 then elS s d (addS out (trimS (s.extract a i))) (i + 1) q (i + 1)
    else elS s d out a q (i + 1) := by
  rw [elS.eq_def]
theorem addS_length (out : List ByteArray) (t : ByteArray) : (addS out t).length ≤ out.length + 1 := by
  unfold addS
  split
  · omega
  · simp
theorem impl_el_end (s : ByteArray) (hs : s.size ≤ 4000) (k : Nat) (hk : 2 * s.size + 3 < k) (out : List ByteArray) (hl : out.length ≤ 5000) (a : Nat) (ha : a ≤ s.size) (q : Bool) (i : Int) (hi : (s.size : Int) ≤ i) :
    impl_Elements.l0 (k + 1) s out (a : Int) q i = some (fin s out a) := by
  have hz : (s.extract a s.size).size ≤ s.size := by rw [size_extract]; omega
  simp only [impl_Elements.l0]
  rw [if_neg (by omega), if_pos (by omega), if_pos (by omega), if_pos (by omega), Int.toNat_natCast, impl_Trim_eq _ (by omega) k (by omega)]
  rfl
theorem impl_el (s : ByteArray) (hs : s.size ≤ 4000) : ∀ (n d : Nat), d ≤ n → ∀ (k : Nat) (out : List ByteArray) (a : Nat) (q : Bool) (i : Nat), i ≤ s.size → s.size - i = d → a ≤ i → out.length ≤ i → d + 2 * s.size + 5 < k →
    impl_Elements.l0 k s out (a : Int) q (i : Int) = some (elS s d out a q i) := by
  intro n
  induction n with
  | zero =>
    intro d hdn k out a q i hi hd ha hl hk
    obtain rfl : d = 0 := by omega
    obtain ⟨k, rfl⟩ : ∃ m, k = m + 1 := ⟨k - 1, by omega⟩
    exact impl_el_end s hs k (by omega) out (by omega) a (by omega) q i (by omega)
  | succ n ih =>
    intro d hdn k out a q i hi hd ha hl hk
    obtain ⟨k, rfl⟩ : ∃ m, k = m + 1 := ⟨k - 1, by omega⟩
    cases d with
    | zero => exact impl_el_end s hs k (by omega) out (by omega) a (by omega) q i (by omega)
    | succ d =>
      have hw : wrap64 ((i : Int) + 1) = ((i + 1 : Nat) : Int) := by rw [wrap_id (by omega) (by omega)]; omega
      have hw2 : wrap64 (((i + 1 : Nat) : Int) + 1) = ((i + 2 : Nat) : Int) := by rw [wrap_id (by omega) (by omega)]; omega
      simp only [impl_Elements.l0]
      rw [elS_succ]
      rw [if_pos (by omega), if_pos (by omega), hw, hw2]
      by_cases c1 : bt s (i : Int) = 34
      · rw [if_pos c1, if_pos c1]
        exact ih d (by omega) k out a (!q) (i + 1) (by omega) (by omega) (by omega) (by omega) (by omega)
      · rw [if_neg c1, if_neg c1]
        by_cases c2 : q = true ∧ bt s (i : Int) = 92
        · rw [if_pos c2, if_pos c2]
          cases d with
          | zero =>
            obtain ⟨k, rfl⟩ : ∃ m, k = m + 1 := ⟨k - 1, by omega⟩
            exact impl_el_end s hs k (by omega) out (by omega) a (by omega) q _ (by omega)
          | succ e => exact ih e (by omega) k out a q (i + 2) (by omega) (by omega) (by omega) (by omega) (by omega)
        · rw [if_neg c2, if_neg c2]
          by_cases c3 : q = false ∧ bt s (i : Int) = 44
          · have hz : (s.extract a i).size ≤ s.size := by rw [size_extract]; omega
            rw [if_pos c3, if_pos c3, if_pos (by omega), if_pos (by omega), if_pos (by omega), Int.toNat_natCast, Int.toNat_natCast, impl_Trim_eq _ (by omega) k (by omega), Option.bind_some]
            exact ih d (by omega) k _ (i + 1) q (i + 1) (by omega) (by omega) (by omega) (by have := addS_length out (trimS (s.extract a i)); omega) (by omega)
          · rw [if_neg c3, if_neg c3]
            exact ih d (by omega) k out a q (i + 1) (by omega) (by omega) (by omega) (by omega) (by omega)
theorem spec_add (s : ByteArray) (k : Nat) (out : List ByteArray) (hl : out.length ≤ 5000) (x : ByteArray) (hx : x.size ≤ 4000) (hk : 2 * x.size + 3 < k) (g : List ByteArray → Option (List ByteArray)) :
    ((spec_Trim.f k x).bind fun t => if (t.size : Int) > 0 then (if out.length < 8796093022208 then g (out ++ [t]) else none) else g out) = g (addS out (trimS x)) := by
  rw [spec_Trim_eq x (by omega) k hk, Option.bind_some]
  unfold addS
  by_cases h : (trimS x).toList = ([] : List UInt8)
  · have := (toList_nil _).1 h
    rw [if_pos h, if_neg (by omega)]
  · have : (trimS x).size ≠ 0 := fun e => h ((toList_nil _).2 e)
    rw [if_neg h, if_pos (by omega), if_pos (by omega)]
theorem spec_el_end (s : ByteArray) (hs : s.size ≤ 4000) (k : Nat) (hk : 2 * s.size + 5 < k) (out : List ByteArray) (hl : out.length ≤ 5000) (a : Nat) (ha : a ≤ s.size) (q : Bool) :
    spec_Elements.l0 (k + 2) s out (a : Int) q (s.size : Int) = some (fin s out a) := by
  have hz : (s.extract a s.size).size ≤ s.size := by rw [size_extract]; omega
  have hw : wrap64 ((s.size : Int) + 1) = ((s.size + 1 : Nat) : Int) := by rw [wrap_id (by omega) (by omega)]; omega
  rw [spec_Elements.l0.eq_def]
  dsimp only
  rw [if_pos (by omega), if_pos rfl, spec_Elements.j1.eq_def]
  dsimp only
  rw [if_pos rfl, if_pos (by omega), if_pos (by omega), if_pos (by omega), Int.toNat_natCast, Int.toNat_natCast, hw]
  rw [spec_add s k out hl (s.extract a s.size) (by omega) (by omega) (fun o => spec_Elements.l0 k s o ((s.size + 1 : Nat) : Int) q ((s.size + 1 : Nat) : Int))]
  obtain ⟨k, rfl⟩ : ∃ m, k = m + 1 := ⟨k - 1, by omega⟩
  rw [spec_Elements.l0.eq_def]
  dsimp only
  rw [if_neg (by omega)]
  rfl
theorem spec_el (s : ByteArray) (hs : s.size ≤ 4000) : ∀ (n d : Nat), d ≤ n → ∀ (k : Nat) (out : List ByteArray) (a : Nat) (q : Bool) (i : Nat), i ≤ s.size → s.size - i = d → a ≤ i → out.length ≤ i → 2 * d + 2 * s.size + 9 < k →
    spec_Elements.l0 k s out (a : Int) q (i : Int) = some (elS s d out a q i) := by
  intro n
  induction n with
  | zero =>
    intro d hdn k out a q i hi hd ha hl hk
    obtain rfl : d = 0 := by omega
    obtain ⟨k, rfl⟩ : ∃ m, k = m + 2 := ⟨k - 2, by omega⟩
    obtain rfl : i = s.size := by omega
    exact spec_el_end s hs k (by omega) out (by omega) a (by omega) q
  | succ n ih =>
    intro d hdn k out a q i hi hd ha hl hk
    obtain ⟨k, rfl⟩ : ∃ m, k = m + 2 := ⟨k - 2, by omega⟩
    cases d with
    | zero =>
      obtain rfl : i = s.size := by omega
      exact spec_el_end s hs k (by omega) out (by omega) a (by omega) q
    | succ d =>
      have hw : wrap64 ((i : Int) + 1) = ((i + 1 : Nat) : Int) := by rw [wrap_id (by omega) (by omega)]; omega
      have hw2 : wrap64 (((i + 1 : Nat) : Int) + 1) = ((i + 2 : Nat) : Int) := by rw [wrap_id (by omega) (by omega)]; omega
      have hno : ∀ (b : Bool), (q = true ∨ bt s (i : Int) ≠ 44) → spec_Elements.j1 (k + 1) s out (a : Int) q (i : Int) false = some (elS s (d + 1) out a q i) := by
        intro b hq
        rw [spec_Elements.j1.eq_def]
        dsimp only
        rw [if_neg (by decide), if_pos (by omega), if_pos (by omega), hw, hw2]
        rw [elS_succ]
        by_cases c1 : bt s (i : Int) = 34
        · rw [if_pos c1, if_pos c1]
          exact ih d (by omega) k out a (!q) (i + 1) (by omega) (by omega) (by omega) (by omega) (by omega)
        · rw [if_neg c1, if_neg c1]
          by_cases c2 : q = true
          · rw [if_pos c2]
            by_cases c3 : bt s (i : Int) = 92
            · rw [if_pos c3, if_pos (show q = true ∧ bt s (i : Int) = 92 from ⟨c2, c3⟩)]
              cases d with
              | zero =>
                rw [if_neg (by omega)]
                obtain ⟨k, rfl⟩ : ∃ m, k = m + 2 := ⟨k - 2, by omega⟩
                have : ((i + 1 : Nat) : Int) = (s.size : Int) := by omega
                rw [this]
                exact spec_el_end s hs k (by omega) out (by omega) a (by omega) q
              | succ e =>
                rw [if_pos (by omega)]
                exact ih e (by omega) k out a q (i + 2) (by omega) (by omega) (by omega) (by omega) (by omega)
            · rw [if_neg c3, if_neg (fun z => c3 z.2), if_neg (fun z => by rw [c2] at z; cases z.1)]
              exact ih d (by omega) k out a q (i + 1) (by omega) (by omega) (by omega) (by omega) (by omega)
          · rw [if_neg c2, if_neg (fun z => c2 z.1), if_neg (fun z => by rcases hq with h | h; exact c2 h; exact h z.2)]
            exact ih d (by omega) k out a q (i + 1) (by omega) (by omega) (by omega) (by omega) (by omega)
      rw [spec_Elements.l0.eq_def]
      dsimp only
      rw [if_pos (by omega), if_neg (by omega)]
      by_cases c2 : q = true
      · rw [if_pos c2]
        exact hno true (.inl c2)
      · rw [if_neg c2, if_pos (by omega), if_pos (by omega)]
        by_cases c3 : bt s (i : Int) = 44
        · have hz : (s.extract a i).size ≤ s.size := by rw [size_extract]; omega
          rw [show ((bt s (i : Int)) == 44) = true from beq_iff_eq.mpr c3, spec_Elements.j1.eq_def]
          dsimp only
          rw [if_pos rfl, if_pos (by omega), if_pos (by omega), if_pos (by omega), Int.toNat_natCast, Int.toNat_natCast, hw]
          rw [spec_add s k out (by omega) (s.extract a i) (by omega) (by omega) (fun o => spec_Elements.l0 k s o ((i + 1 : Nat) : Int) q ((i + 1 : Nat) : Int))]
          rw [elS_succ, if_neg (by omega), if_neg (fun z => c2 z.1), if_pos ⟨by simpa using c2, c3⟩]
          exact ih d (by omega) k _ (i + 1) q (i + 1) (by omega) (by omega) (by omega) (by have := addS_length out (trimS (s.extract a i)); omega) (by omega)
        · rw [show ((bt s (i : Int)) == 44) = false from beq_eq_false_iff_ne.mpr c3]
          exact hno true (.inr c3)
/-- What Elements answers. -/
def elementsOf (s : ByteArray) : List ByteArray := if (s.size : Int) > 4000 then [] else elS s s.size [] 0 false 0
theorem impl_Elements_eq (s : ByteArray) (k : Nat) (hk : 20000 < k) : impl_Elements.f k s = some (elementsOf s) := by
  unfold impl_Elements.f elementsOf
  by_cases h : (s.size : Int) > 4000
  · rw [if_pos h, if_pos h]
  · rw [if_neg h, if_neg h]
    exact impl_el s (by omega) s.size s.size (Nat.le_refl _) k [] 0 false 0 (Nat.zero_le _) (by omega) (Nat.le_refl _) (Nat.le_refl _) (by omega)
theorem spec_Elements_eq (s : ByteArray) (k : Nat) (hk : 20000 < k) : spec_Elements.f k s = some (elementsOf s) := by
  unfold spec_Elements.f elementsOf
  by_cases h : (s.size : Int) > 4000
  · rw [if_pos h, if_pos h]
  · rw [if_neg h, if_neg h]
    exact spec_el s (by omega) s.size s.size (Nat.le_refl _) k [] 0 false 0 (Nat.zero_le _) (by omega) (Nat.le_refl _) (Nat.le_refl _) (by omega)
theorem elS_length (s : ByteArray) : ∀ (n d : Nat), d ≤ n → ∀ (out : List ByteArray) (a : Nat) (q : Bool) (i : Nat), (elS s d out a q i).length ≤ out.length + d + 1 := by
  intro n
  induction n with
  | zero =>
    intro d hdn out a q i
    obtain rfl : d = 0 := by omega
    exact addS_length _ _
  | succ n ih =>
    intro d hdn out a q i
    cases d with
    | zero => exact addS_length _ _
    | succ d =>
      rw [elS_succ]
      split
      · have := ih d (by omega) out a (!q) (i + 1); omega
      · split
        · cases d with
          | zero => have := addS_length out (trimS (s.extract a s.size)); exact Nat.le_trans this (by omega)
          | succ e => have := ih e (by omega) out a q (i + 2); exact Nat.le_trans this (by omega)
        · split
          · have := ih d (by omega) (addS out (trimS (s.extract a i))) (i + 1) q (i + 1)
            have := addS_length out (trimS (s.extract a i))
            omega
          · have := ih d (by omega) out a q (i + 1); omega
theorem elementsOf_length (s : ByteArray) : (elementsOf s).length ≤ 4001 := by
  unfold elementsOf
  by_cases h : (s.size : Int) > 4000
  · rw [if_pos h]; exact Nat.zero_le _
  · rw [if_neg h]
    have := elS_length s s.size s.size (Nat.le_refl _) [] 0 false 0
    simp at this
    omega

end Go.Proofs.Ytahgiblifkchaaa.P
