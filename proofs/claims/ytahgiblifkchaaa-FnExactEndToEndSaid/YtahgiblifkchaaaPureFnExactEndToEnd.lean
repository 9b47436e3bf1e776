import Derived.Test.YtahgiblifkchaaaPxlawFnExactEndToEnd
import Derived.Test.YtahgiblifkchaaaOwn
import Derived.SizedLaws
import Derived.ChangeSlices
import Derived.ChangeSame
import Derived.Deep.Slices
import Derived.ProofKit
import Derived.OpenShut
import Derived.ShutString
import Derived.ChangeOld
import Derived.Test.YtahgiblifkchaaaPx0
import Derived.Test.YtahgiblifkchaaaPximpl01a
import Derived.Test.YtahgiblifkchaaaPximpl01b
import Derived.Test.YtahgiblifkchaaaPxspec01a
import Derived.Test.YtahgiblifkchaaaPxspec01b
import Derived.Test.YtahgiblifkchaaaPxspec05a
import Derived.Test.YtahgiblifkchaaaPximpl01c
import Derived.Test.YtahgiblifkchaaaPxspec01c
import Derived.Test.YtahgiblifkchaaaPximpl05a
import Derived.Test.YtahgiblifkchaaaPximpl05b
import Derived.Test.YtahgiblifkchaaaPxspec01d
import Derived.Test.YtahgiblifkchaaaPxspec05b
import Derived.Test.YtahgiblifkchaaaPximpl05c
import Derived.Test.YtahgiblifkchaaaPxspec05c
import Derived.Test.YtahgiblifkchaaaPxspec05d
import Derived.Test.YtahgiblifkchaaaPximpl01d
import Derived.Test.YtahgiblifkchaaaPxspec01e
import Derived.Test.YtahgiblifkchaaaPxspec05e
import Derived.Test.YtahgiblifkchaaaPximpl05d
import Derived.Test.YtahgiblifkchaaaPxspec05f
import Derived.Test.YtahgiblifkchaaaPxauxd
import Derived.Test.YtahgiblifkchaaaPxauxb
import Derived.Test.YtahgiblifkchaaaPxauxc
import Derived.Test.YtahgiblifkchaaaPxauxf
import Derived.Test.YtahgiblifkchaaaPxauxa
section
/- How a row's arguments that are structs, or slices of structs, are laid open: plain lemmas on the form's reading; no condition. -/
namespace Go.Proofs.Ytahgiblifkchaaa.P
open Go Go.RowKit Go.ChangeShapes Go.WideShapes Go.Deep Go.Proofs.YtahgiblifkchaaaW.PrintWords
set_option linter.unusedVariables false
set_option linter.unusedSimpArgs false
theorem list_of_all {α : Type} {Q : Nat → α → Prop} : ∀ (n : Nat), (∀ i, i < n → ∃ v, Q i v) → ∃ l : List α, l.length = n ∧ ∀ i v, l[i]? = some v → Q i v := by
  intro n
  induction n with
  | zero => intro _; exact ⟨[], rfl, fun i v h => by simp at h⟩
  | succ n ih =>
    intro h
    obtain ⟨l, hl, hq⟩ := ih (fun i hi => h i (by omega))
    obtain ⟨v, hv⟩ := h n (by omega)
    refine ⟨l ++ [v], by simp [hl], fun i u hu => ?_⟩
    by_cases hi : i < l.length
    · rw [List.getElem?_append_left hi] at hu
      exact hq i u hu
    · have hin : i < (l ++ [v]).length := (List.getElem?_eq_some_iff.1 hu).1
      have : i = l.length := by simp at hin; omega
      subst this
      rw [List.getElem?_append_right (by omega)] at hu
      simp at hu
      subst hu
      rw [hl]; exact hv
theorem weights_all_mem {H : Type} {P : Program} {e : TypeId} {ds : List (DataW H)} {d : DataW H} (h : d ∈ ds) : ∀ n, n ∈ d.weights P e → n ∈ DataW.weightsAll P e ds := by
  intro n hn
  induction ds with
  | nil => cases h
  | cons x r ih =>
    simp only [DataW.weightsAll, List.mem_append]
    rcases List.mem_cons.1 h with rfl | h
    · exact .inl hn
    · exact .inr (ih h)
/-- The weights of one argument. -/
theorem weight_of {H : Type} {P : Program} {ts : List TypeId} {ds : List (DataW H)} (h : (DataW.weightsEach P ts ds).all (· ≤ reachBytes) = true) {j : Nat} {t : TypeId} {d : DataW H} (ht : ts[j]? = some t) (hd : ds[j]? = some d) :
    ∀ n, n ∈ d.weights P t → n ≤ 140737488351232 := fun n hn => by
  have := List.all_eq_true.1 h _ (DataW.weights_mem_each ht hd n hn)
  exact of_decide_eq_true this
/-- A slice whose elements are known cell by cell: its list. 'op': what one element's cells tell. -/
theorem open_rows {α H : Type} {enc : TypeId × Value → H} {P : Program} {w : World} {spare : Nat → Bool} {held : Bool} {t e : TypeId} {A : Option Addr} {len cap : Nat} {d : DataW H} {ps : List MemPlace}
    (K : Kd α) (G : α → Prop) (S : α → Prop) (ht : P.underlying t = some (.slice e)) (hsz : P.cellsOf e = K.sz) (hb : 0 < P.bytesOf e)
    (op : ∀ (n : Nat) (cs : List Value) (x : DataW H × List MemPlace), DataW.trod enc P w 0 spare held n e cs = some x → ∃ v : α, K.K w v cs ∧ G v ∧ ((∀ m, m ∈ x.1.weights P e → m ≤ 140737488351232) → S v))
    (hw : ∀ m, m ∈ d.weights P t → m ≤ 140737488351232) (h : DataW.Trod enc P w 0 spare held t (.slice A len cap) d ps) :
    ∃ l : List α, l.length = len ∧ K.C w A len l ∧ len ≤ cap ∧ len * P.bytesOf e ≤ 140737488351232 ∧ ∀ x ∈ l, G x ∧ S x := by
  obtain ⟨fuel, hf⟩ := h
  rcases open_slice ht hf with ⟨hcs, hx⟩ | ⟨a, len', cap', m, n, D, Pl, hcs, _, hl, hm, hmm, hx, hi⟩
  · simp [Value.cells] at hcs
    obtain ⟨rfl, rfl, rfl⟩ := hcs
    refine ⟨[], rfl, ⟨rfl, by omega, fun h => absurd h (by omega)⟩, Nat.le_refl _, by omega, fun x hx => by cases hx⟩
  · simp [Value.cells] at hcs
    obtain ⟨rfl, rfl, rfl⟩ := hcs
    obtain ⟨hxd, _⟩ := Prod.mk.inj hx
    subst hxd
    have hlm : len ≤ m := by rw [hmm]; split <;> omega
    have hwt : len * P.bytesOf e ≤ 140737488351232 := by
      have h1 := hw ((((List.range len).map D).length + ((List.range (m - len)).map fun j => D (len + j)).length) * P.bytesOf e) (by simp [DataW.weights, ht])
      simp at h1
      exact Nat.le_trans (Nat.mul_le_mul_right _ (by omega)) h1
    obtain ⟨l, hll, hq⟩ := list_of_all (α := α) (Q := fun i v => ∃ cs, w.cells? 0 (a.add (i * P.cellsOf e)) (P.cellsOf e) = some cs ∧ K.K w v cs ∧ G v ∧ S v) len (fun i hil => by
      obtain ⟨cs', hc, htr⟩ := hi i (by omega)
      obtain ⟨v, hk, hg, hs⟩ := op n cs' _ htr
      refine ⟨v, cs', hc, hk, hg, hs (fun q hq => ?_)⟩
      refine hw q ?_
      simp only [DataW.weights, ht, List.mem_cons, List.mem_append]
      refine .inr (.inl (weights_all_mem (d := D i) ?_ q hq))
      exact List.mem_map.2 ⟨i, List.mem_range.2 hil, rfl⟩)
    have hlen9 : len ≤ 9223372036854775807 := by
      have : len * 1 ≤ len * P.bytesOf e := Nat.mul_le_mul_left _ hb
      omega
    refine ⟨l, hll, ⟨hll, hlen9, fun _ => ⟨a, rfl, fun j p hj => ?_⟩⟩, hl, hwt, fun x hx => ?_⟩
    · obtain ⟨cs, hc, hk, _, _⟩ := hq j p hj
      obtain ⟨_, hcl, hat⟩ := World.cells?_some hc
      refine ⟨cs, by rw [hcl, hsz], hk, fun i u hu => ?_⟩
      have hil : i < cs.length := (List.getElem?_eq_some_iff.1 hu).1
      have := hat i (by omega)
      rw [hsz, Go.Deep.add_add] at this
      rw [this, hu]
    · obtain ⟨i, hil, he⟩ := List.mem_iff_getElem.1 hx
      obtain ⟨cs, _, _, hg, hs⟩ := hq i x (by rw [List.getElem?_eq_getElem hil, he])
      exact ⟨hg, hs⟩
/-- A struct by value: its cells. -/
theorem open_whole {H : Type} {enc : TypeId × Value → H} {P : Program} {w : World} {spare : Nat → Bool} {held : Bool} {t : TypeId} {fs : Array Field} {v : Value} {d : DataW H} {ps : List MemPlace} {r : Reach} {b0 : Nat}
    (ht : P.underlying t = some (.struct fs)) (hv : Value.okWide P w r b0 t v) (h : DataW.Trod enc P w 0 spare held t v d ps) : ∃ (cs : List Value) (n : Nat), v = .agg cs.toArray ∧ DataW.trod enc P w 0 spare held n t cs = some (d, ps) := by
  obtain ⟨cs, rfl, _⟩ := okWide_struct ht hv
  obtain ⟨fuel, hf⟩ := h
  exact ⟨cs.toList, fuel, by simp, by simpa [Value.cells] using hf⟩
end Go.Proofs.Ytahgiblifkchaaa.P
end

section
/- How the laws' structs are laid open, type by type: plain lemmas; no condition. -/
namespace Go.Proofs.Ytahgiblifkchaaa.P
open Go Go.RowKit Go.ChangeShapes Go.WideShapes Go.Deep Go.Proofs.YtahgiblifkchaaaW.PrintWords Go.Proofs.YtahgiblifkchaaaW.PrintLast
set_option linter.unusedVariables false
set_option linter.unusedSimpArgs false
set_option maxRecDepth 100000
set_option maxHeartbeats 2000000
/-- The numbers fit their kinds; the texts are no longer than what can be read. -/
def G68 (x : S68) : Prop := True
def Z68 (x : S68) : Prop := x.f0.size ≤ 140737488351232 ∧ x.f1.size ≤ 140737488351232 ∧ True
theorem opens68 {H : Type} {enc : TypeId × Value → H} {w : World} {spare : Nat → Bool} {held : Bool} (n : Nat) (cs : List Value) (x : DataW H × List MemPlace) (h : DataW.trod enc Try.prog w 0 spare held n 68 cs = some x) :
    ∃ v : S68, k68.K w v cs ∧ G68 v ∧ ((∀ m, m ∈ x.1.weights Try.prog 68 → m ≤ 140737488351232) → Z68 v) := by
  obtain ⟨xs, n', rfl, rfl, hl0, hxl0, hf⟩ := DataW.trod_struct Try.underlying68 h
  have hl : cs.length = 2 := hl0.trans (by kernel_rfl)
  have hxl : xs.length = 2 := hxl0
  have q9 : Try.prog.cellsOf 9 = 1 := by kernel_rfl
  match cs, hl with
  | [c0, c1], _ =>
    match xs, hxl with
    | [y0, y1], _ =>
      have g0 : DataW.trod enc Try.prog w 0 spare held n' 9 [c0] = some y0 := by have g_ := hf 0 _ rfl; simpa [q9] using g_
      obtain ⟨s0, e0, rfl, b0⟩ := DataW.trod_string Try.underlying9 g0
      obtain rfl := List.singleton_inj.1 e0
      have g1 : DataW.trod enc Try.prog w 0 spare held n' 9 [c1] = some y1 := by have g_ := hf 1 _ rfl; simpa [q9] using g_
      obtain ⟨s1, e1, rfl, b1⟩ := DataW.trod_string Try.underlying9 g1
      obtain rfl := List.singleton_inj.1 e1
      refine ⟨⟨s0, s1⟩, k68_mk w _, trivial, fun hw => ⟨?_, ?_, trivial⟩⟩
      · have := hw s0.data.toList.length (by simp [DataW.weights, Try.underlying68, DataW.weightsEach]); rwa [data_length] at this
      · have := hw s1.data.toList.length (by simp [DataW.weights, Try.underlying68, DataW.weightsEach]); rwa [data_length] at this
end Go.Proofs.Ytahgiblifkchaaa.P
end

section
/- The plain statement of the law FnExactEndToEnd, over numbers, texts and lists; no condition beyond what every row gives. -/
namespace Go.Proofs.Ytahgiblifkchaaa.P
open Go Go.RowKit
set_option linter.unusedVariables false
def laws_FnExactEndToEnd.Pure : Prop := ∀ (l0 : List S68), l0.length * 32 ≤ 140737488351232 → (∀ x ∈ l0, G68 x ∧ Z68 x) → ∃ k : Nat, laws_FnExactEndToEnd.f k l0 = some true
end Go.Proofs.Ytahgiblifkchaaa.P
end

section
/- Plain laws of our own (AllB): about numbers and lists alone; no condition beyond those written. -/
namespace Go.Proofs.Ytahgiblifkchaaa.P
open Go.RowKit Go.Proofs.YtahgiblifkchaaaW.PrintWords Go.Proofs.YtahgiblifkchaaaW.PrintLast Go.Proofs.YtahgiblifkchaaaW.PrintMore
set_option linter.unusedVariables false
set_option linter.unusedSimpArgs false
set_option maxHeartbeats 2000000
/-! ### loops that ask all bytes, or all elements -/
def allB (p : Int → Bool) : Nat → Int → Bool
  | 0, _ => true
  | d + 1, i => p i && allB p d (i + 1)
theorem all_loop (F : Nat → Int → Option Bool) (n : Nat) (p : Int → Bool) (K0 : Nat) (stop : ∀ k (i : Int), (n : Int) ≤ i → F (k + 1) i = some true)
    (step : ∀ k (i : Int), 0 ≤ i → i < n → K0 ≤ k → F (k + 1) i = if p i = true then F k (i + 1) else some false) :
    ∀ (d k : Nat) (i : Int), 0 ≤ i → (n : Int) - i = d → d + K0 < k → F k i = some (allB p d i) := by
  intro d
  induction d with
  | zero =>
    intro k i h0 hd hk
    obtain ⟨k, rfl⟩ : ∃ m, k = m + 1 := ⟨k - 1, by omega⟩
    rw [stop k i (by omega)]
    rfl
  | succ d ih =>
    intro k i h0 hd hk
    obtain ⟨k, rfl⟩ : ∃ m, k = m + 1 := ⟨k - 1, by omega⟩
    rw [step k i h0 (by omega) (by omega), ih k (i + 1) (by omega) (by omega) (by omega)]
    simp only [allB]
    cases p i <;> simp
theorem all_from (F : Nat → Int → Option Bool) (n : Nat) (p : Int → Bool) (K0 : Nat) (stop : ∀ k (i : Int), (n : Int) ≤ i → F (k + 1) i = some true)
    (step : ∀ k (i : Int), 0 ≤ i → i < n → K0 ≤ k → F (k + 1) i = if p i = true then F k (i + 1) else some false) (k : Nat) (hk : n + K0 < k) : F k 0 = some (allB p n 0) :=
  all_loop F n p K0 stop step n k 0 (by omega) (by omega) hk

end Go.Proofs.Ytahgiblifkchaaa.P
end

section
/- Plain laws of our own (Kit): about numbers and lists alone; no condition beyond those written. -/
namespace Go.Proofs.Ytahgiblifkchaaa.P
open Go.RowKit Go.Proofs.YtahgiblifkchaaaW.PrintWords Go.Proofs.YtahgiblifkchaaaW.PrintLast Go.Proofs.YtahgiblifkchaaaW.PrintMore
set_option linter.unusedVariables false
set_option linter.unusedSimpArgs false
set_option maxHeartbeats 2000000
theorem wrap_id {x : Int} (h : -9223372036854775808 ≤ x) (h' : x ≤ 9223372036854775807) : wrap64 x = x := by unfold wrap64; omega
theorem size_extract (s : ByteArray) (a b : Nat) : (s.extract a b).size = min b s.size - a := ByteArray.size_extract
theorem bt_extract (s : ByteArray) (a b : Nat) (i : Int) (h0 : 0 ≤ i) (h1 : i < (b : Int) - a) (h2 : b ≤ s.size) : bt (s.extract a b) i = bt s (a + i) := by
  obtain ⟨n, rfl⟩ := Int.eq_ofNat_of_zero_le h0
  unfold bt
  have e : ((a : Int) + (n : Int)).toNat = a + n := by omega
  rw [e]
  have h3 : n < (s.extract a b).size := by rw [ByteArray.size_extract]; omega
  rw [dif_pos (show ((n : Int)).toNat < (s.extract a b).size by simpa using h3), dif_pos (show a + n < s.size by omega)]
  simp only [Int.toNat_natCast]
  rw [ByteArray.getElem_extract]

end Go.Proofs.Ytahgiblifkchaaa.P
end

section
/- Plain laws of our own (Within): about numbers and lists alone; no condition beyond those written. -/
namespace Go.Proofs.Ytahgiblifkchaaa.P
open Go.RowKit Go.Proofs.YtahgiblifkchaaaW.PrintWords Go.Proofs.YtahgiblifkchaaaW.PrintLast Go.Proofs.YtahgiblifkchaaaW.PrintMore
set_option linter.unusedVariables false
set_option linter.unusedSimpArgs false
set_option maxHeartbeats 2000000
/-! ### within -/
theorem within_eq (a b c : Int) : impl_within.f a b c = some (decide (b ≤ a ∧ a ≤ c)) := by
  unfold impl_within.f
  by_cases h : b ≤ a
  · rw [if_pos h]; simp [h]
  · rw [if_neg h]; simp [h]

end Go.Proofs.Ytahgiblifkchaaa.P
end

section
/- Plain laws of our own (Token): about numbers and lists alone; no condition beyond those written. -/
namespace Go.Proofs.Ytahgiblifkchaaa.P
open Go.RowKit Go.Proofs.YtahgiblifkchaaaW.PrintWords Go.Proofs.YtahgiblifkchaaaW.PrintLast Go.Proofs.YtahgiblifkchaaaW.PrintMore
set_option linter.unusedVariables false
set_option linter.unusedSimpArgs false
set_option maxHeartbeats 2000000
/-! ### tokens and plain texts -/
def tchB (c : Int) : Bool := (impl_isTokenByte.f c).getD false
theorem token_bytes : ∀ n : Fin 256, impl_isTokenByte.f (n.val : Int) = some (tchB (n.val : Int)) ∧ spec_l1tchar.f 20 (n.val : Int) = some (tchB (n.val : Int)) := by decide +kernel
theorem isTokenByte_eq (c : Int) (h0 : 0 ≤ c) (h1 : c ≤ 255) : impl_isTokenByte.f c = some (tchB c) := by
  obtain ⟨n, rfl⟩ := Int.eq_ofNat_of_zero_le h0
  exact (token_bytes ⟨n, by omega⟩).1
theorem tchar_eq (c : Int) (h0 : 0 ≤ c) (h1 : c ≤ 255) (k : Nat) (hk : 20 ≤ k) : spec_l1tchar.f k c = some (tchB c) := by
  obtain ⟨n, rfl⟩ := Int.eq_ofNat_of_zero_le h0
  exact at_rounds (g := fun k => spec_l1tchar.f k (n : Int)) (fun k => spec_l1tchar.mono (n : Int) k) hk (token_bytes ⟨n, by omega⟩).2
def tokB (s : ByteArray) : Bool := decide (1 ≤ s.size ∧ s.size ≤ 4000) && allB (fun i => tchB (bt s i)) s.size 0
theorem impl_Token_eq (s : ByteArray) (k : Nat) (hk : 5000 < k) : impl_Token.f k s = some (tokB s) := by
  unfold impl_Token.f tokB
  rw [within_eq, Option.bind_some]
  by_cases h : 1 ≤ s.size ∧ s.size ≤ 4000
  · rw [if_pos (decide_eq_true (by omega)), decide_eq_true h, Bool.true_and]
    unfold impl_all__impl_isTokenByte.f
    rw [all_from (fun k i => impl_all__impl_isTokenByte.l0 k s i) s.size (fun i => tchB (bt s i)) 0 (fun k i hi => by simp only [impl_all__impl_isTokenByte.l0]; rw [if_neg (by omega)])
      (fun k i h0 h1 _ => by
        have hb := bt_range s i
        simp only [impl_all__impl_isTokenByte.l0]
        rw [if_pos h1, if_pos h0, isTokenByte_eq _ hb.1 hb.2, Option.bind_some, wrap_id (by omega) (by omega)]) k (by omega)]
    rfl
  · rw [if_neg (by simp; omega), decide_eq_false h, Bool.false_and]
theorem spec_Token_eq (s : ByteArray) (k : Nat) (hk : 5000 < k) : spec_Token.f k s = some (tokB s) := by
  obtain ⟨k, rfl⟩ : ∃ m, k = m + 1 := ⟨k - 1, by omega⟩
  unfold spec_Token.f tokB
  by_cases h0 : (s.size : Int) = 0
  · rw [if_pos h0, decide_eq_false (by omega), Bool.false_and]
    simp [spec_Token.j0]
  · rw [if_neg h0]
    simp only [spec_Token.j0]
    by_cases h : 1 ≤ s.size ∧ s.size ≤ 4000
    · rw [if_neg (by simp; omega), decide_eq_true h, Bool.true_and]
      exact all_from (fun k i => spec_Token.l0 k s i) s.size (fun i => tchB (bt s i)) 20 (fun k i hi => by simp only [spec_Token.l0]; rw [if_neg (by omega)])
        (fun k i h0 h1 hk => by
          have hb := bt_range s i
          simp only [spec_Token.l0]
          rw [if_pos h1, if_pos h0, tchar_eq _ hb.1 hb.2 k hk, Option.bind_some, wrap_id (by omega) (by omega)]) k (by omega)
    · rw [if_pos (by simp; omega), decide_eq_false h, Bool.false_and]
def plB (c : Int) : Bool := decide (c = 9) || (decide (32 ≤ c) && decide (c ≠ 127))
theorem isPlain_eq (c : Int) : impl_isPlain.f c = some (plB c) := by
  unfold impl_isPlain.f plB
  by_cases h : c = 9
  · rw [if_pos h]; simp [h]
  · rw [if_neg h]
    by_cases h2 : c ≥ 32
    · rw [if_pos h2]
      by_cases h3 : c = 127 <;> simp [h, h2, h3]
    · rw [if_neg h2]; simp [h, h2]
theorem l1plain_eq (c : Int) : spec_l1plain.f c = some (plB c) := isPlain_eq c
def plainB (s : ByteArray) : Bool := allB (fun i => plB (bt s i)) s.size 0
theorem impl_plain_eq (s : ByteArray) (hs : s.size ≤ 140737488351232) (k : Nat) (hk : s.size < k) : impl_all__impl_isPlain.f k s = some (plainB s) := by
  unfold impl_all__impl_isPlain.f plainB
  exact all_from (fun k i => impl_all__impl_isPlain.l0 k s i) s.size (fun i => plB (bt s i)) 0 (fun k i hi => by simp only [impl_all__impl_isPlain.l0]; rw [if_neg (by omega)])
    (fun k i h0 h1 _ => by
      simp only [impl_all__impl_isPlain.l0]
      rw [if_pos h1, if_pos h0, isPlain_eq, Option.bind_some, wrap_id (by omega) (by omega)]) k (by omega)
theorem spec_plain_eq (s : ByteArray) (hs : s.size ≤ 140737488351232) (k : Nat) (hk : s.size < k) : spec_l5plain.f k s = some (plainB s) := by
  unfold spec_l5plain.f plainB
  exact all_from (fun k i => spec_l5plain.l0 k s i) s.size (fun i => plB (bt s i)) 0 (fun k i hi => by simp only [spec_l5plain.l0]; rw [if_neg (by omega)])
    (fun k i h0 h1 _ => by
      simp only [spec_l5plain.l0]
      rw [if_pos h1, if_pos h0, l1plain_eq, Option.bind_some, wrap_id (by omega) (by omega)]) k (by omega)

end Go.Proofs.Ytahgiblifkchaaa.P
end

section
/- Plain laws of our own (Trim): about numbers and lists alone; no condition beyond those written. -/
namespace Go.Proofs.Ytahgiblifkchaaa.P
open Go.RowKit Go.Proofs.YtahgiblifkchaaaW.PrintWords Go.Proofs.YtahgiblifkchaaaW.PrintLast Go.Proofs.YtahgiblifkchaaaW.PrintMore
set_option linter.unusedVariables false
set_option linter.unusedSimpArgs false
set_option maxHeartbeats 2000000
/-! ### Trim: both leave the same cut of the text -/
theorem toList_nil (s : ByteArray) : s.toList = ([] : List UInt8) ↔ s.size = 0 := by
  rw [ByteArray.toList_eq]
  constructor
  · intro h
    have := congrArg List.length h
    rw [data_length] at this
    simpa using this
  · intro h
    apply List.eq_nil_of_length_eq_zero
    rw [data_length]; exact h
def ws (c : Int) : Bool := decide (c = 32) || decide (c = 9)
theorem isSpace_eq (c : Int) : impl_isSpace.f c = some (ws c) := by
  unfold impl_isSpace.f ws
  by_cases h : c = 32
  · rw [if_pos h]; simp [h]
  · rw [if_neg h]
    by_cases h2 : c = 9 <;> simp [h, h2]
theorem white_eq (c : Int) : spec_l1white.f c = some (ws c) := isSpace_eq c
def lead (s : ByteArray) : Nat → Nat → Nat
  | 0, i => i
  | d + 1, i => if ws (bt s (i : Int)) = true then lead s d (i + 1) else i
def back (s : ByteArray) : Nat → Nat → Nat
  | 0, j => j
  | d + 1, j => if ws (bt s ((j - 1 : Nat) : Int)) = true then back s d (j - 1) else j
theorem lead_le (s : ByteArray) : ∀ d i, i ≤ lead s d i ∧ lead s d i ≤ i + d := by
  intro d
  induction d with
  | zero => intro i; simp [lead]
  | succ d ih =>
    intro i
    simp only [lead]
    split
    · have := ih (i + 1); omega
    · omega
theorem back_le (s : ByteArray) : ∀ d j, back s d j ≤ j ∧ j ≤ back s d j + d := by
  intro d
  induction d with
  | zero => intro i; simp [back]
  | succ d ih =>
    intro j
    simp only [back]
    split
    · have := ih (j - 1); omega
    · omega
def trimS (s : ByteArray) : ByteArray := s.extract (lead s s.size 0) (back s (s.size - lead s s.size 0) s.size)
theorem trimS_size (s : ByteArray) : (trimS s).size ≤ s.size := by
  unfold trimS
  rw [size_extract]
  omega
theorem spec_trim_l1 (s : ByteArray) (hs : s.size ≤ 140737488351232) : ∀ (d k a j : Nat), a ≤ j → j ≤ s.size → j - a = d → d < k → spec_Trim.l1 k s (a : Int) (j : Int) = some (s.extract a (back s d j)) := by
  intro d
  induction d with
  | zero =>
    intro k a j h1 h2 hd hk
    obtain ⟨k, rfl⟩ : ∃ m, k = m + 1 := ⟨k - 1, by omega⟩
    simp only [spec_Trim.l1]
    rw [if_neg (by omega), if_pos (by omega), if_pos (by omega), if_pos (by omega)]
    rfl
  | succ d ih =>
    intro k a j h1 h2 hd hk
    obtain ⟨k, rfl⟩ : ∃ m, k = m + 1 := ⟨k - 1, by omega⟩
    simp only [spec_Trim.l1]
    have hw : wrap64 ((j : Int) - 1) = ((j - 1 : Nat) : Int) := by rw [wrap_id (by omega) (by omega)]; omega
    rw [if_pos (by omega), hw, if_pos (by omega), if_pos (by omega), white_eq, Option.bind_some]
    simp only [back]
    by_cases hb : ws (bt s ((j - 1 : Nat) : Int)) = true
    · rw [if_pos hb, if_pos hb]
      exact ih k a (j - 1) (by omega) (by omega) (by omega) (by omega)
    · rw [if_neg hb, if_neg hb, if_pos (by omega), if_pos (by omega), if_pos (by omega)]
      rfl
theorem spec_trim_l0 (s : ByteArray) (hs : s.size ≤ 140737488351232) : ∀ (d k i : Nat), i ≤ s.size → s.size - i = d → d + s.size + 3 < k → spec_Trim.l0 k s (i : Int) = some (s.extract (lead s d i) (back s (s.size - lead s d i) s.size)) := by
  intro d
  induction d with
  | zero =>
    intro k i h1 hd hk
    obtain ⟨k, rfl⟩ : ∃ m, k = m + 2 := ⟨k - 2, by omega⟩
    simp only [spec_Trim.l0]
    rw [if_neg (by omega)]
    simp only [spec_Trim.j1, lead]
    exact spec_trim_l1 s hs _ k i s.size h1 (Nat.le_refl _) rfl (by omega)
  | succ d ih =>
    intro k i h1 hd hk
    obtain ⟨k, rfl⟩ : ∃ m, k = m + 2 := ⟨k - 2, by omega⟩
    rw [spec_Trim.l0.eq_def]
    have hw : wrap64 ((i : Int) + 1) = ((i + 1 : Nat) : Int) := by rw [wrap_id (by omega) (by omega)]; omega
    dsimp only
    rw [if_pos (by omega), if_pos (by omega), white_eq, Option.bind_some]
    simp only [lead]
    by_cases hb : ws (bt s (i : Int)) = true
    · rw [if_pos hb, if_pos hb, hw]
      exact ih (k + 1) (i + 1) (by omega) (by omega) (by omega)
    · rw [if_neg hb, if_neg hb]
      simp only [spec_Trim.j1]
      exact spec_trim_l1 s hs _ k i s.size h1 (Nat.le_refl _) rfl (by omega)
theorem impl_trim_l1 (s : ByteArray) (hs : s.size ≤ 140737488351232) : ∀ (d k a j : Nat), a ≤ j → j ≤ s.size → j - a = d → d < k → impl_Trim.l1 k (s.extract a j) = some (s.extract a (back s d j)) := by
  intro d
  induction d with
  | zero =>
    intro k a j h1 h2 hd hk
    obtain ⟨k, rfl⟩ : ∃ m, k = m + 1 := ⟨k - 1, by omega⟩
    simp only [impl_Trim.l1]
    rw [if_pos ((toList_nil _).2 (by rw [size_extract]; omega))]
    rfl
  | succ d ih =>
    intro k a j h1 h2 hd hk
    obtain ⟨k, rfl⟩ : ∃ m, k = m + 1 := ⟨k - 1, by omega⟩
    have hz : (s.extract a j).size = d + 1 := by rw [size_extract]; omega
    simp only [impl_Trim.l1]
    have hw : wrap64 (((s.extract a j).size : Int) - 1) = ((d : Nat) : Int) := by rw [hz, wrap_id (by omega) (by omega)]; omega
    have hb0 : bt (s.extract a j) ((d : Nat) : Int) = bt s ((j - 1 : Nat) : Int) := by
      rw [bt_extract s a j _ (by omega) (by omega) h2]
      congr 1; omega
    rw [if_neg (fun h => by have := (toList_nil _).1 h; omega), hw, if_pos (by omega), if_pos (by omega), isSpace_eq, Option.bind_some, Int.toNat_natCast, ByteArray.extract_extract, hb0]
    simp only [back]
    have he : s.extract (a + 0) (min (a + d) j) = s.extract a (j - 1) := by congr 1; omega
    by_cases hb : ws (bt s ((j - 1 : Nat) : Int)) = true
    · rw [if_pos hb, if_pos hb, if_pos (by omega), he]
      exact ih k a (j - 1) (by omega) (by omega) (by omega) (by omega)
    · rw [if_neg hb, if_neg hb]
theorem impl_trim_l0 (s : ByteArray) (hs : s.size ≤ 140737488351232) : ∀ (d k i : Nat), i ≤ s.size → s.size - i = d → d + s.size + 3 < k → impl_Trim.l0 k (s.extract i s.size) = some (s.extract (lead s d i) (back s (s.size - lead s d i) s.size)) := by
  intro d
  induction d with
  | zero =>
    intro k i h1 hd hk
    obtain ⟨k, rfl⟩ : ∃ m, k = m + 2 := ⟨k - 2, by omega⟩
    rw [impl_Trim.l0.eq_def]
    dsimp only
    rw [if_pos ((toList_nil _).2 (by rw [size_extract]; omega))]
    simp only [impl_Trim.j1, lead]
    exact impl_trim_l1 s hs _ k i s.size h1 (Nat.le_refl _) rfl (by omega)
  | succ d ih =>
    intro k i h1 hd hk
    obtain ⟨k, rfl⟩ : ∃ m, k = m + 2 := ⟨k - 2, by omega⟩
    have hz : (s.extract i s.size).size = d + 1 := by rw [size_extract]; omega
    rw [impl_Trim.l0.eq_def]
    dsimp only
    have hb0 : bt (s.extract i s.size) 0 = bt s (i : Int) := by
      rw [bt_extract s i s.size 0 (by omega) (by omega) (Nat.le_refl _)]
      congr 1
    have he : (s.extract i s.size).extract 1 (s.extract i s.size).size = s.extract (i + 1) s.size := by
      rw [ByteArray.extract_extract, hz]; congr 1; omega
    rw [if_neg (fun h => by have := (toList_nil _).1 h; omega), if_pos (by omega), isSpace_eq, Option.bind_some, hb0, he]
    simp only [lead]
    by_cases hb : ws (bt s (i : Int)) = true
    · rw [if_pos hb, if_pos hb, if_pos (by omega)]
      exact ih (k + 1) (i + 1) (by omega) (by omega) (by omega)
    · rw [if_neg hb, if_neg hb]
      simp only [impl_Trim.j1]
      exact impl_trim_l1 s hs _ k i s.size h1 (Nat.le_refl _) rfl (by omega)
theorem spec_Trim_eq (s : ByteArray) (hs : s.size ≤ 140737488351232) (k : Nat) (hk : 2 * s.size + 3 < k) : spec_Trim.f k s = some (trimS s) := by
  unfold spec_Trim.f trimS
  exact spec_trim_l0 s hs s.size k 0 (Nat.zero_le _) (by omega) (by omega)
theorem impl_Trim_eq (s : ByteArray) (hs : s.size ≤ 140737488351232) (k : Nat) (hk : 2 * s.size + 3 < k) : impl_Trim.f k s = some (trimS s) := by
  unfold impl_Trim.f trimS
  have h := impl_trim_l0 s hs s.size k 0 (Nat.zero_le _) (by omega) (by omega)
  rw [ByteArray.extract_zero_size] at h
  exact h

end Go.Proofs.Ytahgiblifkchaaa.P
end

section
/- Plain laws of our own (Fields): about numbers and lists alone; no condition beyond those written. -/
namespace Go.Proofs.Ytahgiblifkchaaa.P
open Go.RowKit Go.Proofs.YtahgiblifkchaaaW.PrintWords Go.Proofs.YtahgiblifkchaaaW.PrintLast Go.Proofs.YtahgiblifkchaaaW.PrintMore
set_option linter.unusedVariables false
set_option linter.unusedSimpArgs false
set_option maxHeartbeats 2000000
/-! ### FieldOk, FieldsOk, SameFold, Values -/
def fieldOkB (n v : ByteArray) : Bool := decide (n.size ≤ 40) && (tokB n && (decide (v.size ≤ 190) && (plainB v && ((trimS v).toList == v.toList))))
theorem impl_FieldOk_eq (n v : ByteArray) (k : Nat) (hk : 5000 < k) : impl_FieldOk.f k n v = some (fieldOkB n v) := by
  unfold impl_FieldOk.f fieldOkB
  rw [impl_Token_eq n k hk, Option.bind_some]
  by_cases h1 : tokB n = true
  · rw [if_pos h1, h1, Bool.true_and]
    by_cases h2 : n.size ≤ 40
    · rw [if_pos (by omega), decide_eq_true h2, Bool.true_and]
      by_cases h3 : v.size ≤ 190
      · rw [if_pos (by omega), decide_eq_true h3, Bool.true_and, impl_plain_eq v (by omega) k (by omega), Option.bind_some]
        by_cases h4 : plainB v = true
        · rw [if_pos h4, h4, Bool.true_and, impl_Trim_eq v (by omega) k (by omega)]; rfl
        · rw [if_neg h4]; simp [h4]
      · rw [if_neg (by omega), decide_eq_false h3, Bool.false_and]
    · rw [if_neg (by omega), decide_eq_false h2, Bool.false_and]
  · rw [if_neg h1]; simp [h1]
theorem spec_FieldOk_eq (n v : ByteArray) (k : Nat) (hk : 5000 < k) : spec_FieldOk.f k n v = some (fieldOkB n v) := by
  unfold spec_FieldOk.f fieldOkB
  by_cases h2 : n.size ≤ 40
  · rw [if_pos (by omega), decide_eq_true h2, Bool.true_and, spec_Token_eq n k hk, Option.bind_some]
    by_cases h1 : tokB n = true
    · rw [if_pos h1, h1, Bool.true_and]
      by_cases h3 : v.size ≤ 190
      · rw [if_pos (by omega), decide_eq_true h3, Bool.true_and, spec_plain_eq v (by omega) k (by omega), Option.bind_some]
        by_cases h4 : plainB v = true
        · rw [if_pos h4, h4, Bool.true_and, spec_Trim_eq v (by omega) k (by omega)]; rfl
        · rw [if_neg h4]; simp [h4]
      · rw [if_neg (by omega), decide_eq_false h3, Bool.false_and]
    · rw [if_neg h1]; simp [h1]
  · rw [if_neg (by omega), decide_eq_false h2, Bool.false_and]
abbrev FieldT := S71
def fieldsOkB (l : List FieldT) : Bool := decide (l.length ≤ 20) && allB (fun i => fieldOkB (rd_T71 l i).f0 (rd_T71 l i).f1) l.length 0
theorem impl_FieldsOk_eq (l : List FieldT) (k : Nat) (hk : 6000 < k) : impl_FieldsOk.f k l = some (fieldsOkB l) := by
  unfold impl_FieldsOk.f fieldsOkB
  by_cases h : l.length ≤ 20
  · rw [if_neg (by omega), decide_eq_true h, Bool.true_and]
    exact all_from (fun k i => impl_FieldsOk.l0 k l (l.length : Int) i) l.length _ 5001 (fun k i hi => by simp only [impl_FieldsOk.l0]; rw [if_neg (by omega)])
      (fun k i h0 h1 hk => by
        simp only [impl_FieldsOk.l0]
        rw [if_pos h1, if_pos h0, if_pos h1, impl_FieldOk_eq _ _ k (by omega), Option.bind_some, wrap_id (by omega) (by omega)]) k (by omega)
  · rw [if_pos (by omega), decide_eq_false h, Bool.false_and]
theorem spec_FieldsOk_eq (l : List FieldT) (k : Nat) (hk : 6000 < k) : spec_FieldsOk.f k l = some (fieldsOkB l) := by
  unfold spec_FieldsOk.f fieldsOkB
  by_cases h : l.length ≤ 20
  · rw [if_neg (by omega), decide_eq_true h, Bool.true_and]
    exact all_from (fun k i => spec_FieldsOk.l0 k l i) l.length _ 5001 (fun k i hi => by simp only [spec_FieldsOk.l0]; rw [if_neg (by omega)])
      (fun k i h0 h1 hk => by
        simp only [spec_FieldsOk.l0]
        rw [if_pos h1, if_pos h0, spec_FieldOk_eq _ _ k (by omega), Option.bind_some, wrap_id (by omega) (by omega)]) k (by omega)
  · rw [if_pos (by omega), decide_eq_false h, Bool.false_and]
theorem fieldsOk_short {l : List FieldT} (h : fieldsOkB l = true) : l.length ≤ 20 := by
  unfold fieldsOkB at h
  have := (Bool.and_eq_true_iff.1 h).1
  exact of_decide_eq_true this
/-- The names of a valid list are short. -/
theorem allB_at {p : Int → Bool} : ∀ (d : Nat) (i : Int), allB p d i = true → ∀ j : Nat, j < d → p (i + j) = true := by
  intro d
  induction d with
  | zero => intro i _ j hj; omega
  | succ d ih =>
    intro i h j hj
    simp only [allB, Bool.and_eq_true] at h
    cases j with
    | zero => simpa using h.1
    | succ j =>
      have := ih (i + 1) h.2 j (by omega)
      rw [show i + ((j + 1 : Nat) : Int) = i + 1 + (j : Int) by omega]
      exact this
theorem fieldsOk_name {l : List FieldT} (h : fieldsOkB l = true) (j : Nat) (hj : j < l.length) : (rd_T71 l (j : Int)).f0.size ≤ 40 ∧ (rd_T71 l (j : Int)).f1.size ≤ 190 := by
  unfold fieldsOkB at h
  have h2 := allB_at _ _ (Bool.and_eq_true_iff.1 h).2 j hj
  rw [Int.zero_add] at h2
  unfold fieldOkB at h2
  simp only [Bool.and_eq_true] at h2
  exact ⟨of_decide_eq_true h2.1, of_decide_eq_true h2.2.2.1⟩
def sameB (a b : ByteArray) : Bool := (foldS a).toList == (foldS b).toList
theorem impl_SameFold_eq (a b : ByteArray) (ha : a.size ≤ 9223372036854775807) (hb : b.size ≤ 9223372036854775807) : impl_SameFold.f a b = some (sameB a b) := by
  unfold impl_SameFold.f impl_Fold.f sameB
  rw [if_pos ha, Option.bind_some, if_pos hb, Option.bind_some]
theorem spec_SameFold_eq (a b : ByteArray) (ha : a.size ≤ 9223372036854775807) (hb : b.size ≤ 9223372036854775807) : spec_SameFold.f a b = some (sameB a b) := by
  unfold spec_SameFold.f spec_Fold.f sameB
  rw [if_pos ha, Option.bind_some, if_pos hb, Option.bind_some]

end Go.Proofs.Ytahgiblifkchaaa.P
end

section
/- Plain laws of our own (Hops): about numbers and lists alone; no condition beyond those written. -/
namespace Go.Proofs.Ytahgiblifkchaaa.P
open Go.RowKit Go.Proofs.YtahgiblifkchaaaW.PrintWords Go.Proofs.YtahgiblifkchaaaW.PrintLast Go.Proofs.YtahgiblifkchaaaW.PrintMore
set_option linter.unusedVariables false
set_option linter.unusedSimpArgs false
set_option maxHeartbeats 2000000
/-! ### ascending lists of texts -/
theorem lt_of_le_ne' {x y : List UInt8} (h : x ≤ y) (hn : x ≠ y) : x < y := by
  by_cases hq : x < y
  · exact hq
  · exact absurd (List.le_antisymm h (List.not_lt.mp hq)) hn
theorem compact_facts (d : Array (List UInt8)) (hs : ∀ j, j + 1 < d.size → d[j]! ≤ d[j + 1]!) : ∀ m, m ≤ d.size →
    (Go.Lib.compactUpTo d m).Pairwise (· < ·) ∧ (∀ x ∈ Go.Lib.compactUpTo d m, x ≤ d[m - 1]!) ∧ (∀ x, x ∈ Go.Lib.compactUpTo d m ↔ ∃ j, j < m ∧ d[j]! = x) := by
  intro m
  induction m with
  | zero =>
    intro _
    have e : Go.Lib.compactUpTo d 0 = [] := rfl
    rw [e]
    exact ⟨List.Pairwise.nil, fun x hx => (by cases hx), fun x => ⟨fun hx => (by cases hx), fun ⟨j, hj, _⟩ => absurd hj (Nat.not_lt_zero _)⟩⟩
  | succ m ih =>
    intro hm
    obtain ⟨i1, i2, i3⟩ := ih (by omega)
    rw [Go.Lib.compactUpTo_succ]
    have hstep : ∀ x ∈ Go.Lib.compactUpTo d m, x ≤ d[m]! := by
      intro x hx
      cases m with
      | zero => have e : Go.Lib.compactUpTo d 0 = [] := rfl
                rw [e] at hx; cases hx
      | succ m => exact List.le_trans (i2 x hx) (hs m (by omega))
    by_cases hk : Go.Lib.keeps d m = true
    · rw [if_pos hk]
      have hne : ∀ x ∈ Go.Lib.compactUpTo d m, x ≠ d[m]! := by
        intro x hx he
        cases m with
        | zero => have e : Go.Lib.compactUpTo d 0 = [] := rfl
                  rw [e] at hx; cases hx
        | succ m =>
          have h1 : x ≤ d[m]! := i2 x hx
          have h2 : d[m]! ≤ d[m + 1]! := hs m (by omega)
          rw [he] at h1
          have h3 : d[m + 1]! = d[m]! := List.le_antisymm h1 h2
          unfold Go.Lib.keeps at hk
          have := of_decide_eq_true hk
          rcases this with h4 | h4
          · omega
          · exact h4 h3
      refine ⟨List.pairwise_append.mpr ⟨i1, List.pairwise_singleton _ _, ?_⟩, ?_, ?_⟩
      · intro a ha b hb
        obtain rfl := List.mem_singleton.mp hb
        exact lt_of_le_ne' (hstep a ha) (hne a ha)
      · intro x hx
        rcases List.mem_append.mp hx with h1 | h1
        · exact hstep x h1
        · obtain rfl := List.mem_singleton.mp h1
          exact List.le_refl _
      · intro x
        rw [List.mem_append, i3 x, List.mem_singleton]
        constructor
        · rintro (⟨j, hj, he⟩ | he)
          · exact ⟨j, by omega, he⟩
          · exact ⟨m, by omega, he.symm⟩
        · rintro ⟨j, hj, he⟩
          by_cases hq : j = m
          · subst hq; exact .inr he.symm
          · exact .inl ⟨j, by omega, he⟩
    · rw [if_neg hk, List.append_nil]
      have hm0 : 0 < m ∧ d[m]! = d[m - 1]! := by
        unfold Go.Lib.keeps at hk
        simp only [decide_eq_true_eq, not_or, Classical.not_not] at hk
        exact ⟨by omega, hk.2⟩
      refine ⟨i1, hstep, ?_⟩
      intro x
      rw [i3 x]
      constructor
      · rintro ⟨j, hj, he⟩
        exact ⟨j, by omega, he⟩
      · rintro ⟨j, hj, he⟩
        by_cases hq : j = m
        · subst hq
          exact ⟨j - 1, by omega, by rw [← hm0.2]; exact he⟩
        · exact ⟨j, by omega, he⟩
theorem sort_pair (l : List (List UInt8)) : (l.mergeSort fun x y => decide (x ≤ y)).Pairwise (· ≤ ·) := by
  have tr : ∀ a b c : List UInt8, decide (a ≤ b) = true → decide (b ≤ c) = true → decide (a ≤ c) = true := fun a b c h1 h2 => by simp only [decide_eq_true_eq] at *; exact List.le_trans h1 h2
  have tot : ∀ a b : List UInt8, (decide (a ≤ b) || decide (b ≤ a)) = true := fun a b => by simp only [Bool.or_eq_true, decide_eq_true_eq]; exact List.le_total a b
  exact (List.pairwise_mergeSort tr tot l).imp (fun h => of_decide_eq_true h)
theorem compact_sorted (l : List (List UInt8)) : (Go.Lib.compact (l.mergeSort fun x y => decide (x ≤ y))).Pairwise (· < ·) ∧ ∀ x, x ∈ Go.Lib.compact (l.mergeSort fun x y => decide (x ≤ y)) ↔ x ∈ l := by
  have hp := sort_pair l
  have hmem : ∀ x, x ∈ (l.mergeSort fun x y => decide (x ≤ y)) ↔ x ∈ l := fun x => (List.mergeSort_perm l _).mem_iff
  generalize (l.mergeSort fun x y => decide (x ≤ y)) = s at hp hmem
  have hg : ∀ j (h : j < s.length), (s.toArray)[j]! = s[j] := fun j h => by rw [getElem!_pos _ j (by simpa using h)]; simp
  have hs : ∀ j, j + 1 < s.toArray.size → (s.toArray)[j]! ≤ (s.toArray)[j + 1]! := by
    intro j hj
    have hj' : j + 1 < s.length := by simpa using hj
    rw [hg j (by omega), hg (j + 1) hj']
    exact List.pairwise_iff_getElem.mp hp j (j + 1) (by omega) hj' (by omega)
  obtain ⟨f1, _, f3⟩ := compact_facts s.toArray hs s.length (by simp)
  refine ⟨f1, fun x => ?_⟩
  rw [← hmem x]
  refine (f3 x).trans ⟨?_, ?_⟩
  · rintro ⟨j, hj, he⟩
    rw [hg j hj] at he
    rw [← he]
    exact List.getElem_mem hj
  · intro hx
    obtain ⟨j, hj, he⟩ := List.getElem_of_mem hx
    exact ⟨j, hj, by rw [hg j hj]; exact he⟩
theorem asc_unique {l l' : List (List UInt8)} (h : l.Pairwise (· < ·)) (h' : l'.Pairwise (· < ·)) (hm : ∀ x, x ∈ l ↔ x ∈ l') : l = l' := by
  have n1 : l.Nodup := h.imp (fun {a b} hab => fun (e : a = b) => List.lt_irrefl b (by rw [e] at hab; exact hab))
  have n2 : l'.Nodup := h'.imp (fun {a b} hab => fun (e : a = b) => List.lt_irrefl b (by rw [e] at hab; exact hab))
  exact List.Perm.eq_of_pairwise (le := fun a b => a < b) (fun a b _ _ h1 h2 => absurd (List.lt_trans h1 h2) (List.lt_irrefl a)) h h' ((List.perm_ext_iff_of_nodup n1 n2).2 hm)
/-! ### the reference's ordered insertion -/
def insB (x : ByteArray) : List ByteArray → List ByteArray
  | [] => [x]
  | y :: r => if x.data.toList < y.data.toList then x :: y :: r else y :: insB x r
def inB (l : List ByteArray) (x : ByteArray) : Bool := l.any fun y => y.data.toList == x.data.toList
def putB (l : List ByteArray) (x : ByteArray) : List ByteArray := if inB l x = true then l else insB x l
def tl (l : List ByteArray) : List (List UInt8) := l.map fun x => x.data.toList
theorem inB_cons (y : ByteArray) (r : List ByteArray) (x : ByteArray) : inB (y :: r) x = (y.data.toList == x.data.toList || inB r x) := rfl
theorem bytes_tl (l : List ByteArray) : bytesL (l.map fun x => x.data.toList) = l := by simp [bytesL, Function.comp_def]
theorem inB_iff (l : List ByteArray) (x : ByteArray) : inB l x = true ↔ x.data.toList ∈ tl l := by
  unfold inB tl
  rw [List.any_eq_true, List.mem_map]
  constructor
  · rintro ⟨y, hy, he⟩; exact ⟨y, hy, beq_iff_eq.mp he⟩
  · rintro ⟨y, hy, he⟩; exact ⟨y, hy, beq_iff_eq.mpr he⟩
theorem insB_mem (x : ByteArray) (z : List UInt8) : ∀ l, z ∈ tl (insB x l) ↔ z = x.data.toList ∨ z ∈ tl l := by
  intro l
  induction l with
  | nil => simp [insB, tl]
  | cons y r ih =>
    simp only [insB]
    split
    · simp [tl]
    · have e : tl (y :: insB x r) = y.data.toList :: tl (insB x r) := rfl
      have e2 : tl (y :: r) = y.data.toList :: tl r := rfl
      rw [e, e2, List.mem_cons, ih, List.mem_cons]
      constructor
      · rintro (h | h | h)
        · exact .inr (.inl h)
        · exact .inl h
        · exact .inr (.inr h)
      · rintro (h | h | h)
        · exact .inr (.inl h)
        · exact .inl h
        · exact .inr (.inr h)
theorem insB_asc (x : ByteArray) : ∀ l, (tl l).Pairwise (· < ·) → x.data.toList ∉ tl l → (tl (insB x l)).Pairwise (· < ·) := by
  intro l
  induction l with
  | nil => intro _ _; simp [insB, tl]
  | cons y r ih =>
    intro h hn
    have e2 : tl (y :: r) = y.data.toList :: tl r := rfl
    rw [e2] at h hn
    obtain ⟨h1, h2⟩ := List.pairwise_cons.mp h
    simp only [insB]
    split
    · rename_i hlt
      show (x.data.toList :: y.data.toList :: tl r).Pairwise (· < ·)
      refine List.pairwise_cons.mpr ⟨?_, h⟩
      intro z hz
      rcases List.mem_cons.mp hz with rfl | hz
      · exact hlt
      · exact List.lt_trans hlt (h1 z hz)
    · rename_i hlt
      show (y.data.toList :: tl (insB x r)).Pairwise (· < ·)
      refine List.pairwise_cons.mpr ⟨?_, ih h2 (fun hz => hn (List.mem_cons_of_mem _ hz))⟩
      intro z hz
      rcases (insB_mem x z r).mp hz with rfl | hz
      · exact lt_of_le_ne' (List.not_lt.mp hlt) (fun e => hn (by rw [← e]; exact List.mem_cons_self ..))
      · exact h1 z hz
theorem putB_asc (l : List ByteArray) (x : ByteArray) (h : (tl l).Pairwise (· < ·)) : (tl (putB l x)).Pairwise (· < ·) := by
  unfold putB
  by_cases hq : inB l x = true
  · rw [if_pos hq]; exact h
  · rw [if_neg hq]; exact insB_asc x l h (fun hz => hq ((inB_iff l x).mpr hz))
theorem putB_mem (l : List ByteArray) (x : ByteArray) (z : List UInt8) : z ∈ tl (putB l x) ↔ z = x.data.toList ∨ z ∈ tl l := by
  unfold putB
  by_cases hq : inB l x = true
  · rw [if_pos hq]
    constructor
    · exact .inr
    · rintro (rfl | h)
      · exact (inB_iff l x).mp hq
      · exact h
  · rw [if_neg hq]; exact insB_mem x z l
theorem insB_length (x : ByteArray) : ∀ l, (insB x l).length = l.length + 1 := by
  intro l
  induction l with
  | nil => rfl
  | cons y r ih => simp only [insB]; split <;> simp [ih]
theorem putB_length (l : List ByteArray) (x : ByteArray) : (putB l x).length ≤ l.length + 1 := by
  unfold putB
  split
  · omega
  · rw [insB_length]; omega
theorem at_drop {l : List ByteArray} {i : Nat} {y : ByteArray} {r : List ByteArray} (h : l.drop i = y :: r) : i < l.length ∧ rdOf ByteArray.empty l (i : Int) = y ∧ l.drop (i + 1) = r := by
  have hi : i < l.length := by
    by_cases hq : i < l.length
    · exact hq
    · rw [List.drop_eq_nil_iff.mpr (by omega)] at h; cases h
  rw [List.drop_eq_getElem_cons hi] at h
  injection h with h2 h3
  refine ⟨hi, ?_, h3⟩
  unfold rdOf
  simp only [Int.toNat_natCast, List.getD_eq_getElem?_getD, List.getElem?_eq_getElem hi, Option.getD_some]
  exact h2
theorem spec_in (l : List ByteArray) (x : ByteArray) (hl : l.length ≤ 100000) : ∀ (r : List ByteArray) (k i : Nat), l.drop i = r → r.length < k → spec_l5in.l0 k l x (i : Int) = some (inB r x) := by
  intro r
  induction r with
  | nil =>
    intro k i h hk
    obtain ⟨k, rfl⟩ : ∃ m, k = m + 1 := ⟨k - 1, by omega⟩
    have hi := List.drop_eq_nil_iff.mp h
    simp only [spec_l5in.l0]
    rw [if_neg (by omega)]
    rfl
  | cons y r ih =>
    intro k i h hk
    obtain ⟨k, rfl⟩ : ∃ m, k = m + 1 := ⟨k - 1, by omega⟩
    obtain ⟨hi, e1, h3⟩ := at_drop h
    have hw : wrap64 ((i : Int) + 1) = ((i + 1 : Nat) : Int) := by rw [wrap_id (by omega) (by omega)]; omega
    simp only [List.length_cons] at hk
    simp only [spec_l5in.l0]
    rw [if_pos (by omega), if_pos (by omega), e1, Go.Lib.toList_data, Go.Lib.toList_data, hw]
    by_cases hq : y.data.toList = x.data.toList
    · rw [if_pos hq, inB_cons, beq_iff_eq.mpr hq]
      rfl
    · rw [if_neg hq, ih k (i + 1) h3 (by omega), inB_cons, beq_eq_false_iff_ne.mpr hq]
      rfl
theorem spec_put_done (l : List ByteArray) (x : ByteArray) (hl : l.length ≤ 100000) : ∀ (r : List ByteArray) (k i : Nat) (out : List ByteArray), l.drop i = r → r.length < k → out.length ≤ i + 5 → spec_l5put.l0 k l x out true (i : Int) = some (out ++ r) := by
  intro r
  induction r with
  | nil =>
    intro k i out h hk ho
    obtain ⟨k, rfl⟩ : ∃ m, k = m + 1 := ⟨k - 1, by omega⟩
    have hi := List.drop_eq_nil_iff.mp h
    rw [spec_l5put.l0.eq_def]
    dsimp only
    rw [if_neg (by omega), if_pos rfl, List.append_nil]
  | cons y r ih =>
    intro k i out h hk ho
    obtain ⟨k, rfl⟩ : ∃ m, k = m + 1 := ⟨k - 1, by omega⟩
    obtain ⟨hi, e1, h3⟩ := at_drop h
    have hw : wrap64 ((i : Int) + 1) = ((i + 1 : Nat) : Int) := by rw [wrap_id (by omega) (by omega)]; omega
    simp only [List.length_cons] at hk
    rw [spec_l5put.l0.eq_def]
    dsimp only
    rw [if_pos (by omega), if_pos rfl, if_pos (by omega), if_pos (by omega), e1, hw, ih k (i + 1) _ h3 (by omega) (by simp; omega)]
    simp
theorem spec_put (l : List ByteArray) (x : ByteArray) (hl : l.length ≤ 100000) : ∀ (r : List ByteArray) (k i : Nat) (out : List ByteArray), l.drop i = r → i ≤ l.length → r.length < k → out.length ≤ i → spec_l5put.l0 k l x out false (i : Int) = some (out ++ insB x r) := by
  intro r
  induction r with
  | nil =>
    intro k i out h hil hk ho
    obtain ⟨k, rfl⟩ : ∃ m, k = m + 1 := ⟨k - 1, by omega⟩
    have hi := List.drop_eq_nil_iff.mp h
    rw [spec_l5put.l0.eq_def]
    dsimp only
    rw [if_neg (by omega), if_neg (by decide), if_pos (by omega)]
    rfl
  | cons y r ih =>
    intro k i out h hil hk ho
    obtain ⟨k, rfl⟩ : ∃ m, k = m + 1 := ⟨k - 1, by omega⟩
    obtain ⟨hi, e1, h3⟩ := at_drop h
    have hw : wrap64 ((i : Int) + 1) = ((i + 1 : Nat) : Int) := by rw [wrap_id (by omega) (by omega)]; omega
    simp only [List.length_cons] at hk
    rw [spec_l5put.l0.eq_def]
    dsimp only
    rw [if_pos (by omega), if_neg (by decide), if_pos (by omega), e1, Go.Proofs.bytesLess_eq, Go.Lib.toList_data, Go.Lib.toList_data, hw]
    by_cases hq : x.data.toList < y.data.toList
    · rw [if_pos (decide_eq_true hq), if_pos (by omega), Option.bind_some, if_pos (by simp; omega), spec_put_done l x hl r k (i + 1) _ h3 (by omega) (by simp; omega)]
      simp [insB, hq]
    · rw [if_neg (by simpa using hq), if_pos (by omega), ih k (i + 1) _ h3 (by omega) (by omega) (by simp; omega)]
      simp [insB, hq]
theorem spec_put_eq (l : List ByteArray) (x : ByteArray) (hl : l.length ≤ 100000) (k : Nat) (hk : l.length < k) : spec_l5put.f k l x = some (putB l x) := by
  unfold spec_l5put.f spec_l5in.f putB
  have h1 := spec_in l x hl l k 0 rfl hk
  have h2 := spec_put l x hl l k 0 [] rfl (Nat.zero_le _) hk (Nat.le_refl _)
  rw [show ((0 : Nat) : Int) = 0 from rfl] at h1 h2
  rw [h1, Option.bind_some, h2]
  by_cases hq : inB l x = true
  · rw [if_pos hq, if_pos hq]
  · rw [if_neg hq, if_neg hq, List.nil_append]
theorem spec_in_eq (l : List ByteArray) (x : ByteArray) (hl : l.length ≤ 100000) (k : Nat) (hk : l.length < k) : spec_l5in.f k l x = some (inB l x) := by
  unfold spec_l5in.f
  exact spec_in l x hl l k 0 rfl hk

end Go.Proofs.Ytahgiblifkchaaa.P
end

section
/- Plain laws of our own (Elements): about numbers and lists alone; no condition beyond those written. -/
namespace Go.Proofs.Ytahgiblifkchaaa.P
open Go.RowKit Go.Proofs.YtahgiblifkchaaaW.PrintWords Go.Proofs.YtahgiblifkchaaaW.PrintLast Go.Proofs.YtahgiblifkchaaaW.PrintMore
set_option linter.unusedVariables false
set_option linter.unusedSimpArgs false
set_option maxHeartbeats 2000000
/-! ### Elements: both find the same elements -/
def fin (s : ByteArray) (out : List ByteArray) (a : Nat) : List ByteArray := addS out (trimS (s.extract a s.size))
def elS (s : ByteArray) : Nat → List ByteArray → Nat → Bool → Nat → List ByteArray
  | 0, out, a, _, _ => fin s out a
  | d + 1, out, a, q, i =>
    if bt s (i : Int) = 34 then elS s d out a (!q) (i + 1)
    else if q = true ∧ bt s (i : Int) = 92 then (match d with | 0 => fin s out a | e + 1 => elS s e out a q (i + 2))
    else if q = false ∧ bt s (i : Int) = 44 then elS s d (addS out (trimS (s.extract a i))) (i + 1) q (i + 1)
    else elS s d out a q (i + 1)
theorem elS_succ (s : ByteArray) (d : Nat) (out : List ByteArray) (a : Nat) (q : Bool) (i : Nat) : elS s (d + 1) out a q i =
    if bt s (i : Int) = 34 then elS s d out a (!q) (i + 1)
    else if q = true ∧ bt s (i : Int) = 92 then (match d with | 0 => fin s out a | e + 1 => elS s e out a q (i + 2))
    else if q = false ∧ bt s (i : Int) = 44 then elS s d (addS out (trimS (s.extract a i))) (i + 1) q (i + 1)
    else elS s d out a q (i + 1) := by
  rw [elS.eq_def]
theorem addS_length (out : List ByteArray) (t : ByteArray) : (addS out t).length ≤ out.length + 1 := by
  unfold addS
  split
  · omega
  · simp
theorem impl_el_end (s : ByteArray) (hs : s.size ≤ 4000) (k : Nat) (hk : 2 * s.size + 3 < k) (out : List ByteArray) (hl : out.length ≤ 5000) (a : Nat) (ha : a ≤ s.size) (q : Bool) (i : Int) (hi : (s.size : Int) ≤ i) :
    impl_Elements.l0 (k + 1) s out (a : Int) q i = some (fin s out a) := by
  have hz : (s.extract a s.size).size ≤ s.size := by rw [size_extract]; omega
  simp only [impl_Elements.l0]
  rw [if_neg (by omega), if_pos (by omega), if_pos (by omega), if_pos (by omega), Int.toNat_natCast, impl_Trim_eq _ (by omega) k (by omega)]
  rfl
theorem impl_el (s : ByteArray) (hs : s.size ≤ 4000) : ∀ (n d : Nat), d ≤ n → ∀ (k : Nat) (out : List ByteArray) (a : Nat) (q : Bool) (i : Nat), i ≤ s.size → s.size - i = d → a ≤ i → out.length ≤ i → d + 2 * s.size + 5 < k →
    impl_Elements.l0 k s out (a : Int) q (i : Int) = some (elS s d out a q i) := by
  intro n
  induction n with
  | zero =>
    intro d hdn k out a q i hi hd ha hl hk
    obtain rfl : d = 0 := by omega
    obtain ⟨k, rfl⟩ : ∃ m, k = m + 1 := ⟨k - 1, by omega⟩
    exact impl_el_end s hs k (by omega) out (by omega) a (by omega) q i (by omega)
  | succ n ih =>
    intro d hdn k out a q i hi hd ha hl hk
    obtain ⟨k, rfl⟩ : ∃ m, k = m + 1 := ⟨k - 1, by omega⟩
    cases d with
    | zero => exact impl_el_end s hs k (by omega) out (by omega) a (by omega) q i (by omega)
    | succ d =>
      have hw : wrap64 ((i : Int) + 1) = ((i + 1 : Nat) : Int) := by rw [wrap_id (by omega) (by omega)]; omega
      have hw2 : wrap64 (((i + 1 : Nat) : Int) + 1) = ((i + 2 : Nat) : Int) := by rw [wrap_id (by omega) (by omega)]; omega
      simp only [impl_Elements.l0]
      rw [elS_succ]
      rw [if_pos (by omega), if_pos (by omega), hw, hw2]
      by_cases c1 : bt s (i : Int) = 34
      · rw [if_pos c1, if_pos c1]
        exact ih d (by omega) k out a (!q) (i + 1) (by omega) (by omega) (by omega) (by omega) (by omega)
      · rw [if_neg c1, if_neg c1]
        by_cases c2 : q = true ∧ bt s (i : Int) = 92
        · rw [if_pos c2, if_pos c2]
          cases d with
          | zero =>
            obtain ⟨k, rfl⟩ : ∃ m, k = m + 1 := ⟨k - 1, by omega⟩
            exact impl_el_end s hs k (by omega) out (by omega) a (by omega) q _ (by omega)
          | succ e => exact ih e (by omega) k out a q (i + 2) (by omega) (by omega) (by omega) (by omega) (by omega)
        · rw [if_neg c2, if_neg c2]
          by_cases c3 : q = false ∧ bt s (i : Int) = 44
          · have hz : (s.extract a i).size ≤ s.size := by rw [size_extract]; omega
            rw [if_pos c3, if_pos c3, if_pos (by omega), if_pos (by omega), if_pos (by omega), Int.toNat_natCast, Int.toNat_natCast, impl_Trim_eq _ (by omega) k (by omega), Option.bind_some]
            exact ih d (by omega) k _ (i + 1) q (i + 1) (by omega) (by omega) (by omega) (by have := addS_length out (trimS (s.extract a i)); omega) (by omega)
          · rw [if_neg c3, if_neg c3]
            exact ih d (by omega) k out a q (i + 1) (by omega) (by omega) (by omega) (by omega) (by omega)
theorem spec_add (s : ByteArray) (k : Nat) (out : List ByteArray) (hl : out.length ≤ 5000) (x : ByteArray) (hx : x.size ≤ 4000) (hk : 2 * x.size + 3 < k) (g : List ByteArray → Option (List ByteArray)) :
    ((spec_Trim.f k x).bind fun t => if (t.size : Int) > 0 then (if out.length < 8796093022208 then g (out ++ [t]) else none) else g out) = g (addS out (trimS x)) := by
  rw [spec_Trim_eq x (by omega) k hk, Option.bind_some]
  unfold addS
  by_cases h : (trimS x).toList = ([] : List UInt8)
  · have := (toList_nil _).1 h
    rw [if_pos h, if_neg (by omega)]
  · have : (trimS x).size ≠ 0 := fun e => h ((toList_nil _).2 e)
    rw [if_neg h, if_pos (by omega), if_pos (by omega)]
theorem spec_el_end (s : ByteArray) (hs : s.size ≤ 4000) (k : Nat) (hk : 2 * s.size + 5 < k) (out : List ByteArray) (hl : out.length ≤ 5000) (a : Nat) (ha : a ≤ s.size) (q : Bool) :
    spec_Elements.l0 (k + 2) s out (a : Int) q (s.size : Int) = some (fin s out a) := by
  have hz : (s.extract a s.size).size ≤ s.size := by rw [size_extract]; omega
  have hw : wrap64 ((s.size : Int) + 1) = ((s.size + 1 : Nat) : Int) := by rw [wrap_id (by omega) (by omega)]; omega
  rw [spec_Elements.l0.eq_def]
  dsimp only
  rw [if_pos (by omega), if_pos rfl, spec_Elements.j1.eq_def]
  dsimp only
  rw [if_pos rfl, if_pos (by omega), if_pos (by omega), if_pos (by omega), Int.toNat_natCast, Int.toNat_natCast, hw]
  rw [spec_add s k out hl (s.extract a s.size) (by omega) (by omega) (fun o => spec_Elements.l0 k s o ((s.size + 1 : Nat) : Int) q ((s.size + 1 : Nat) : Int))]
  obtain ⟨k, rfl⟩ : ∃ m, k = m + 1 := ⟨k - 1, by omega⟩
  rw [spec_Elements.l0.eq_def]
  dsimp only
  rw [if_neg (by omega)]
  rfl
theorem spec_el (s : ByteArray) (hs : s.size ≤ 4000) : ∀ (n d : Nat), d ≤ n → ∀ (k : Nat) (out : List ByteArray) (a : Nat) (q : Bool) (i : Nat), i ≤ s.size → s.size - i = d → a ≤ i → out.length ≤ i → 2 * d + 2 * s.size + 9 < k →
    spec_Elements.l0 k s out (a : Int) q (i : Int) = some (elS s d out a q i) := by
  intro n
  induction n with
  | zero =>
    intro d hdn k out a q i hi hd ha hl hk
    obtain rfl : d = 0 := by omega
    obtain ⟨k, rfl⟩ : ∃ m, k = m + 2 := ⟨k - 2, by omega⟩
    obtain rfl : i = s.size := by omega
    exact spec_el_end s hs k (by omega) out (by omega) a (by omega) q
  | succ n ih =>
    intro d hdn k out a q i hi hd ha hl hk
    obtain ⟨k, rfl⟩ : ∃ m, k = m + 2 := ⟨k - 2, by omega⟩
    cases d with
    | zero =>
      obtain rfl : i = s.size := by omega
      exact spec_el_end s hs k (by omega) out (by omega) a (by omega) q
    | succ d =>
      have hw : wrap64 ((i : Int) + 1) = ((i + 1 : Nat) : Int) := by rw [wrap_id (by omega) (by omega)]; omega
      have hw2 : wrap64 (((i + 1 : Nat) : Int) + 1) = ((i + 2 : Nat) : Int) := by rw [wrap_id (by omega) (by omega)]; omega
      have hno : ∀ (b : Bool), (q = true ∨ bt s (i : Int) ≠ 44) → spec_Elements.j1 (k + 1) s out (a : Int) q (i : Int) false = some (elS s (d + 1) out a q i) := by
        intro b hq
        rw [spec_Elements.j1.eq_def]
        dsimp only
        rw [if_neg (by decide), if_pos (by omega), if_pos (by omega), hw, hw2]
        rw [elS_succ]
        by_cases c1 : bt s (i : Int) = 34
        · rw [if_pos c1, if_pos c1]
          exact ih d (by omega) k out a (!q) (i + 1) (by omega) (by omega) (by omega) (by omega) (by omega)
        · rw [if_neg c1, if_neg c1]
          by_cases c2 : q = true
          · rw [if_pos c2]
            by_cases c3 : bt s (i : Int) = 92
            · rw [if_pos c3, if_pos (show q = true ∧ bt s (i : Int) = 92 from ⟨c2, c3⟩)]
              cases d with
              | zero =>
                rw [if_neg (by omega)]
                obtain ⟨k, rfl⟩ : ∃ m, k = m + 2 := ⟨k - 2, by omega⟩
                have : ((i + 1 : Nat) : Int) = (s.size : Int) := by omega
                rw [this]
                exact spec_el_end s hs k (by omega) out (by omega) a (by omega) q
              | succ e =>
                rw [if_pos (by omega)]
                exact ih e (by omega) k out a q (i + 2) (by omega) (by omega) (by omega) (by omega) (by omega)
            · rw [if_neg c3, if_neg (fun z => c3 z.2), if_neg (fun z => by rw [c2] at z; cases z.1)]
              exact ih d (by omega) k out a q (i + 1) (by omega) (by omega) (by omega) (by omega) (by omega)
          · rw [if_neg c2, if_neg (fun z => c2 z.1), if_neg (fun z => by rcases hq with h | h; exact c2 h; exact h z.2)]
            exact ih d (by omega) k out a q (i + 1) (by omega) (by omega) (by omega) (by omega) (by omega)
      rw [spec_Elements.l0.eq_def]
      dsimp only
      rw [if_pos (by omega), if_neg (by omega)]
      by_cases c2 : q = true
      · rw [if_pos c2]
        exact hno true (.inl c2)
      · rw [if_neg c2, if_pos (by omega), if_pos (by omega)]
        by_cases c3 : bt s (i : Int) = 44
        · have hz : (s.extract a i).size ≤ s.size := by rw [size_extract]; omega
          rw [show ((bt s (i : Int)) == 44) = true from beq_iff_eq.mpr c3, spec_Elements.j1.eq_def]
          dsimp only
          rw [if_pos rfl, if_pos (by omega), if_pos (by omega), if_pos (by omega), Int.toNat_natCast, Int.toNat_natCast, hw]
          rw [spec_add s k out (by omega) (s.extract a i) (by omega) (by omega) (fun o => spec_Elements.l0 k s o ((i + 1 : Nat) : Int) q ((i + 1 : Nat) : Int))]
          rw [elS_succ, if_neg (by omega), if_neg (fun z => c2 z.1), if_pos ⟨by simpa using c2, c3⟩]
          exact ih d (by omega) k _ (i + 1) q (i + 1) (by omega) (by omega) (by omega) (by have := addS_length out (trimS (s.extract a i)); omega) (by omega)
        · rw [show ((bt s (i : Int)) == 44) = false from beq_eq_false_iff_ne.mpr c3]
          exact hno true (.inr c3)
/-- What Elements answers. -/
def elementsOf (s : ByteArray) : List ByteArray := if (s.size : Int) > 4000 then [] else elS s s.size [] 0 false 0
theorem impl_Elements_eq (s : ByteArray) (k : Nat) (hk : 20000 < k) : impl_Elements.f k s = some (elementsOf s) := by
  unfold impl_Elements.f elementsOf
  by_cases h : (s.size : Int) > 4000
  · rw [if_pos h, if_pos h]
  · rw [if_neg h, if_neg h]
    exact impl_el s (by omega) s.size s.size (Nat.le_refl _) k [] 0 false 0 (Nat.zero_le _) (by omega) (Nat.le_refl _) (Nat.le_refl _) (by omega)
theorem spec_Elements_eq (s : ByteArray) (k : Nat) (hk : 20000 < k) : spec_Elements.f k s = some (elementsOf s) := by
  unfold spec_Elements.f elementsOf
  by_cases h : (s.size : Int) > 4000
  · rw [if_pos h, if_pos h]
  · rw [if_neg h, if_neg h]
    exact spec_el s (by omega) s.size s.size (Nat.le_refl _) k [] 0 false 0 (Nat.zero_le _) (by omega) (Nat.le_refl _) (Nat.le_refl _) (by omega)
theorem elS_length (s : ByteArray) : ∀ (n d : Nat), d ≤ n → ∀ (out : List ByteArray) (a : Nat) (q : Bool) (i : Nat), (elS s d out a q i).length ≤ out.length + d + 1 := by
  intro n
  induction n with
  | zero =>
    intro d hdn out a q i
    obtain rfl : d = 0 := by omega
    exact addS_length _ _
  | succ n ih =>
    intro d hdn out a q i
    cases d with
    | zero => exact addS_length _ _
    | succ d =>
      rw [elS_succ]
      split
      · have := ih d (by omega) out a (!q) (i + 1); omega
      · split
        · cases d with
          | zero => have := addS_length out (trimS (s.extract a s.size)); exact Nat.le_trans this (by omega)
          | succ e => have := ih e (by omega) out a q (i + 2); exact Nat.le_trans this (by omega)
        · split
          · have := ih d (by omega) (addS out (trimS (s.extract a i))) (i + 1) q (i + 1)
            have := addS_length out (trimS (s.extract a i))
            omega
          · have := ih d (by omega) out a q (i + 1); omega
theorem elementsOf_length (s : ByteArray) : (elementsOf s).length ≤ 4001 := by
  unfold elementsOf
  by_cases h : (s.size : Int) > 4000
  · rw [if_pos h]; exact Nat.zero_le _
  · rw [if_neg h]
    have := elS_length s s.size s.size (Nat.le_refl _) [] 0 false 0
    simp at this
    omega

end Go.Proofs.Ytahgiblifkchaaa.P
end

section
/- Plain laws of our own (Values): about numbers and lists alone; no condition beyond those written. -/
namespace Go.Proofs.Ytahgiblifkchaaa.P
open Go.RowKit Go.Proofs.YtahgiblifkchaaaW.PrintWords Go.Proofs.YtahgiblifkchaaaW.PrintLast Go.Proofs.YtahgiblifkchaaaW.PrintMore
set_option linter.unusedVariables false
set_option linter.unusedSimpArgs false
set_option maxHeartbeats 2000000
/-! ### Values -/
def valsFrom (l : List FieldT) (a : ByteArray) : Nat → Nat → List ByteArray → List ByteArray
  | 0, _, out => out
  | d + 1, i, out => valsFrom l a d (i + 1) (if sameB (rd_T71 l (i : Int)).f0 a = true then out ++ [(rd_T71 l (i : Int)).f1] else out)
theorem valsFrom_length (l : List FieldT) (a : ByteArray) : ∀ d i out, (valsFrom l a d i out).length ≤ out.length + d := by
  intro d
  induction d with
  | zero => intro i out; simp [valsFrom]
  | succ d ih =>
    intro i out
    simp only [valsFrom]
    split
    · have := ih (i + 1) (out ++ [(rd_T71 l (i : Int)).f1])
      simp at this; omega
    · have := ih (i + 1) out; omega
theorem impl_vals (l : List FieldT) (a : ByteArray) (ha : a.size ≤ 140737488351232) (hok : fieldsOkB l = true) : ∀ (d k i : Nat) (out : List ByteArray), i ≤ l.length → l.length - i = d → out.length ≤ i → d < k →
    impl_Values.l0 k a out l (l.length : Int) (i : Int) = some (valsFrom l a d i out) := by
  have hl := fieldsOk_short hok
  intro d
  induction d with
  | zero =>
    intro k i out h1 hd ho hk
    obtain ⟨k, rfl⟩ : ∃ m, k = m + 1 := ⟨k - 1, by omega⟩
    simp only [impl_Values.l0]
    rw [if_neg (by omega)]
    rfl
  | succ d ih =>
    intro k i out h1 hd ho hk
    obtain ⟨k, rfl⟩ : ∃ m, k = m + 1 := ⟨k - 1, by omega⟩
    have hn := fieldsOk_name hok i (by omega)
    have hw : wrap64 ((i : Int) + 1) = ((i + 1 : Nat) : Int) := by rw [wrap_id (by omega) (by omega)]; omega
    simp only [impl_Values.l0, valsFrom]
    rw [if_pos (by omega), if_pos (by omega), if_pos (by omega), impl_SameFold_eq _ a (by omega) (by omega), Option.bind_some, hw]
    by_cases hb : sameB (rd_T71 l (i : Int)).f0 a = true
    · rw [if_pos hb, if_pos hb, if_pos (by omega)]
      exact ih k (i + 1) _ (by omega) (by omega) (by simp; omega) (by omega)
    · rw [if_neg hb, if_neg hb]
      exact ih k (i + 1) out (by omega) (by omega) (by omega) (by omega)
theorem spec_vals (l : List FieldT) (a : ByteArray) (ha : a.size ≤ 140737488351232) (hok : fieldsOkB l = true) : ∀ (d k i : Nat) (out : List ByteArray), i ≤ l.length → l.length - i = d → out.length ≤ i → d < k →
    spec_Values.l0 k l a out (i : Int) = some (valsFrom l a d i out) := by
  have hl := fieldsOk_short hok
  intro d
  induction d with
  | zero =>
    intro k i out h1 hd ho hk
    obtain ⟨k, rfl⟩ : ∃ m, k = m + 1 := ⟨k - 1, by omega⟩
    simp only [spec_Values.l0]
    rw [if_neg (by omega)]
    rfl
  | succ d ih =>
    intro k i out h1 hd ho hk
    obtain ⟨k, rfl⟩ : ∃ m, k = m + 1 := ⟨k - 1, by omega⟩
    have hn := fieldsOk_name hok i (by omega)
    have hw : wrap64 ((i : Int) + 1) = ((i + 1 : Nat) : Int) := by rw [wrap_id (by omega) (by omega)]; omega
    simp only [spec_Values.l0, valsFrom]
    rw [if_pos (by omega), if_pos (by omega), spec_SameFold_eq _ a (by omega) (by omega), Option.bind_some, hw]
    by_cases hb : sameB (rd_T71 l (i : Int)).f0 a = true
    · rw [if_pos hb, if_pos hb, if_pos (by omega)]
      exact ih k (i + 1) _ (by omega) (by omega) (by simp; omega) (by omega)
    · rw [if_neg hb, if_neg hb]
      exact ih k (i + 1) out (by omega) (by omega) (by omega) (by omega)
def valuesOf (l : List FieldT) (a : ByteArray) : List ByteArray := if fieldsOkB l = true then valsFrom l a l.length 0 [] else []
theorem valuesOf_length (l : List FieldT) (a : ByteArray) : (valuesOf l a).length ≤ 20 := by
  unfold valuesOf
  split
  · rename_i h
    have h1 := fieldsOk_short h
    have h2 := valsFrom_length l a l.length 0 []
    simp at h2; omega
  · exact Nat.zero_le _
theorem impl_Values_eq (l : List FieldT) (a : ByteArray) (ha : a.size ≤ 140737488351232) (k : Nat) (hk : 6000 < k) : impl_Values.f k l a = some (valuesOf l a) := by
  unfold impl_Values.f valuesOf
  rw [impl_FieldsOk_eq l k hk, Option.bind_some]
  by_cases h : fieldsOkB l = true
  · have := fieldsOk_short h
    rw [if_pos h, if_pos h]
    exact impl_vals l a ha h l.length k 0 [] (Nat.zero_le _) (by omega) (Nat.le_refl _) (by omega)
  · rw [if_neg h, if_neg h]
theorem spec_Values_eq (l : List FieldT) (a : ByteArray) (ha : a.size ≤ 140737488351232) (k : Nat) (hk : 6000 < k) : spec_Values.f k l a = some (valuesOf l a) := by
  unfold spec_Values.f valuesOf
  rw [spec_FieldsOk_eq l k hk, Option.bind_some]
  by_cases h : fieldsOkB l = true
  · have := fieldsOk_short h
    rw [if_pos h, if_pos h]
    exact spec_vals l a ha h l.length k 0 [] (Nat.zero_le _) (by omega) (Nat.le_refl _) (by omega)
  · rw [if_neg h, if_neg h]

end Go.Proofs.Ytahgiblifkchaaa.P
end

section
/- Plain laws of our own (Joined): about numbers and lists alone; no condition beyond those written. -/
namespace Go.Proofs.Ytahgiblifkchaaa.P
open Go.RowKit Go.Proofs.YtahgiblifkchaaaW.PrintWords Go.Proofs.YtahgiblifkchaaaW.PrintLast Go.Proofs.YtahgiblifkchaaaW.PrintMore
set_option linter.unusedVariables false
set_option linter.unusedSimpArgs false
set_option maxHeartbeats 2000000
/-! ### Joined -/
def tailB (acc : ByteArray) : List ByteArray → ByteArray
  | [] => acc
  | x :: r => tailB ((acc ++ (⟨#[44, 32]⟩ : ByteArray)) ++ x) r
theorem tailB_toList : ∀ (r : List ByteArray) (acc : ByteArray), (tailB acc r).data.toList = acc.data.toList ++ Go.Lib.joinTail [44, 32] (r.map fun x => x.data.toList) := by
  intro r
  induction r with
  | nil => intro acc; simp [tailB, Go.Lib.joinTail]
  | cons x r ih =>
    intro acc
    simp only [tailB]
    rw [ih]
    simp [Go.Lib.joinTail]
theorem spec_join (vs : List ByteArray) (hn : vs.length ≤ 20) (hs : ∀ x ∈ vs, x.size ≤ 190) : ∀ (r : List ByteArray) (k i : Nat) (acc : ByteArray), vs.drop i = r → 1 ≤ i → acc.size ≤ 200 * i → r.length < k → spec_Joined.l0 k vs acc (i : Int) = some (tailB acc r) := by
  intro r
  induction r with
  | nil =>
    intro k i acc h h1 ha hk
    obtain ⟨k, rfl⟩ : ∃ m, k = m + 1 := ⟨k - 1, by omega⟩
    have hi := List.drop_eq_nil_iff.mp h
    simp only [spec_Joined.l0]
    rw [if_neg (by omega)]
    rfl
  | cons x r ih =>
    intro k i acc h h1 ha hk
    obtain ⟨k, rfl⟩ : ∃ m, k = m + 1 := ⟨k - 1, by omega⟩
    have hi : i < vs.length := by
      by_cases hq : i < vs.length
      · exact hq
      · rw [List.drop_eq_nil_iff.mpr (by omega)] at h; cases h
    rw [List.drop_eq_getElem_cons hi] at h
    injection h with h2 h3
    have hx : x.size ≤ 190 := by rw [← h2]; exact hs _ (List.getElem_mem hi)
    have e1 : rdOf ByteArray.empty vs (i : Int) = x := by
      unfold rdOf
      simp only [Int.toNat_natCast, List.getD_eq_getElem?_getD, List.getElem?_eq_getElem hi, Option.getD_some]
      exact h2
    have hw : wrap64 ((i : Int) + 1) = ((i + 1 : Nat) : Int) := by rw [wrap_id (by omega) (by omega)]; omega
    have s2 : (acc ++ (⟨#[44, 32]⟩ : ByteArray)).size = acc.size + 2 := by rw [ByteArray.size_append]; rfl
    have s3 : ((acc ++ (⟨#[44, 32]⟩ : ByteArray)) ++ x).size = acc.size + 2 + x.size := by rw [ByteArray.size_append, s2]
    simp only [spec_Joined.l0, tailB]
    rw [if_pos (by omega), if_pos (by omega), if_pos (by omega), if_pos (by omega), e1, if_pos (by omega), hw]
    simp only [List.length_cons] at hk
    exact ih k (i + 1) _ h3 (by omega) (by omega) (by omega)
theorem joinB_eq {x : ByteArray} {r : List ByteArray} {acc : ByteArray} (h : acc.data.toList = x.data.toList) : tailB acc r = ⟨(joinL (x :: r)).toArray⟩ := by
  have e : (tailB acc r).data.toList = joinL (x :: r) := by
    rw [tailB_toList, h]
    unfold joinL
    rw [List.map_cons, Go.Lib.join_cons]
  have e2 : (tailB acc r).data = (joinL (x :: r)).toArray := by
    rw [← e, Array.toArray_toList]
  rw [← e2]
theorem spec_join0 (vs : List ByteArray) (hn : vs.length ≤ 20) (hs : ∀ x ∈ vs, x.size ≤ 190) (k : Nat) (hk : 100 < k) : spec_Joined.l0 k vs (⟨#[]⟩ : ByteArray) 0 = some ⟨(joinL vs).toArray⟩ := by
  obtain ⟨k, rfl⟩ : ∃ m, k = m + 1 := ⟨k - 1, by omega⟩
  rw [spec_Joined.l0.eq_def]
  dsimp only
  cases vs with
  | nil => rw [if_neg (by simp)]; rfl
  | cons x r =>
    have hx : x.size ≤ 190 := hs x (List.mem_cons_self ..)
    have e1 : rdOf ByteArray.empty (x :: r) 0 = x := rfl
    have hw : wrap64 ((0 : Int) + 1) = ((1 : Nat) : Int) := by rw [wrap_id (by omega) (by omega)]; omega
    have s0 : (⟨#[]⟩ : ByteArray).size = 0 := rfl
    have s3 : ((⟨#[]⟩ : ByteArray) ++ x).size = x.size := by rw [ByteArray.size_append, s0]; omega
    simp only [List.length_cons] at hn
    rw [if_pos (by simp only [List.length_cons]; omega), if_neg (by omega), if_pos (by omega), e1, if_pos (by omega), hw, spec_join (x :: r) (by simp only [List.length_cons]; omega) hs r k 1 _ rfl (Nat.le_refl _) (by omega) (by omega)]
    rw [joinB_eq (x := x) (by simp)]
theorem valsFrom_small (l : List FieldT) (a : ByteArray) (hok : fieldsOkB l = true) : ∀ d i out, i + d ≤ l.length → (∀ x ∈ out, x.size ≤ 190) → ∀ x ∈ valsFrom l a d i out, x.size ≤ 190 := by
  intro d
  induction d with
  | zero => intro i out _ h; exact h
  | succ d ih =>
    intro i out hi h
    simp only [valsFrom]
    refine ih (i + 1) _ (by omega) ?_
    split
    · intro x hx
      rcases List.mem_append.mp hx with h1 | h1
      · exact h x h1
      · obtain rfl := List.mem_singleton.mp h1
        exact (fieldsOk_name hok i (by omega)).2
    · exact h
theorem valuesOf_small (l : List FieldT) (a : ByteArray) : ∀ x ∈ valuesOf l a, x.size ≤ 190 := by
  unfold valuesOf
  split
  · rename_i h
    exact valsFrom_small l a h l.length 0 [] (by omega) (fun x hx => by cases hx)
  · intro x hx; cases hx
theorem lens_small : ∀ (vs : List ByteArray), (∀ x ∈ vs, x.size ≤ 190) → Go.Lib.lens (vs.map fun x => x.data.toList) ≤ 190 * vs.length := by
  intro vs
  induction vs with
  | nil => intro _; simp [Go.Lib.lens]
  | cons x r ih =>
    intro h
    have h1 := h x (List.mem_cons_self ..)
    have h2 := ih (fun y hy => h y (List.mem_cons_of_mem _ hy))
    have h3 : x.data.toList.length = x.size := by rw [Array.length_toList]; rfl
    simp only [Go.Lib.lens, List.map_cons, List.sum_cons, List.length_cons] at h2 ⊢
    omega
theorem joinL_length (vs : List ByteArray) (hn : vs.length ≤ 20) (hs : ∀ x ∈ vs, x.size ≤ 190) : (joinL vs).length ≤ 5000 := by
  unfold joinL
  cases vs with
  | nil => simp [Go.Lib.join_nil]
  | cons x r =>
    have h := lens_small (x :: r) hs
    simp only [List.map_cons] at h ⊢
    rw [Go.Lib.join_length]
    simp only [List.length_cons, List.length_nil, List.length_map] at h hn ⊢
    omega
def joinedOf (l : List FieldT) (a : ByteArray) : ByteArray := ⟨(joinL (valuesOf l a)).toArray⟩
theorem impl_Joined_eq (l : List FieldT) (a : ByteArray) (ha : a.size ≤ 140737488351232) (k : Nat) (hk : 6000 < k) : impl_Joined.f k l a = some (joinedOf l a) := by
  have h1 := valuesOf_length l a
  have h2 := joinL_length (valuesOf l a) h1 (valuesOf_small l a)
  unfold impl_Joined.f joinedOf
  rw [impl_Values_eq l a ha k hk, Option.bind_some, if_pos ⟨by omega, by omega⟩]
theorem spec_Joined_eq (l : List FieldT) (a : ByteArray) (ha : a.size ≤ 140737488351232) (k : Nat) (hk : 6000 < k) : spec_Joined.f k l a = some (joinedOf l a) := by
  unfold spec_Joined.f joinedOf
  rw [spec_Values_eq l a ha k hk, Option.bind_some]
  exact spec_join0 _ (valuesOf_length l a) (valuesOf_small l a) k (by omega)

end Go.Proofs.Ytahgiblifkchaaa.P
end

section
/- Plain laws of our own (Words): about numbers and lists alone; no condition beyond those written. -/
namespace Go.Proofs.Ytahgiblifkchaaa.P
open Go.RowKit Go.Proofs.YtahgiblifkchaaaW.PrintWords Go.Proofs.YtahgiblifkchaaaW.PrintLast Go.Proofs.YtahgiblifkchaaaW.PrintMore
set_option linter.unusedVariables false
set_option linter.unusedSimpArgs false
set_option maxHeartbeats 2000000
/-! ### Words -/
def wordsOf (l : List FieldT) (a : ByteArray) : List ByteArray := elementsOf (joinedOf l a)
theorem wordsOf_length (l : List FieldT) (a : ByteArray) : (wordsOf l a).length ≤ 4001 := elementsOf_length _
theorem impl_Words_eq (l : List FieldT) (a : ByteArray) (ha : a.size ≤ 140737488351232) (k : Nat) (hk : 20000 < k) : impl_Words.f k l a = some (wordsOf l a) := by
  unfold impl_Words.f wordsOf
  rw [impl_Joined_eq l a ha k (by omega), Option.bind_some, impl_Elements_eq _ k hk, Option.bind_some]
theorem spec_Words_eq (l : List FieldT) (a : ByteArray) (ha : a.size ≤ 140737488351232) (k : Nat) (hk : 20000 < k) : spec_Words.f k l a = some (wordsOf l a) := by
  unfold spec_Words.f wordsOf
  rw [spec_Joined_eq l a ha k (by omega), Option.bind_some, spec_Elements_eq _ k hk, Option.bind_some]

end Go.Proofs.Ytahgiblifkchaaa.P
end

section
/- Plain laws of our own (HopNames): about numbers and lists alone; no condition beyond those written. -/
namespace Go.Proofs.Ytahgiblifkchaaa.P
open Go.RowKit Go.Proofs.YtahgiblifkchaaaW.PrintWords Go.Proofs.YtahgiblifkchaaaW.PrintLast Go.Proofs.YtahgiblifkchaaaW.PrintMore
set_option linter.unusedVariables false
set_option linter.unusedSimpArgs false
set_option maxHeartbeats 2000000
/-! ### HopNames -/
def hopS (sp : List ByteArray) : List ByteArray → List ByteArray
  | [] => sp
  | w :: r => hopS (if tokB w = true then putB sp (foldS w) else sp) r
def hopI (out : List ByteArray) : List ByteArray → List ByteArray
  | [] => out
  | w :: r => hopI (if tokB w = true then out ++ [foldS w] else out) r
theorem tok_size {w : ByteArray} (h : tokB w = true) : w.size ≤ 4000 := by
  unfold tokB at h
  exact (of_decide_eq_true (Bool.and_eq_true_iff.1 h).1).2
theorem hopS_length : ∀ (r sp : List ByteArray), (hopS sp r).length ≤ sp.length + r.length := by
  intro r
  induction r with
  | nil => intro sp; exact Nat.le_refl _
  | cons w r ih =>
    intro sp
    simp only [hopS, List.length_cons]
    split
    · have h1 := ih (putB sp (foldS w)); have h2 := putB_length sp (foldS w); omega
    · have h1 := ih sp; omega
theorem hopI_length : ∀ (r out : List ByteArray), (hopI out r).length ≤ out.length + r.length := by
  intro r
  induction r with
  | nil => intro sp; exact Nat.le_refl _
  | cons w r ih =>
    intro out
    simp only [hopI, List.length_cons]
    split
    · have h1 := ih (out ++ [foldS w]); simp at h1; omega
    · have h1 := ih out; omega
theorem hop_same : ∀ (r sp out : List ByteArray), (tl sp).Pairwise (· < ·) → (∀ z, z ∈ tl sp ↔ z ∈ tl out) → (tl (hopS sp r)).Pairwise (· < ·) ∧ ∀ z, z ∈ tl (hopS sp r) ↔ z ∈ tl (hopI out r) := by
  intro r
  induction r with
  | nil => intro sp out h1 h2; exact ⟨h1, h2⟩
  | cons w r ih =>
    intro sp out h1 h2
    simp only [hopS, hopI]
    by_cases hq : tokB w = true
    · rw [if_pos hq, if_pos hq]
      refine ih _ _ (putB_asc _ _ h1) (fun z => ?_)
      rw [putB_mem, h2 z]
      have e : tl (out ++ [foldS w]) = tl out ++ [(foldS w).data.toList] := by simp [tl]
      rw [e, List.mem_append, List.mem_singleton]
      exact Or.comm
    · rw [if_neg hq, if_neg hq]
      exact ih _ _ h1 h2
theorem hop0_asc : (tl hop0).Pairwise (· < ·) := by decide +kernel
theorem hop_final (ws : List ByteArray) : bytesL (Go.Lib.compact (sortL (hopI hop0 ws))) = hopS hop0 ws := by
  obtain ⟨h1, h2⟩ := hop_same ws hop0 hop0 hop0_asc (fun _ => Iff.rfl)
  obtain ⟨c1, c2⟩ := compact_sorted (tl (hopI hop0 ws))
  have e : Go.Lib.compact (sortL (hopI hop0 ws)) = tl (hopS hop0 ws) := asc_unique c1 h1 (fun z => (c2 z).trans (h2 z).symm)
  rw [e]
  exact bytes_tl _
theorem impl_hops (ws : List ByteArray) (hl : ws.length ≤ 5000) : ∀ (r : List ByteArray) (k i : Nat) (out : List ByteArray), ws.drop i = r → i ≤ ws.length → r.length + 5001 < k → out.length ≤ i + 7 → hopL k ws out (i : Int) = some (hopI out r) := by
  intro r
  induction r with
  | nil =>
    intro k i out h hil hk ho
    obtain ⟨k, rfl⟩ : ∃ m, k = m + 1 := ⟨k - 1, by omega⟩
    have hi := List.drop_eq_nil_iff.mp h
    simp only [hopL]
    rw [if_neg (by omega)]
    rfl
  | cons w r ih =>
    intro k i out h hil hk ho
    obtain ⟨k, rfl⟩ : ∃ m, k = m + 1 := ⟨k - 1, by omega⟩
    obtain ⟨hi, e1, h3⟩ := at_drop h
    have hw : wrap64 ((i : Int) + 1) = ((i + 1 : Nat) : Int) := by rw [wrap_id (by omega) (by omega)]; omega
    simp only [List.length_cons] at hk
    simp only [hopL, hopI]
    rw [if_pos (by omega), if_pos (by omega), e1, impl_Token_eq w k (by omega), Option.bind_some, hw]
    by_cases hq : tokB w = true
    · have hs := tok_size hq
      unfold impl_Fold.f
      rw [if_pos hq, if_pos hq, if_pos (by omega), Option.bind_some, if_pos (by omega)]
      exact ih k (i + 1) _ h3 (by omega) (by omega) (by simp; omega)
    · rw [if_neg hq, if_neg hq]
      exact ih k (i + 1) _ h3 (by omega) (by omega) (by omega)
theorem spec_hops (ws : List ByteArray) (hl : ws.length ≤ 5000) : ∀ (r : List ByteArray) (k i : Nat) (sp : List ByteArray), ws.drop i = r → i ≤ ws.length → r.length + 6001 < k → sp.length ≤ i + 7 → spec_HopNames.l0 k sp ws (i : Int) = some (hopS sp r) := by
  intro r
  induction r with
  | nil =>
    intro k i sp h hil hk ho
    obtain ⟨k, rfl⟩ : ∃ m, k = m + 1 := ⟨k - 1, by omega⟩
    have hi := List.drop_eq_nil_iff.mp h
    simp only [spec_HopNames.l0]
    rw [if_neg (by omega)]
    rfl
  | cons w r ih =>
    intro k i sp h hil hk ho
    obtain ⟨k, rfl⟩ : ∃ m, k = m + 1 := ⟨k - 1, by omega⟩
    obtain ⟨hi, e1, h3⟩ := at_drop h
    have hw : wrap64 ((i : Int) + 1) = ((i + 1 : Nat) : Int) := by rw [wrap_id (by omega) (by omega)]; omega
    simp only [List.length_cons] at hk
    simp only [spec_HopNames.l0, hopS]
    rw [if_pos (by omega), if_pos (by omega), e1, spec_Token_eq w k (by omega), Option.bind_some, hw]
    by_cases hq : tokB w = true
    · have hs := tok_size hq
      have hp := putB_length sp (foldS w)
      unfold spec_Fold.f
      rw [if_pos hq, if_pos hq, if_pos (by omega), Option.bind_some, spec_put_eq sp _ (by omega) k (by omega), Option.bind_some]
      exact ih k (i + 1) _ h3 (by omega) (by omega) (by omega)
    · rw [if_neg hq, if_neg hq]
      exact ih k (i + 1) _ h3 (by omega) (by omega) (by omega)
def hopsOf (l : List FieldT) : List ByteArray := if fieldsOkB l = true then hopS hop0 (wordsOf l (⟨#[99, 111, 110, 110, 101, 99, 116, 105, 111, 110]⟩ : ByteArray)) else []
theorem hopsOf_length (l : List FieldT) : (hopsOf l).length ≤ 4008 := by
  unfold hopsOf
  split
  · have h1 := hopS_length (wordsOf l (⟨#[99, 111, 110, 110, 101, 99, 116, 105, 111, 110]⟩ : ByteArray)) hop0
    have h2 := wordsOf_length l (⟨#[99, 111, 110, 110, 101, 99, 116, 105, 111, 110]⟩ : ByteArray)
    have h3 : hop0.length = 7 := rfl
    omega
  · exact Nat.zero_le _
theorem impl_HopNames_eq (l : List FieldT) (k : Nat) (hk : 25000 < k) : impl_HopNames.f k l = some (hopsOf l) := by
  unfold impl_HopNames.f hopsOf
  rw [impl_FieldsOk_eq l k (by omega), Option.bind_some]
  by_cases h : fieldsOkB l = true
  · have h2 := wordsOf_length l (⟨#[99, 111, 110, 110, 101, 99, 116, 105, 111, 110]⟩ : ByteArray)
    have h3 := hopI_length (wordsOf l (⟨#[99, 111, 110, 110, 101, 99, 116, 105, 111, 110]⟩ : ByteArray)) hop0
    have h4 : hop0.length = 7 := rfl
    have e := impl_hops (wordsOf l (⟨#[99, 111, 110, 110, 101, 99, 116, 105, 111, 110]⟩ : ByteArray)) (by omega) (wordsOf l (⟨#[99, 111, 110, 110, 101, 99, 116, 105, 111, 110]⟩ : ByteArray)) k 0 hop0 rfl (Nat.zero_le _) (by omega) (by omega)
    rw [show ((0 : Nat) : Int) = 0 from rfl] at e
    rw [if_pos h, if_pos h, impl_Words_eq l (⟨#[99, 111, 110, 110, 101, 99, 116, 105, 111, 110]⟩ : ByteArray) (by decide) k (by omega), Option.bind_some, e, Option.bind_some, if_pos (by omega), hop_final]
  · rw [if_neg h, if_neg h]
theorem spec_HopNames_eq (l : List FieldT) (k : Nat) (hk : 25000 < k) : spec_HopNames.f k l = some (hopsOf l) := by
  unfold spec_HopNames.f hopsOf
  rw [spec_FieldsOk_eq l k (by omega), Option.bind_some]
  by_cases h : fieldsOkB l = true
  · have h2 := wordsOf_length l (⟨#[99, 111, 110, 110, 101, 99, 116, 105, 111, 110]⟩ : ByteArray)
    have h4 : hop0.length = 7 := rfl
    have e := spec_hops (wordsOf l (⟨#[99, 111, 110, 110, 101, 99, 116, 105, 111, 110]⟩ : ByteArray)) (by omega) (wordsOf l (⟨#[99, 111, 110, 110, 101, 99, 116, 105, 111, 110]⟩ : ByteArray)) k 0 hop0 rfl (Nat.zero_le _) (by omega) (by omega)
    rw [show ((0 : Nat) : Int) = 0 from rfl] at e
    rw [if_pos h, if_pos h, spec_Words_eq l (⟨#[99, 111, 110, 110, 101, 99, 116, 105, 111, 110]⟩ : ByteArray) (by decide) k (by omega), Option.bind_some]
    exact e
  · rw [if_neg h, if_neg h]

end Go.Proofs.Ytahgiblifkchaaa.P
end

section
/- Plain laws of our own (EndToEnd): about numbers and lists alone; no condition beyond those written. -/
namespace Go.Proofs.Ytahgiblifkchaaa.P
open Go.RowKit Go.Proofs.YtahgiblifkchaaaW.PrintWords Go.Proofs.YtahgiblifkchaaaW.PrintLast Go.Proofs.YtahgiblifkchaaaW.PrintMore
set_option linter.unusedVariables false
set_option linter.unusedSimpArgs false
set_option maxHeartbeats 2000000
/-! ### EndToEnd -/
theorem contains_in (l : List ByteArray) (x : ByteArray) : Go.Lib.containsS l x = inB l x := by
  have h : Go.Lib.containsS l x = true ↔ inB l x = true := by
    rw [Go.Lib.containsS_iff, inB_iff]
    unfold tl
    rw [List.mem_map]
    constructor
    · intro h; exact ⟨x, h, rfl⟩
    · rintro ⟨y, hy, he⟩
      have e : y = x := Go.WideShapes.bytes_inj he
      rw [← e]; exact hy
  exact Bool.eq_iff_iff.mpr h
theorem hopS_ge : ∀ (r sp : List ByteArray), sp.length ≤ (hopS sp r).length := by
  intro r
  induction r with
  | nil => intro sp; exact Nat.le_refl _
  | cons w r ih =>
    intro sp
    simp only [hopS]
    split
    · refine Nat.le_trans ?_ (ih _)
      unfold putB
      split
      · exact Nat.le_refl _
      · rw [insB_length]; omega
    · exact ih sp
def endFrom (l : List FieldT) (hops : List ByteArray) : Nat → Nat → List FieldT → List FieldT
  | 0, _, out => out
  | d + 1, i, out => endFrom l hops d (i + 1) (if inB hops (foldS (rd_T71 l (i : Int)).f0) = true then out else out ++ [rd_T71 l (i : Int)])
theorem endFrom_length (l : List FieldT) (hops : List ByteArray) : ∀ d i out, (endFrom l hops d i out).length ≤ out.length + d := by
  intro d
  induction d with
  | zero => intro i out; simp [endFrom]
  | succ d ih =>
    intro i out
    simp only [endFrom]
    split
    · have := ih (i + 1) out; omega
    · have := ih (i + 1) (out ++ [rd_T71 l (i : Int)])
      simp at this; omega
theorem impl_end (l : List FieldT) (hops : List ByteArray) (hok : fieldsOkB l = true) : ∀ (d k i : Nat) (out : List FieldT), i ≤ l.length → l.length - i = d → out.length ≤ i → d < k →
    keptL (fun x => (impl_Fold.f x).bind fun t => some (!(Go.Lib.containsS hops t))) k l out (i : Int) = some (endFrom l hops d i out) := by
  have hl := fieldsOk_short hok
  intro d
  induction d with
  | zero =>
    intro k i out h1 hd ho hk
    obtain ⟨k, rfl⟩ : ∃ m, k = m + 1 := ⟨k - 1, by omega⟩
    simp only [keptL]
    rw [if_neg (by omega)]
    rfl
  | succ d ih =>
    intro k i out h1 hd ho hk
    obtain ⟨k, rfl⟩ : ∃ m, k = m + 1 := ⟨k - 1, by omega⟩
    have hn := fieldsOk_name hok i (by omega)
    have hw : wrap64 ((i : Int) + 1) = ((i + 1 : Nat) : Int) := by rw [wrap_id (by omega) (by omega)]; omega
    have hf : impl_Fold.f (rd_T71 l (i : Int)).f0 = some (foldS (rd_T71 l (i : Int)).f0) := by unfold impl_Fold.f; rw [if_pos (by omega)]
    simp only [keptL, endFrom]
    rw [if_pos (by omega), if_pos (by omega), hf, Option.bind_some, Option.bind_some, contains_in, hw]
    by_cases hb : inB hops (foldS (rd_T71 l (i : Int)).f0) = true
    · rw [hb, if_neg (by decide), if_pos rfl]
      exact ih k (i + 1) out (by omega) (by omega) (by omega) (by omega)
    · have hb' : inB hops (foldS (rd_T71 l (i : Int)).f0) = false := by simpa using hb
      rw [hb', if_pos (by decide), if_pos (by omega), if_neg (by decide)]
      exact ih k (i + 1) _ (by omega) (by omega) (by simp; omega) (by omega)
theorem spec_end (l : List FieldT) (hops : List ByteArray) (hh : hops.length ≤ 5000) (hok : fieldsOkB l = true) : ∀ (d k i : Nat) (out : List FieldT), i ≤ l.length → l.length - i = d → out.length ≤ i → d + 5001 < k →
    spec_EndToEnd.l0 k l out hops (i : Int) = some (endFrom l hops d i out) := by
  have hl := fieldsOk_short hok
  intro d
  induction d with
  | zero =>
    intro k i out h1 hd ho hk
    obtain ⟨k, rfl⟩ : ∃ m, k = m + 1 := ⟨k - 1, by omega⟩
    simp only [spec_EndToEnd.l0]
    rw [if_neg (by omega)]
    rfl
  | succ d ih =>
    intro k i out h1 hd ho hk
    obtain ⟨k, rfl⟩ : ∃ m, k = m + 1 := ⟨k - 1, by omega⟩
    have hn := fieldsOk_name hok i (by omega)
    have hw : wrap64 ((i : Int) + 1) = ((i + 1 : Nat) : Int) := by rw [wrap_id (by omega) (by omega)]; omega
    have hf : spec_Fold.f (rd_T71 l (i : Int)).f0 = some (foldS (rd_T71 l (i : Int)).f0) := by unfold spec_Fold.f; rw [if_pos (by omega)]
    simp only [spec_EndToEnd.l0, endFrom]
    rw [if_pos (by omega), if_pos (by omega), hf, Option.bind_some, spec_in_eq hops _ (by omega) k (by omega), Option.bind_some, hw]
    by_cases hb : inB hops (foldS (rd_T71 l (i : Int)).f0) = true
    · rw [if_pos hb, if_pos hb]
      exact ih k (i + 1) out (by omega) (by omega) (by omega) (by omega)
    · rw [if_neg hb, if_neg hb, if_pos (by omega)]
      exact ih k (i + 1) _ (by omega) (by omega) (by simp; omega) (by omega)
def endOf (l : List FieldT) : List FieldT := if fieldsOkB l = true then endFrom l (hopsOf l) l.length 0 [] else []
theorem endOf_length (l : List FieldT) : (endOf l).length ≤ 20 := by
  unfold endOf
  split
  · rename_i h
    have h1 := fieldsOk_short h
    have h2 := endFrom_length l (hopsOf l) l.length 0 []
    simp at h2; omega
  · exact Nat.zero_le _
theorem impl_EndToEnd_eq (l : List FieldT) (k : Nat) (hk : 25000 < k) : impl_EndToEnd.f k l = some (endOf l) := by
  have hh := hopsOf_length l
  unfold impl_EndToEnd.f keptF endOf
  rw [impl_HopNames_eq l k hk, Option.bind_some, if_pos (by omega), impl_FieldsOk_eq l k (by omega), Option.bind_some]
  by_cases h : fieldsOkB l = true
  · have := fieldsOk_short h
    rw [if_pos h, if_pos h]
    exact impl_end l _ h l.length k 0 [] (Nat.zero_le _) (by omega) (Nat.le_refl _) (by omega)
  · rw [if_neg h, if_neg h]
theorem spec_EndToEnd_eq (l : List FieldT) (k : Nat) (hk : 25000 < k) : spec_EndToEnd.f k l = some (endOf l) := by
  have hh := hopsOf_length l
  unfold spec_EndToEnd.f endOf
  rw [spec_HopNames_eq l k hk, Option.bind_some]
  by_cases h : fieldsOkB l = true
  · have h0 := fieldsOk_short h
    have h7 : 7 ≤ (hopsOf l).length := by
      unfold hopsOf
      rw [if_pos h]
      exact hopS_ge _ hop0
    rw [if_neg (by omega), if_pos h]
    exact spec_end l _ (by omega) h l.length k 0 [] (Nat.zero_le _) (by omega) (Nat.le_refl _) (by omega)
  · have h0 : hopsOf l = [] := by unfold hopsOf; rw [if_neg h]
    rw [h0, if_pos (show (([] : List ByteArray).length : Int) = 0 from rfl), if_neg h]

end Go.Proofs.Ytahgiblifkchaaa.P
end

section
/- Plain laws of our own (MarkText): about numbers and lists alone; no condition beyond those written. -/
namespace Go.Proofs.Ytahgiblifkchaaa.P
open Go.RowKit Go.Proofs.YtahgiblifkchaaaW.PrintWords Go.Proofs.YtahgiblifkchaaaW.PrintLast Go.Proofs.YtahgiblifkchaaaW.PrintMore
set_option linter.unusedVariables false
set_option linter.unusedSimpArgs false
set_option maxHeartbeats 2000000
/-! ### the marks of the laws: markText answers -/
theorem markText_l_total : ∀ (n k : Nat) (x : Int) (acc : ByteArray), 0 ≤ x → x < (10 : Int) ^ n → x ≤ 9223372036854775807 → acc.size + n ≤ 1000 → n < k → ∃ t, laws_markText.l0 k x acc = some t := by
  intro n
  induction n with
  | zero =>
    intro k x acc h0 h1 hx hs hk
    obtain ⟨k, rfl⟩ : ∃ m, k = m + 1 := ⟨k - 1, by omega⟩
    simp only [laws_markText.l0]
    have hx0 : x = 0 := by
      have h10 : (10 : Int) ^ 0 = 1 := by decide
      omega
    rw [if_neg (by omega), if_pos (by omega)]
    exact ⟨_, rfl⟩
  | succ n ih =>
    intro k x acc h0 h1 hx hs hk
    obtain ⟨k, rfl⟩ : ∃ m, k = m + 1 := ⟨k - 1, by omega⟩
    simp only [laws_markText.l0]
    by_cases hp : x > 0
    · rw [if_pos hp, Option.bind_some, if_pos (by rw [strOfNums_size]; simp; omega)]
      have hd : Int.tdiv x 10 = x / 10 := Int.tdiv_eq_ediv_of_nonneg h0
      rw [hd, wrap_id (x := x / 10) (by omega) (by omega)]
      have hpow : (10 : Int) ^ (n + 1) = 10 ^ n * 10 := Int.pow_succ 10 n
      exact ih k (x / 10) _ (by omega) (by omega) (by omega) (by rw [ByteArray.size_append, strOfNums_size]; simp; omega) (by omega)
    · rw [if_neg hp, if_pos (by omega)]
      exact ⟨_, rfl⟩
theorem markText_total (x : Int) (hx : x ≤ 9223372036854775807) : ∃ t, laws_markText.f 25 x = some t := by
  unfold laws_markText.f
  by_cases h : x ≤ 0
  · rw [if_pos h]; exact ⟨_, rfl⟩
  · rw [if_neg h]
    have h10 : (10 : Int) ^ 19 = 10000000000000000000 := by decide
    exact markText_l_total 19 25 x _ (by omega) (by omega) hx (by decide) (by decide)
/-- The text of a mark. -/
def mt (x : Int) : ByteArray := (laws_markText.f 25 x).getD ⟨#[]⟩
theorem mt_eq (x : Int) (hx : x ≤ 9223372036854775807) (k : Nat) (hk : 25 ≤ k) : laws_markText.f k x = some (mt x) := by
  obtain ⟨t, ht⟩ := markText_total x hx
  have : mt x = t := by unfold mt; rw [ht]; rfl
  rw [this]
  exact at_rounds (fun k => laws_markText.mono x k) hk ht

end Go.Proofs.Ytahgiblifkchaaa.P
end

section
/- Plain laws of our own (FieldS): about numbers and lists alone; no condition beyond those written. -/
namespace Go.Proofs.Ytahgiblifkchaaa.P
open Go.RowKit Go.Proofs.YtahgiblifkchaaaW.PrintWords Go.Proofs.YtahgiblifkchaaaW.PrintLast Go.Proofs.YtahgiblifkchaaaW.PrintMore
set_option linter.unusedVariables false
set_option linter.unusedSimpArgs false
set_option maxHeartbeats 2000000
/-! ### FieldS: marked, held, compared -/
theorem rd_set_FieldS (l : List S71) (n : Nat) (v : S71) (h : n < l.length) : rd_T71 (l.set n v) (n : Int) = v := by
  unfold rd_T71
  rw [Int.toNat_natCast, List.getD_eq_getElem?_getD]
  simp [h]
theorem mark_held_FieldS : ∀ (d k : Nat) (l : List S71) (c i : Int), 0 ≤ i → (l.length : Int) - i = d → l.length ≤ 281474976710656 → 0 ≤ c → c + 2 * d ≤ 1152921504606846976 → d + 30 < k →
    ∃ l', laws_markFieldS.l0 k l c i = some (c + 2 * d, l') ∧ l'.length = l.length ∧ (∀ j : Nat, (j : Int) < i → l'[j]? = l[j]?) ∧ laws_heldFieldS.l0 k l' c i = some (c + 2 * d) := by
  intro d
  induction d with
  | zero =>
    intro k l c i h0 hd hl hc hcd hk
    obtain ⟨k, rfl⟩ : ∃ m, k = m + 1 := ⟨k - 1, by omega⟩
    refine ⟨l, ?_, rfl, fun _ _ => rfl, ?_⟩
    · simp only [laws_markFieldS.l0]
      rw [if_neg (by omega)]
      simp
    · simp only [laws_heldFieldS.l0]
      rw [if_neg (by omega)]
      simp
  | succ d ih =>
    intro k l c i h0 hd hl hc hcd hk
    obtain ⟨k, rfl⟩ : ∃ m, k = m + 1 := ⟨k - 1, by omega⟩
    obtain ⟨n, rfl⟩ := Int.eq_ofNat_of_zero_le h0
    have hn : n < l.length := by omega
    have hw1 : wrap64 (c + 1) = c + 1 := wrap_id (by omega) (by omega)
    have hw2 : wrap64 (c + 1 + 1) = c + 1 + 1 := wrap_id (by omega) (by omega)
    have hm0 : laws_markText.f k (c) = some (mt (c)) := mt_eq _ (by omega) k (by omega)
    have hm1 : laws_markText.f k (c + 1) = some (mt (c + 1)) := mt_eq _ (by omega) k (by omega)
    have hwi : wrap64 ((n : Int) + 1) = ((n + 1 : Nat) : Int) := by rw [wrap_id (by omega) (by omega)]; omega
    have hlt : ((n : Int) < (l.length : Int)) = True := eq_true (by omega)
    have hge : (0 ≤ (n : Int)) = True := eq_true h0
    obtain ⟨l', e1, e2, e3, e4⟩ := ih k (l.set n (⟨mt (c), mt (c + 1)⟩)) (c + 1 + 1) ((n + 1 : Nat) : Int) (by omega) (by rw [List.length_set]; omega) (by rw [List.length_set]; omega) (by omega) (by omega) (by omega)
    have hcc : c + 1 + 1 + 2 * (d : Int) = c + 2 * ((d + 1 : Nat) : Int) := by omega
    rw [hcc] at e1 e4
    rw [List.length_set] at e2
    have hat : l'[n]? = some (⟨mt (c), mt (c + 1)⟩) := by rw [e3 n (by omega)]; simp [hn]
    have hrd : rd_T71 l' (n : Int) = ⟨mt (c), mt (c + 1)⟩ := by
      unfold rd_T71
      rw [Int.toNat_natCast, List.getD_eq_getElem?_getD, hat]
      rfl
    have hlt' : ((n : Int) < (l'.length : Int)) = True := eq_true (by omega)
    refine ⟨l', ?_, e2, fun j hj => ?_, ?_⟩
    · simp only [laws_markFieldS.l0, hlt, hge, if_true, Option.bind_some, hw1, hw2, hm0, hm1, hwi, Int.toNat_natCast, List.set_set, List.length_set, hn, rd_set_FieldS]
      exact e1
    · rw [e3 j (by omega), List.getElem?_set_ne (by omega)]
    · simp only [laws_heldFieldS.l0, hlt', hge, if_true, Option.bind_some, hw1, hw2, hm0, hm1, hrd, hwi, bne_self_eq_false, Bool.false_eq_true, if_false]
      exact e4
theorem eq_refl_FieldS : ∀ (d k : Nat) (l : List S71) (i : Int), 0 ≤ i → (l.length : Int) - i = d → l.length ≤ 281474976710656 → d < k → laws_eqFieldS.l0 k l l i = some true := by
  intro d
  induction d with
  | zero =>
    intro k l i h0 hd hl hk
    obtain ⟨k, rfl⟩ : ∃ m, k = m + 1 := ⟨k - 1, by omega⟩
    simp only [laws_eqFieldS.l0]
    rw [if_neg (by omega)]
  | succ d ih =>
    intro k l i h0 hd hl hk
    obtain ⟨k, rfl⟩ : ∃ m, k = m + 1 := ⟨k - 1, by omega⟩
    simp only [laws_eqFieldS.l0]
    rw [if_pos (by omega), if_pos h0, if_pos (by omega), show laws_eqField.f (rd_T71 l i).f0 (rd_T71 l i).f1 (rd_T71 l i).f0 (rd_T71 l i).f1 = some true by unfold laws_eqField.f; simp, Option.bind_some, if_pos rfl, wrap_id (by omega) (by omega)]
    exact ih k l (i + 1) (by omega) (by omega) hl (by omega)
theorem eq_self_FieldS (k : Nat) (l : List S71) (hl : l.length ≤ 281474976710656) (hk : l.length < k) : laws_eqFieldS.f k l l = some true := by
  unfold laws_eqFieldS.f
  rw [if_pos rfl]
  exact eq_refl_FieldS l.length k l 0 (by omega) (by omega) hl hk
theorem mark_then_FieldS (l : List S71) (c : Int) (hl : l.length ≤ 281474976710656) (hc : 0 ≤ c) (hcd : c + 2 * l.length ≤ 1152921504606846976) :
    ∃ l', ∀ k, l.length + 31 ≤ k → laws_markFieldS.f k l c = some (c + 2 * l.length, l') ∧ laws_heldFieldS.f k l' c = some (c + 2 * l.length) := by
  obtain ⟨l', e1, _, _, e4⟩ := mark_held_FieldS l.length (l.length + 31) l c 0 (by omega) (by omega) hl hc hcd (by omega)
  exact ⟨l', fun k hk => ⟨at_rounds (g := fun k => laws_markFieldS.f k l c) (fun k => laws_markFieldS.mono l c k) hk e1, at_rounds (g := fun k => laws_heldFieldS.f k l' c) (fun k => laws_heldFieldS.mono l' c k) hk e4⟩⟩

end Go.Proofs.Ytahgiblifkchaaa.P
end

section
/- Plain laws of our own (ToFields): about numbers and lists alone; no condition beyond those written. -/
namespace Go.Proofs.Ytahgiblifkchaaa.P
open Go.RowKit Go.Proofs.YtahgiblifkchaaaW.PrintWords Go.Proofs.YtahgiblifkchaaaW.PrintLast Go.Proofs.YtahgiblifkchaaaW.PrintMore
set_option linter.unusedVariables false
set_option linter.unusedSimpArgs false
set_option maxHeartbeats 2000000
/-! ### the laws' own fields: read over, counted -/
abbrev LawFieldT := S68
def toF (x : LawFieldT) : FieldT := ⟨x.f0, x.f1⟩
theorem toFieldS_l (l : List LawFieldT) (hl : l.length ≤ 4398046511104) : ∀ (d k i : Nat) (out : List FieldT), out.length = l.length → i ≤ l.length → l.length - i = d → (∀ j, j < i → out[j]? = (l.map toF)[j]?) → d < k →
    laws_toFieldS.l0 k l out (i : Int) = some (l.map toF) := by
  intro d
  induction d with
  | zero =>
    intro k i out ho h1 hd hj hk
    obtain ⟨k, rfl⟩ : ∃ m, k = m + 1 := ⟨k - 1, by omega⟩
    simp only [laws_toFieldS.l0]
    rw [if_neg (by omega)]
    congr 1
    apply List.ext_getElem?
    intro j
    by_cases h : j < l.length
    · exact hj j (by omega)
    · rw [List.getElem?_eq_none (by omega), List.getElem?_eq_none (by simp; omega)]
  | succ d ih =>
    intro k i out ho h1 hd hj hk
    obtain ⟨k, rfl⟩ : ∃ m, k = m + 1 := ⟨k - 1, by omega⟩
    have hw : wrap64 ((i : Int) + 1) = ((i + 1 : Nat) : Int) := by rw [wrap_id (by omega) (by omega)]; omega
    simp only [laws_toFieldS.l0]
    unfold laws_toField.f
    rw [if_pos (by omega), if_pos (by omega), Option.bind_some, if_pos (by omega), hw, Int.toNat_natCast]
    refine ih k (i + 1) _ (by rw [List.length_set]; exact ho) (by omega) (by omega) (fun j hji => ?_) (by omega)
    rw [List.getElem?_set]
    by_cases e : i = j
    · subst e
      rw [if_pos rfl, if_pos (by omega), List.getElem?_map]
      unfold rd_T68
      rw [Int.toNat_natCast, List.getD_eq_getElem?_getD, List.getElem?_eq_getElem (by omega)]
      rfl
    · rw [if_neg e]
      exact hj j (by omega)
theorem toFieldS_eq (l : List LawFieldT) (hl : l.length ≤ 4398046511104) (k : Nat) (hk : l.length < k) : laws_toFieldS.f k l = some (l.map toF) := by
  unfold laws_toFieldS.f
  rw [if_pos (by omega), if_pos (by omega)]
  exact toFieldS_l l hl l.length k 0 _ (by simp) (Nat.zero_le _) (by omega) (fun j hj => by omega) hk
theorem szField_some (a b : ByteArray) (n : Int) : ∃ t, laws_szField.f a b n = some t := by
  unfold laws_szField.f
  split
  · exact ⟨_, rfl⟩
  · split <;> exact ⟨_, rfl⟩
theorem szFieldS_l (l : List LawFieldT) (hl : l.length ≤ 4398046511104) : ∀ (d k : Nat) (n i : Int), 0 ≤ i → (l.length : Int) - i = d → d < k → ∃ t, laws_szFieldS.l0 k l n i = some t := by
  intro d
  induction d with
  | zero =>
    intro k n i h0 hd hk
    obtain ⟨k, rfl⟩ : ∃ m, k = m + 1 := ⟨k - 1, by omega⟩
    simp only [laws_szFieldS.l0]
    rw [if_neg (by omega)]
    exact ⟨_, rfl⟩
  | succ d ih =>
    intro k n i h0 hd hk
    obtain ⟨k, rfl⟩ : ∃ m, k = m + 1 := ⟨k - 1, by omega⟩
    simp only [laws_szFieldS.l0]
    obtain ⟨t, ht⟩ := szField_some (rd_T68 l i).f0 (rd_T68 l i).f1 n
    rw [if_pos (by omega), if_pos h0, ht, Option.bind_some]
    by_cases h : t < 0
    · rw [if_pos h]; exact ⟨_, rfl⟩
    · rw [if_neg h, wrap_id (x := i + 1) (by omega) (by omega)]
      exact ih k t (i + 1) (by omega) (by omega) (by omega)
theorem szFieldS_some (l : List LawFieldT) (hl : l.length ≤ 4398046511104) (n : Int) (k : Nat) (hk : l.length < k) : ∃ t, laws_szFieldS.f k l n = some t := by
  unfold laws_szFieldS.f
  split
  · exact ⟨_, rfl⟩
  · exact szFieldS_l l hl l.length k _ 0 (by omega) (by omega) hk

end Go.Proofs.Ytahgiblifkchaaa.P
end

section
/- The program's EndToEnd answers what the reference's answers, for all fields; no condition. -/
namespace Go.Proofs.Ytahgiblifkchaaa.Pure
open Go.RowKit Go.Proofs.Ytahgiblifkchaaa.P Go.Proofs.YtahgiblifkchaaaW.PrintWords Go.Proofs.YtahgiblifkchaaaW.PrintLast Go.Proofs.YtahgiblifkchaaaW.PrintMore
set_option linter.unusedVariables false
set_option linter.unusedSimpArgs false

theorem FnExactEndToEnd : laws_FnExactEndToEnd.Pure := by
  intro l0 hl hz
  have hl' : l0.length ≤ 4398046511104 := by omega
  refine ⟨l0.length + 30000, ?_⟩
  unfold laws_FnExactEndToEnd.f
  obtain ⟨t, ht⟩ := szFieldS_some l0 hl' 1048576 (l0.length + 30000) (by omega)
  rw [ht, Option.bind_some]
  by_cases hn : t < 0
  · rw [if_pos hn]
  · have hv := endOf_length (l0.map toF)
    have hm : (l0.map toF).length = l0.length := by simp
    obtain ⟨m1, e1⟩ := mark_then_FieldS (l0.map toF) 1 (by omega) (by decide) (by omega)
    obtain ⟨m2, e2⟩ := mark_then_FieldS (endOf (l0.map toF)) 1 (by omega) (by decide) (by omega)
    rw [if_neg hn, toFieldS_eq l0 hl' _ (by omega)]
    simp only [Option.bind_some, spec_EndToEnd_eq _ (l0.length + 30000) (by omega), impl_EndToEnd_eq _ (l0.length + 30000) (by omega)]
    rw [eq_self_FieldS _ (endOf (l0.map toF)) (by omega) (by omega), eq_self_FieldS _ (l0.map toF) (by omega) (by omega), (e1 (l0.length + 30000) (by omega)).1]
    simp only [Option.bind_some, if_true, Bool.not_true]
    rw [if_neg (by omega)]
    obtain ⟨e3, e4⟩ := e2 (l0.length + 29999) (by omega)
    rw [show l0.length + 30000 = (l0.length + 29999) + 1 from rfl]
    simp only [laws_FnExactEndToEnd.j0]
    rw [if_neg (by decide), e3]
    simp only [Option.bind_some]
    rw [e4]
    simp only [Option.bind_some, if_true]
    rw [if_neg (by omega), toFieldS_eq l0 hl' _ (by omega)]
    simp only [Option.bind_some, impl_EndToEnd_eq _ (l0.length + 29999) (by omega)]
    rw [eq_self_FieldS _ (endOf (l0.map toF)) (by omega) (by omega)]
    simp only [Option.bind_some, if_true]
    rw [if_neg (by omega)]

end Go.Proofs.Ytahgiblifkchaaa.Pure
end
