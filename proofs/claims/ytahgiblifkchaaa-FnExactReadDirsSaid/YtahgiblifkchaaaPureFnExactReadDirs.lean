import Derived.Test.YtahgiblifkchaaaPxlawFnExactReadDirs
import Derived.Test.YtahgiblifkchaaaOwn
import Derived.SizedLaws
import Derived.ChangeSlices
import Derived.ChangeSame
import Derived.Deep.Slices
import Derived.ProofKit
import Derived.OpenShut
import Derived.ShutString
import Derived.ChangeOld
import Derived.Test.YtahgiblifkchaaaPx0
import Derived.Test.YtahgiblifkchaaaPxauxc
import Derived.Test.YtahgiblifkchaaaPxauxd
import Derived.Test.YtahgiblifkchaaaPximpl01a
import Derived.Test.YtahgiblifkchaaaPximpl12a
import Derived.Test.YtahgiblifkchaaaPxspec01a
import Derived.Test.YtahgiblifkchaaaPxspec12b
import Derived.Test.YtahgiblifkchaaaPximpl01b
import Derived.Test.YtahgiblifkchaaaPxspec01b
import Derived.Test.YtahgiblifkchaaaPxspec01c
import Derived.Test.YtahgiblifkchaaaPximpl01e
import Derived.Test.YtahgiblifkchaaaPxspec01e
import Derived.Test.YtahgiblifkchaaaPximpl01d
import Derived.Test.YtahgiblifkchaaaPxspec05a
import Derived.Test.YtahgiblifkchaaaPximpl05a
import Derived.Test.YtahgiblifkchaaaPximpl05b
import Derived.Test.YtahgiblifkchaaaPxspec01d
import Derived.Test.YtahgiblifkchaaaPxspec05b
import Derived.Test.YtahgiblifkchaaaPxspec05c
import Derived.Test.YtahgiblifkchaaaPximpl01c
import Derived.Test.YtahgiblifkchaaaPxspec01f
import Derived.Test.YtahgiblifkchaaaPximpl05c
import Derived.Test.YtahgiblifkchaaaPximpl12b
import Derived.Test.YtahgiblifkchaaaPxliba
import Derived.Test.YtahgiblifkchaaaPxspec06a
import Derived.Test.YtahgiblifkchaaaPxspec12a
import Derived.Test.YtahgiblifkchaaaPxspec12c
import Derived.Test.YtahgiblifkchaaaPxauxa
import Derived.Test.YtahgiblifkchaaaPxauxb
section
/- How a row's arguments that are structs, or slices of structs, are laid open: plain lemmas on the form's reading; no condition. -/
namespace Go.Proofs.Ytahgiblifkchaaa.P
open Go Go.RowKit Go.ChangeShapes Go.WideShapes Go.Deep Go.Proofs.YtahgiblifkchaaaW.PrintWords
set_option linter.unusedVariables false
set_option linter.unusedSimpArgs false
theorem list_of_all {α : Type} {Q : Nat → α → Prop} : ∀ (n : Nat), (∀ i, i < n → ∃ v, Q i v) → ∃ l : List α, l.length = n ∧ ∀ i v, l[i]? = some v → Q i v := by
  intro n
  induction n with
  | zero => intro _; exact ⟨[], rfl, fun i v h => by simp at h⟩
  | succ n ih =>
    intro h
    obtain ⟨l, hl, hq⟩ := ih (fun i hi => h i (by omega))
    obtain ⟨v, hv⟩ := h n (by omega)
    refine ⟨l ++ [v], by simp [hl], fun i u hu => ?_⟩
    by_cases hi : i < l.length
    · rw [List.getElem?_append_left hi] at hu
      exact hq i u hu
    · have hin : i < (l ++ [v]).length := (List.getElem?_eq_some_iff.1 hu).1
      have : i = l.length := by simp at hin; omega
      subst this
      rw [List.getElem?_append_right (by omega)] at hu
      simp at hu
      subst hu
      rw [hl]; exact hv
theorem weights_all_mem {H : Type} {P : Program} {e : TypeId} {ds : List (DataW H)} {d : DataW H} (h : d ∈ ds) : ∀ n, n ∈ d.weights P e → n ∈ DataW.weightsAll P e ds := by
  intro n hn
  induction ds with
  | nil => cases h
  | cons x r ih =>
    simp only [DataW.weightsAll, List.mem_append]
    rcases List.mem_cons.1 h with rfl | h
    · exact .inl hn
    · exact .inr (ih h)
theorem weight_of {H : Type} {P : Program} {ts : List TypeId} {ds : List (DataW H)} (h : (DataW.weightsEach P ts ds).all (· ≤ reachBytes) = true) {j : Nat} {t : TypeId} {d : DataW H} (ht : ts[j]? = some t) (hd : ds[j]? = some d) :
    ∀ n, n ∈ d.weights P t → n ≤ 140737488351232 := fun n hn => by
  have := List.all_eq_true.1 h _ (DataW.weights_mem_each ht hd n hn)
  exact of_decide_eq_true this
theorem open_rows {α H : Type} {enc : TypeId × Value → H} {P : Program} {w : World} {spare : Nat → Bool} {held : Bool} {t e : TypeId} {A : Option Addr} {len cap : Nat} {d : DataW H} {ps : List MemPlace}
    (K : Kd α) (G : α → Prop) (S : α → Prop) (ht : P.underlying t = some (.slice e)) (hsz : P.cellsOf e = K.sz) (hb : 0 < P.bytesOf e)
    (op : ∀ (n : Nat) (cs : List Value) (x : DataW H × List MemPlace), DataW.trod enc P w 0 spare held n e cs = some x → ∃ v : α, K.K w v cs ∧ G v ∧ ((∀ m, m ∈ x.1.weights P e → m ≤ 140737488351232) → S v))
    (hw : ∀ m, m ∈ d.weights P t → m ≤ 140737488351232) (h : DataW.Trod enc P w 0 spare held t (.slice A len cap) d ps) :
    ∃ l : List α, l.length = len ∧ K.C w A len l ∧ len ≤ cap ∧ len * P.bytesOf e ≤ 140737488351232 ∧ ∀ x ∈ l, G x ∧ S x := by
  obtain ⟨fuel, hf⟩ := h
  rcases open_slice ht hf with ⟨hcs, hx⟩ | ⟨a, len', cap', m, n, D, Pl, hcs, _, hl, hm, hmm, hx, hi⟩
  · simp [Value.cells] at hcs
    obtain ⟨rfl, rfl, rfl⟩ := hcs
    refine ⟨[], rfl, ⟨rfl, by omega, fun h => absurd h (by omega)⟩, Nat.le_refl _, by omega, fun x hx => by cases hx⟩
  · simp [Value.cells] at hcs
    obtain ⟨rfl, rfl, rfl⟩ := hcs
    obtain ⟨hxd, _⟩ := Prod.mk.inj hx
    subst hxd
    have hlm : len ≤ m := by rw [hmm]; split <;> omega
    have hwt : len * P.bytesOf e ≤ 140737488351232 := by
      have h1 := hw ((((List.range len).map D).length + ((List.range (m - len)).map fun j => D (len + j)).length) * P.bytesOf e) (by simp [DataW.weights, ht])
      simp at h1
      exact Nat.le_trans (Nat.mul_le_mul_right _ (by omega)) h1
    obtain ⟨l, hll, hq⟩ := list_of_all (α := α) (Q := fun i v => ∃ cs, w.cells? 0 (a.add (i * P.cellsOf e)) (P.cellsOf e) = some cs ∧ K.K w v cs ∧ G v ∧ S v) len (fun i hil => by
      obtain ⟨cs', hc, htr⟩ := hi i (by omega)
      obtain ⟨v, hk, hg, hs⟩ := op n cs' _ htr
      refine ⟨v, cs', hc, hk, hg, hs (fun q hq => ?_)⟩
      refine hw q ?_
      simp only [DataW.weights, ht, List.mem_cons, List.mem_append]
      refine .inr (.inl (weights_all_mem (d := D i) ?_ q hq))
      exact List.mem_map.2 ⟨i, List.mem_range.2 hil, rfl⟩)
    have hlen9 : len ≤ 9223372036854775807 := by
      have : len * 1 ≤ len * P.bytesOf e := Nat.mul_le_mul_left _ hb
      omega
    refine ⟨l, hll, ⟨hll, hlen9, fun _ => ⟨a, rfl, fun j p hj => ?_⟩⟩, hl, hwt, fun x hx => ?_⟩
    · obtain ⟨cs, hc, hk, _, _⟩ := hq j p hj
      obtain ⟨_, hcl, hat⟩ := World.cells?_some hc
      refine ⟨cs, by rw [hcl, hsz], hk, fun i u hu => ?_⟩
      have hil : i < cs.length := (List.getElem?_eq_some_iff.1 hu).1
      have := hat i (by omega)
      rw [hsz, Go.Deep.add_add] at this
      rw [this, hu]
    · obtain ⟨i, hil, he⟩ := List.mem_iff_getElem.1 hx
      obtain ⟨cs, _, _, hg, hs⟩ := hq i x (by rw [List.getElem?_eq_getElem hil, he])
      exact ⟨hg, hs⟩
theorem open_whole {H : Type} {enc : TypeId × Value → H} {P : Program} {w : World} {spare : Nat → Bool} {held : Bool} {t : TypeId} {fs : Array Field} {v : Value} {d : DataW H} {ps : List MemPlace} {r : Reach} {b0 : Nat}
    (ht : P.underlying t = some (.struct fs)) (hv : Value.okWide P w r b0 t v) (h : DataW.Trod enc P w 0 spare held t v d ps) : ∃ (cs : List Value) (n : Nat), v = .agg cs.toArray ∧ DataW.trod enc P w 0 spare held n t cs = some (d, ps) := by
  obtain ⟨cs, rfl, _⟩ := okWide_struct ht hv
  obtain ⟨fuel, hf⟩ := h
  exact ⟨cs.toList, fuel, by simp, by simpa [Value.cells] using hf⟩
end Go.Proofs.Ytahgiblifkchaaa.P
end

section
/- How the laws' structs are laid open, type by type: plain lemmas; no condition. -/
namespace Go.Proofs.Ytahgiblifkchaaa.P
open Go Go.RowKit Go.ChangeShapes Go.WideShapes Go.Deep Go.Proofs.YtahgiblifkchaaaW.PrintWords Go.Proofs.YtahgiblifkchaaaW.PrintLast
set_option linter.unusedVariables false
set_option linter.unusedSimpArgs false
set_option maxRecDepth 100000
set_option maxHeartbeats 2000000
def G68 (x : S68) : Prop := True
def Z68 (x : S68) : Prop := x.f0.size ≤ 140737488351232 ∧ x.f1.size ≤ 140737488351232 ∧ True
theorem opens68 {H : Type} {enc : TypeId × Value → H} {w : World} {spare : Nat → Bool} {held : Bool} (n : Nat) (cs : List Value) (x : DataW H × List MemPlace) (h : DataW.trod enc Try.prog w 0 spare held n 68 cs = some x) :
    ∃ v : S68, k68.K w v cs ∧ G68 v ∧ ((∀ m, m ∈ x.1.weights Try.prog 68 → m ≤ 140737488351232) → Z68 v) := by
  obtain ⟨xs, n', rfl, rfl, hl0, hxl0, hf⟩ := DataW.trod_struct Try.underlying68 h
  have hl : cs.length = 2 := hl0.trans (by kernel_rfl)
  have hxl : xs.length = 2 := hxl0
  have q9 : Try.prog.cellsOf 9 = 1 := by kernel_rfl
  match cs, hl with
  | [c0, c1], _ =>
    match xs, hxl with
    | [y0, y1], _ =>
      have g0 : DataW.trod enc Try.prog w 0 spare held n' 9 [c0] = some y0 := by have g_ := hf 0 _ rfl; simpa [q9] using g_
      obtain ⟨s0, e0, rfl, b0⟩ := DataW.trod_string Try.underlying9 g0
      obtain rfl := List.singleton_inj.1 e0
      have g1 : DataW.trod enc Try.prog w 0 spare held n' 9 [c1] = some y1 := by have g_ := hf 1 _ rfl; simpa [q9] using g_
      obtain ⟨s1, e1, rfl, b1⟩ := DataW.trod_string Try.underlying9 g1
      obtain rfl := List.singleton_inj.1 e1
      refine ⟨⟨s0, s1⟩, k68_mk w _, trivial, fun hw => ⟨?_, ?_, trivial⟩⟩
      · have := hw s0.data.toList.length (by simp [DataW.weights, Try.underlying68, DataW.weightsEach]); rwa [data_length] at this
      · have := hw s1.data.toList.length (by simp [DataW.weights, Try.underlying68, DataW.weightsEach]); rwa [data_length] at this
end Go.Proofs.Ytahgiblifkchaaa.P
end

section
/- The plain statement of the law FnExactReadDirs, over numbers, texts and lists; no condition beyond what every row gives. -/
namespace Go.Proofs.Ytahgiblifkchaaa.P
open Go Go.RowKit
set_option linter.unusedVariables false
def laws_FnExactReadDirs.Pure : Prop := ∀ (l0 : List S68), l0.length * 32 ≤ 140737488351232 → (∀ x ∈ l0, G68 x ∧ Z68 x) → ∃ k : Nat, laws_FnExactReadDirs.f k l0 = some true
end Go.Proofs.Ytahgiblifkchaaa.P
end

section
/- Plain laws of our own (Kit): about numbers and lists alone; no condition beyond those written. -/
namespace Go.Proofs.Ytahgiblifkchaaa.P
open Go.RowKit Go.Proofs.YtahgiblifkchaaaW.PrintWords Go.Proofs.YtahgiblifkchaaaW.PrintLast Go.Proofs.YtahgiblifkchaaaW.PrintMore
set_option linter.unusedVariables false
set_option linter.unusedSimpArgs false
set_option maxHeartbeats 2000000
theorem wrap_id {x : Int} (h : -9223372036854775808 ≤ x) (h' : x ≤ 9223372036854775807) : wrap64 x = x := by unfold wrap64; omega
theorem size_extract (s : ByteArray) (a b : Nat) : (s.extract a b).size = min b s.size - a := ByteArray.size_extract
theorem bt_extract (s : ByteArray) (a b : Nat) (i : Int) (h0 : 0 ≤ i) (h1 : i < (b : Int) - a) (h2 : b ≤ s.size) : bt (s.extract a b) i = bt s (a + i) := by
  obtain ⟨n, rfl⟩ := Int.eq_ofNat_of_zero_le h0
  unfold bt
  have e : ((a : Int) + (n : Int)).toNat = a + n := by omega
  rw [e]
  have h3 : n < (s.extract a b).size := by rw [ByteArray.size_extract]; omega
  rw [dif_pos (show ((n : Int)).toNat < (s.extract a b).size by simpa using h3), dif_pos (show a + n < s.size by omega)]
  simp only [Int.toNat_natCast]
  rw [ByteArray.getElem_extract]

end Go.Proofs.Ytahgiblifkchaaa.P
end

section
/- Plain laws of our own (FieldEq): about numbers and lists alone; no condition beyond those written. -/
namespace Go.Proofs.Ytahgiblifkchaaa.P
open Go.RowKit Go.Proofs.YtahgiblifkchaaaW.PrintWords Go.Proofs.YtahgiblifkchaaaW.PrintLast Go.Proofs.YtahgiblifkchaaaW.PrintMore
set_option linter.unusedVariables false
set_option linter.unusedSimpArgs false
set_option maxHeartbeats 2000000
theorem eq_refl_FieldS : ∀ (d k : Nat) (l : List S71) (i : Int), 0 ≤ i → (l.length : Int) - i = d → l.length ≤ 281474976710656 → d < k → laws_eqFieldS.l0 k l l i = some true := by
  intro d
  induction d with
  | zero =>
    intro k l i h0 hd hl hk
    obtain ⟨k, rfl⟩ : ∃ m, k = m + 1 := ⟨k - 1, by omega⟩
    simp only [laws_eqFieldS.l0]
    rw [if_neg (by omega)]
  | succ d ih =>
    intro k l i h0 hd hl hk
    obtain ⟨k, rfl⟩ : ∃ m, k = m + 1 := ⟨k - 1, by omega⟩
    simp only [laws_eqFieldS.l0]
    rw [if_pos (by omega), if_pos h0, if_pos (by omega), show laws_eqField.f (rd_T71 l i).f0 (rd_T71 l i).f1 (rd_T71 l i).f0 (rd_T71 l i).f1 = some true by unfold laws_eqField.f; simp, Option.bind_some, if_pos rfl, wrap_id (by omega) (by omega)]
    exact ih k l (i + 1) (by omega) (by omega) hl (by omega)
theorem eq_self_FieldS (k : Nat) (l : List S71) (hl : l.length ≤ 281474976710656) (hk : l.length < k) : laws_eqFieldS.f k l l = some true := by
  unfold laws_eqFieldS.f
  rw [if_pos rfl]
  exact eq_refl_FieldS l.length k l 0 (by omega) (by omega) hl hk

end Go.Proofs.Ytahgiblifkchaaa.P
end

section
/- Plain laws of our own (Delta): about numbers and lists alone; no condition beyond those written. -/
namespace Go.Proofs.Ytahgiblifkchaaa.P
open Go.RowKit Go.Proofs.YtahgiblifkchaaaW.PrintWords Go.Proofs.YtahgiblifkchaaaW.PrintLast Go.Proofs.YtahgiblifkchaaaW.PrintMore
set_option linter.unusedVariables false
set_option linter.unusedSimpArgs false
set_option maxHeartbeats 2000000
def dig (c : Int) : Bool := decide (48 ≤ c) && decide (c ≤ 57)
theorem isDigit_eq (c : Int) : impl_isDigit.f c = some (dig c) := by
  unfold impl_isDigit.f dig
  by_cases h : c ≥ 48
  · rw [if_pos h, show decide (48 ≤ c) = true from decide_eq_true h, Bool.true_and]
  · rw [if_neg h, show decide (48 ≤ c) = false from decide_eq_false h, Bool.false_and]
theorem l1digit_eq (c : Int) : spec_l1digit.f c = some (dig c) := isDigit_eq c
def digs (s : ByteArray) : Nat → Int → Bool
  | 0, _ => true
  | d + 1, i => dig (bt s i) && digs s d (i + 1)
def dval (s : ByteArray) : Nat → Int → Int → Int
  | 0, n, _ => n
  | d + 1, n, i => dval s d (min 2147483648 (10 * n + (bt s i - 48))) (i + 1)
theorem all_isDigit (s : ByteArray) (hs : s.size ≤ 140737488351232) : ∀ (d k : Nat) (i : Int), 0 ≤ i → (s.size : Int) - i = d → d < k →
    impl_all__impl_isDigit.l0 k s i = some (digs s d i) := by
  intro d
  induction d with
  | zero =>
    intro k i h0 hd hk
    obtain ⟨k, rfl⟩ : ∃ m, k = m + 1 := ⟨k - 1, by omega⟩
    simp only [impl_all__impl_isDigit.l0]
    rw [if_neg (by omega)]
    rfl
  | succ d ih =>
    intro k i h0 hd hk
    obtain ⟨k, rfl⟩ : ∃ m, k = m + 1 := ⟨k - 1, by omega⟩
    simp only [impl_all__impl_isDigit.l0]
    rw [if_pos (by omega), if_pos h0, isDigit_eq, Option.bind_some, wrap_id (by omega) (by omega), ih k (i + 1) (by omega) (by omega) (by omega)]
    simp only [digs]
    cases dig (bt s i) <;> simp
theorem spec_loop (s : ByteArray) (hs : s.size ≤ 140737488351232) : ∀ (d k : Nat) (n i : Int), 0 ≤ n → n ≤ 2147483648 → 0 ≤ i → (s.size : Int) - i = d → d < k →
    spec_Delta.l0 k s n i = some (if digs s d i = true then (dval s d n i, true) else (0, false)) := by
  intro d
  induction d with
  | zero =>
    intro k n i hn0 hn1 h0 hd hk
    obtain ⟨k, rfl⟩ : ∃ m, k = m + 1 := ⟨k - 1, by omega⟩
    simp only [spec_Delta.l0]
    rw [if_neg (by omega)]
    simp [digs, dval]
  | succ d ih =>
    intro k n i hn0 hn1 h0 hd hk
    obtain ⟨k, rfl⟩ : ∃ m, k = m + 1 := ⟨k - 1, by omega⟩
    simp only [spec_Delta.l0]
    rw [if_pos (by omega), if_pos h0, l1digit_eq, Option.bind_some]
    simp only [digs, dval]
    by_cases hb : dig (bt s i) = true
    case neg => rw [if_neg hb]; simp [hb]
    case pos =>
      rw [if_pos hb]
      have hr : 48 ≤ bt s i ∧ bt s i ≤ 57 := by simpa [dig] using hb
      rw [wrap_id (x := n * 10) (by omega) (by omega), wrap_id (x := i + 1) (by omega) (by omega), wrap_id (x := n * 10 + (bt s i - 48) % 256) (by omega) (by omega)]
      have e : n * 10 + (bt s i - 48) % 256 = 10 * n + (bt s i - 48) := by omega
      rw [e]
      by_cases hc : 10 * n + (bt s i - 48) > 2147483648
      · rw [if_pos hc, ih k _ (i + 1) (by omega) (by omega) (by omega) (by omega) (by omega), show min 2147483648 (10 * n + (bt s i - 48)) = (2147483648 : Int) by omega]
        simp [hb]
      · rw [if_neg hc, ih k _ (i + 1) (by omega) (by omega) (by omega) (by omega) (by omega), show min 2147483648 (10 * n + (bt s i - 48)) = 10 * n + (bt s i - 48) by omega]
        simp [hb]
theorem impl_loop (s : ByteArray) (hs : s.size ≤ 140737488351232) : ∀ (d k : Nat) (n i : Int), 0 ≤ n → n ≤ 2147483648 → 0 ≤ i → (s.size : Int) - i = d → d < k → digs s d i = true →
    impl_Delta.l0 k s n i = some (dval s d n i, true) := by
  intro d
  induction d with
  | zero =>
    intro k n i hn0 hn1 h0 hd hk hg
    obtain ⟨k, rfl⟩ : ∃ m, k = m + 1 := ⟨k - 1, by omega⟩
    simp only [impl_Delta.l0]
    rw [if_neg (by omega)]
    simp [dval]
  | succ d ih =>
    intro k n i hn0 hn1 h0 hd hk hg
    obtain ⟨k, rfl⟩ : ∃ m, k = m + 1 := ⟨k - 1, by omega⟩
    simp only [impl_Delta.l0]
    rw [if_pos (by omega), if_pos h0]
    simp only [digs, Bool.and_eq_true] at hg
    have hr : 48 ≤ bt s i ∧ bt s i ≤ 57 := by simpa [dig] using hg.1
    rw [wrap_id (x := 10 * n) (by omega) (by omega), wrap_id (x := i + 1) (by omega) (by omega), wrap_id (x := 10 * n + (bt s i - 48) % 256) (by omega) (by omega)]
    have e : mn 2147483648 (10 * n + (bt s i - 48) % 256) = min 2147483648 (10 * n + (bt s i - 48)) := by unfold mn; split <;> omega
    rw [e, ih k _ (i + 1) (by omega) (by omega) (by omega) (by omega) (by omega) hg.2]
    rfl
def deltaOf (s : ByteArray) : Int × Bool := if s.toList = ([] : List UInt8) then (0, false) else if digs s s.size 0 = true then (dval s s.size 0 0, true) else (0, false)
theorem spec_Delta_eq (s : ByteArray) (hs : s.size ≤ 140737488351232) (k : Nat) (hk : s.size + 2 < k) : spec_Delta.f k s = some (deltaOf s) := by
  unfold spec_Delta.f deltaOf
  by_cases h : s.toList = ([] : List UInt8)
  · rw [if_pos h, if_pos h]
  · rw [if_neg h, if_neg h, spec_loop s hs s.size k 0 0 (by omega) (by omega) (by omega) (by omega) (by omega)]
theorem impl_Delta_eq (s : ByteArray) (hs : s.size ≤ 140737488351232) (k : Nat) (hk : s.size + 2 < k) : impl_Delta.f k s = some (deltaOf s) := by
  unfold impl_Delta.f deltaOf impl_all__impl_isDigit.f
  obtain ⟨k, rfl⟩ : ∃ m, k = m + 1 := ⟨k - 1, by omega⟩
  by_cases h : s.toList = ([] : List UInt8)
  · rw [if_pos h, if_pos h]; simp [impl_Delta.j0]
  · rw [if_neg h, if_neg h, all_isDigit s hs s.size (k + 1) 0 (by omega) (by omega) (by omega), Option.bind_some]
    simp only [impl_Delta.j0]
    by_cases hd : digs s s.size 0 = true
    · rw [if_neg (by simp [hd]), if_pos hd, impl_loop s hs s.size k 0 0 (by omega) (by omega) (by omega) (by omega) (by omega) hd]
    · rw [if_pos (by simpa using hd), if_neg hd]

end Go.Proofs.Ytahgiblifkchaaa.P
end

section
/- Plain laws of our own (Trim): about numbers and lists alone; no condition beyond those written. -/
namespace Go.Proofs.Ytahgiblifkchaaa.P
open Go.RowKit Go.Proofs.YtahgiblifkchaaaW.PrintWords Go.Proofs.YtahgiblifkchaaaW.PrintLast Go.Proofs.YtahgiblifkchaaaW.PrintMore
set_option linter.unusedVariables false
set_option linter.unusedSimpArgs false
set_option maxHeartbeats 2000000
theorem toList_nil (s : ByteArray) : s.toList = ([] : List UInt8) ↔ s.size = 0 := by
  rw [ByteArray.toList_eq]
  constructor
  · intro h
    have := congrArg List.length h
    rw [data_length] at this
    simpa using this
  · intro h
    apply List.eq_nil_of_length_eq_zero
    rw [data_length]; exact h
def ws (c : Int) : Bool := decide (c = 32) || decide (c = 9)
theorem isSpace_eq (c : Int) : impl_isSpace.f c = some (ws c) := by
  unfold impl_isSpace.f ws
  by_cases h : c = 32
  · rw [if_pos h]; simp [h]
  · rw [if_neg h]
    by_cases h2 : c = 9 <;> simp [h, h2]
theorem white_eq (c : Int) : spec_l1white.f c = some (ws c) := isSpace_eq c
def lead (s : ByteArray) : Nat → Nat → Nat
  | 0, i => i
  | d + 1, i => if ws (bt s (i : Int)) = true then lead s d (i + 1) else i
def back (s : ByteArray) : Nat → Nat → Nat
  | 0, j => j
  | d + 1, j => if ws (bt s ((j - 1 : Nat) : Int)) = true then back s d (j - 1) else j
theorem lead_le (s : ByteArray) : ∀ d i, i ≤ lead s d i ∧ lead s d i ≤ i + d := by
  intro d
  induction d with
  | zero => intro i; simp [lead]
  | succ d ih =>
    intro i
    simp only [lead]
    split
    · have := ih (i + 1); omega
    · omega
theorem back_le (s : ByteArray) : ∀ d j, back s d j ≤ j ∧ j ≤ back s d j + d := by
  intro d
  induction d with
  | zero => intro i; simp [back]
  | succ d ih =>
    intro j
    simp only [back]
    split
    · have := ih (j - 1); omega
    · omega
def trimS (s : ByteArray) : ByteArray := s.extract (lead s s.size 0) (back s (s.size - lead s s.size 0) s.size)
theorem trimS_size (s : ByteArray) : (trimS s).size ≤ s.size := by
  unfold trimS
  rw [size_extract]
  omega
theorem spec_trim_l1 (s : ByteArray) (hs : s.size ≤ 140737488351232) : ∀ (d k a j : Nat), a ≤ j → j ≤ s.size → j - a = d → d < k → spec_Trim.l1 k s (a : Int) (j : Int) = some (s.extract a (back s d j)) := by
  intro d
  induction d with
  | zero =>
    intro k a j h1 h2 hd hk
    obtain ⟨k, rfl⟩ : ∃ m, k = m + 1 := ⟨k - 1, by omega⟩
    simp only [spec_Trim.l1]
    rw [if_neg (by omega), if_pos (by omega), if_pos (by omega), if_pos (by omega)]
    rfl
  | succ d ih =>
    intro k a j h1 h2 hd hk
    obtain ⟨k, rfl⟩ : ∃ m, k = m + 1 := ⟨k - 1, by omega⟩
    simp only [spec_Trim.l1]
    have hw : wrap64 ((j : Int) - 1) = ((j - 1 : Nat) : Int) := by rw [wrap_id (by omega) (by omega)]; omega
    rw [if_pos (by omega), hw, if_pos (by omega), if_pos (by omega), white_eq, Option.bind_some]
    simp only [back]
    by_cases hb : ws (bt s ((j - 1 : Nat) : Int)) = true
    · rw [if_pos hb, if_pos hb]
      exact ih k a (j - 1) (by omega) (by omega) (by omega) (by omega)
    · rw [if_neg hb, if_neg hb, if_pos (by omega), if_pos (by omega), if_pos (by omega)]
      rfl
theorem spec_trim_l0 (s : ByteArray) (hs : s.size ≤ 140737488351232) : ∀ (d k i : Nat), i ≤ s.size → s.size - i = d → d + s.size + 3 < k → spec_Trim.l0 k s (i : Int) = some (s.extract (lead s d i) (back s (s.size - lead s d i) s.size)) := by
  intro d
  induction d with
  | zero =>
    intro k i h1 hd hk
    obtain ⟨k, rfl⟩ : ∃ m, k = m + 2 := ⟨k - 2, by omega⟩
    simp only [spec_Trim.l0]
    rw [if_neg (by omega)]
    simp only [spec_Trim.j1, lead]
    exact spec_trim_l1 s hs _ k i s.size h1 (Nat.le_refl _) rfl (by omega)
  | succ d ih =>
    intro k i h1 hd hk
    obtain ⟨k, rfl⟩ : ∃ m, k = m + 2 := ⟨k - 2, by omega⟩
    rw [spec_Trim.l0.eq_def]
    have hw : wrap64 ((i : Int) + 1) = ((i + 1 : Nat) : Int) := by rw [wrap_id (by omega) (by omega)]; omega
    dsimp only
    rw [if_pos (by omega), if_pos (by omega), white_eq, Option.bind_some]
    simp only [lead]
    by_cases hb : ws (bt s (i : Int)) = true
    · rw [if_pos hb, if_pos hb, hw]
      exact ih (k + 1) (i + 1) (by omega) (by omega) (by omega)
    · rw [if_neg hb, if_neg hb]
      simp only [spec_Trim.j1]
      exact spec_trim_l1 s hs _ k i s.size h1 (Nat.le_refl _) rfl (by omega)
theorem impl_trim_l1 (s : ByteArray) (hs : s.size ≤ 140737488351232) : ∀ (d k a j : Nat), a ≤ j → j ≤ s.size → j - a = d → d < k → impl_Trim.l1 k (s.extract a j) = some (s.extract a (back s d j)) := by
  intro d
  induction d with
  | zero =>
    intro k a j h1 h2 hd hk
    obtain ⟨k, rfl⟩ : ∃ m, k = m + 1 := ⟨k - 1, by omega⟩
    simp only [impl_Trim.l1]
    rw [if_pos ((toList_nil _).2 (by rw [size_extract]; omega))]
    rfl
  | succ d ih =>
    intro k a j h1 h2 hd hk
    obtain ⟨k, rfl⟩ : ∃ m, k = m + 1 := ⟨k - 1, by omega⟩
    have hz : (s.extract a j).size = d + 1 := by rw [size_extract]; omega
    simp only [impl_Trim.l1]
    have hw : wrap64 (((s.extract a j).size : Int) - 1) = ((d : Nat) : Int) := by rw [hz, wrap_id (by omega) (by omega)]; omega
    have hb0 : bt (s.extract a j) ((d : Nat) : Int) = bt s ((j - 1 : Nat) : Int) := by
      rw [bt_extract s a j _ (by omega) (by omega) h2]
      congr 1; omega
    rw [if_neg (fun h => by have := (toList_nil _).1 h; omega), hw, if_pos (by omega), if_pos (by omega), isSpace_eq, Option.bind_some, Int.toNat_natCast, ByteArray.extract_extract, hb0]
    simp only [back]
    have he : s.extract (a + 0) (min (a + d) j) = s.extract a (j - 1) := by congr 1; omega
    by_cases hb : ws (bt s ((j - 1 : Nat) : Int)) = true
    · rw [if_pos hb, if_pos hb, if_pos (by omega), he]
      exact ih k a (j - 1) (by omega) (by omega) (by omega) (by omega)
    · rw [if_neg hb, if_neg hb]
theorem impl_trim_l0 (s : ByteArray) (hs : s.size ≤ 140737488351232) : ∀ (d k i : Nat), i ≤ s.size → s.size - i = d → d + s.size + 3 < k → impl_Trim.l0 k (s.extract i s.size) = some (s.extract (lead s d i) (back s (s.size - lead s d i) s.size)) := by
  intro d
  induction d with
  | zero =>
    intro k i h1 hd hk
    obtain ⟨k, rfl⟩ : ∃ m, k = m + 2 := ⟨k - 2, by omega⟩
    rw [impl_Trim.l0.eq_def]
    dsimp only
    rw [if_pos ((toList_nil _).2 (by rw [size_extract]; omega))]
    simp only [impl_Trim.j1, lead]
    exact impl_trim_l1 s hs _ k i s.size h1 (Nat.le_refl _) rfl (by omega)
  | succ d ih =>
    intro k i h1 hd hk
    obtain ⟨k, rfl⟩ : ∃ m, k = m + 2 := ⟨k - 2, by omega⟩
    have hz : (s.extract i s.size).size = d + 1 := by rw [size_extract]; omega
    rw [impl_Trim.l0.eq_def]
    dsimp only
    have hb0 : bt (s.extract i s.size) 0 = bt s (i : Int) := by
      rw [bt_extract s i s.size 0 (by omega) (by omega) (Nat.le_refl _)]
      congr 1
    have he : (s.extract i s.size).extract 1 (s.extract i s.size).size = s.extract (i + 1) s.size := by
      rw [ByteArray.extract_extract, hz]; congr 1; omega
    rw [if_neg (fun h => by have := (toList_nil _).1 h; omega), if_pos (by omega), isSpace_eq, Option.bind_some, hb0, he]
    simp only [lead]
    by_cases hb : ws (bt s (i : Int)) = true
    · rw [if_pos hb, if_pos hb, if_pos (by omega)]
      exact ih (k + 1) (i + 1) (by omega) (by omega) (by omega)
    · rw [if_neg hb, if_neg hb]
      simp only [impl_Trim.j1]
      exact impl_trim_l1 s hs _ k i s.size h1 (Nat.le_refl _) rfl (by omega)
theorem spec_Trim_eq (s : ByteArray) (hs : s.size ≤ 140737488351232) (k : Nat) (hk : 2 * s.size + 3 < k) : spec_Trim.f k s = some (trimS s) := by
  unfold spec_Trim.f trimS
  exact spec_trim_l0 s hs s.size k 0 (Nat.zero_le _) (by omega) (by omega)
theorem impl_Trim_eq (s : ByteArray) (hs : s.size ≤ 140737488351232) (k : Nat) (hk : 2 * s.size + 3 < k) : impl_Trim.f k s = some (trimS s) := by
  unfold impl_Trim.f trimS
  have h := impl_trim_l0 s hs s.size k 0 (Nat.zero_le _) (by omega) (by omega)
  rw [ByteArray.extract_zero_size] at h
  exact h

end Go.Proofs.Ytahgiblifkchaaa.P
end

section
/- Plain laws of our own (Elements): about numbers and lists alone; no condition beyond those written. -/
namespace Go.Proofs.Ytahgiblifkchaaa.P
open Go.RowKit Go.Proofs.YtahgiblifkchaaaW.PrintWords Go.Proofs.YtahgiblifkchaaaW.PrintLast Go.Proofs.YtahgiblifkchaaaW.PrintMore
set_option linter.unusedVariables false
set_option linter.unusedSimpArgs false
set_option maxHeartbeats 2000000
def fin (s : ByteArray) (out : List ByteArray) (a : Nat) : List ByteArray := addS out (trimS (s.extract a s.size))
def elS (s : ByteArray) : Nat → List ByteArray → Nat → Bool → Nat → List ByteArray
  | 0, out, a, _, _ => fin s out a
  | d + 1, out, a, q, i =>
    if bt s (i : Int) = 34 then elS s d out a (!q) (i + 1)
    else if q = true ∧ bt s (i : Int) = 92 then (match d with | 0 => fin s out a | e + 1 => elS s e out a q (i + 2))
    else if q = false ∧ bt s (i : Int) = 44 then elS s d (addS out (trimS (s.extract a i))) (i + 1) q (i + 1)
    else elS s d out a q (i + 1)
theorem elS_succ (s : ByteArray) (d : Nat) (out : List ByteArray) (a : Nat) (q : Bool) (i : Nat) : elS s (d + 1) out a q i =
    if bt s (i : Int) = 34 then elS s d out a (!q) (i + 1)
    else if q = true ∧ bt s (i : Int) = 92 then (match d with | 0 => fin s out a | e + 1 => elS s e out a q (i + 2))
    else if q = false ∧ bt s (i : Int) = 44 then elS s d (addS out (trimS (s.extract a i))) (i + 1) q (i + 1)
    else elS s d out a q (i + 1) := by
  rw [elS.eq_def]
theorem addS_length (out : List ByteArray) (t : ByteArray) : (addS out t).length ≤ out.length + 1 := by
  unfold addS
  split
  · omega
  · simp
theorem impl_el_end (s : ByteArray) (hs : s.size ≤ 4000) (k : Nat) (hk : 2 * s.size + 3 < k) (out : List ByteArray) (hl : out.length ≤ 5000) (a : Nat) (ha : a ≤ s.size) (q : Bool) (i : Int) (hi : (s.size : Int) ≤ i) :
    impl_Elements.l0 (k + 1) s out (a : Int) q i = some (fin s out a) := by
  have hz : (s.extract a s.size).size ≤ s.size := by rw [size_extract]; omega
  simp only [impl_Elements.l0]
  rw [if_neg (by omega), if_pos (by omega), if_pos (by omega), if_pos (by omega), Int.toNat_natCast, impl_Trim_eq _ (by omega) k (by omega)]
  rfl
theorem impl_el (s : ByteArray) (hs : s.size ≤ 4000) : ∀ (n d : Nat), d ≤ n → ∀ (k : Nat) (out : List ByteArray) (a : Nat) (q : Bool) (i : Nat), i ≤ s.size → s.size - i = d → a ≤ i → out.length ≤ i → d + 2 * s.size + 5 < k →
    impl_Elements.l0 k s out (a : Int) q (i : Int) = some (elS s d out a q i) := by
  intro n
  induction n with
  | zero =>
    intro d hdn k out a q i hi hd ha hl hk
    obtain rfl : d = 0 := by omega
    obtain ⟨k, rfl⟩ : ∃ m, k = m + 1 := ⟨k - 1, by omega⟩
    exact impl_el_end s hs k (by omega) out (by omega) a (by omega) q i (by omega)
  | succ n ih =>
    intro d hdn k out a q i hi hd ha hl hk
    obtain ⟨k, rfl⟩ : ∃ m, k = m + 1 := ⟨k - 1, by omega⟩
    cases d with
    | zero => exact impl_el_end s hs k (by omega) out (by omega) a (by omega) q i (by omega)
    | succ d =>
      have hw : wrap64 ((i : Int) + 1) = ((i + 1 : Nat) : Int) := by rw [wrap_id (by omega) (by omega)]; omega
      have hw2 : wrap64 (((i + 1 : Nat) : Int) + 1) = ((i + 2 : Nat) : Int) := by rw [wrap_id (by omega) (by omega)]; omega
      simp only [impl_Elements.l0]
      rw [elS_succ]
      rw [if_pos (by omega), if_pos (by omega), hw, hw2]
      by_cases c1 : bt s (i : Int) = 34
      · rw [if_pos c1, if_pos c1]
        exact ih d (by omega) k out a (!q) (i + 1) (by omega) (by omega) (by omega) (by omega) (by omega)
      · rw [if_neg c1, if_neg c1]
        by_cases c2 : q = true ∧ bt s (i : Int) = 92
        · rw [if_pos c2, if_pos c2]
          cases d with
          | zero =>
            obtain ⟨k, rfl⟩ : ∃ m, k = m + 1 := ⟨k - 1, by omega⟩
            exact impl_el_end s hs k (by omega) out (by omega) a (by omega) q _ (by omega)
          | succ e => exact ih e (by omega) k out a q (i + 2) (by omega) (by omega) (by omega) (by omega) (by omega)
        · rw [if_neg c2, if_neg c2]
          by_cases c3 : q = false ∧ bt s (i : Int) = 44
          · have hz : (s.extract a i).size ≤ s.size := by rw [size_extract]; omega
            rw [if_pos c3, if_pos c3, if_pos (by omega), if_pos (by omega), if_pos (by omega), Int.toNat_natCast, Int.toNat_natCast, impl_Trim_eq _ (by omega) k (by omega), Option.bind_some]
            exact ih d (by omega) k _ (i + 1) q (i + 1) (by omega) (by omega) (by omega) (by have := addS_length out (trimS (s.extract a i)); omega) (by omega)
          · rw [if_neg c3, if_neg c3]
            exact ih d (by omega) k out a q (i + 1) (by omega) (by omega) (by omega) (by omega) (by omega)
theorem spec_add (s : ByteArray) (k : Nat) (out : List ByteArray) (hl : out.length ≤ 5000) (x : ByteArray) (hx : x.size ≤ 4000) (hk : 2 * x.size + 3 < k) (g : List ByteArray → Option (List ByteArray)) :
    ((spec_Trim.f k x).bind fun t => if (t.size : Int) > 0 then (if out.length < 8796093022208 then g (out ++ [t]) else none) else g out) = g (addS out (trimS x)) := by
  rw [spec_Trim_eq x (by omega) k hk, Option.bind_some]
  unfold addS
  by_cases h : (trimS x).toList = ([] : List UInt8)
  · have := (toList_nil _).1 h
    rw [if_pos h, if_neg (by omega)]
  · have : (trimS x).size ≠ 0 := fun e => h ((toList_nil _).2 e)
    rw [if_neg h, if_pos (by omega), if_pos (by omega)]
theorem spec_el_end (s : ByteArray) (hs : s.size ≤ 4000) (k : Nat) (hk : 2 * s.size + 5 < k) (out : List ByteArray) (hl : out.length ≤ 5000) (a : Nat) (ha : a ≤ s.size) (q : Bool) :
    spec_Elements.l0 (k + 2) s out (a : Int) q (s.size : Int) = some (fin s out a) := by
  have hz : (s.extract a s.size).size ≤ s.size := by rw [size_extract]; omega
  have hw : wrap64 ((s.size : Int) + 1) = ((s.size + 1 : Nat) : Int) := by rw [wrap_id (by omega) (by omega)]; omega
  rw [spec_Elements.l0.eq_def]
  dsimp only
  rw [if_pos (by omega), if_pos rfl, spec_Elements.j1.eq_def]
  dsimp only
  rw [if_pos rfl, if_pos (by omega), if_pos (by omega), if_pos (by omega), Int.toNat_natCast, Int.toNat_natCast, hw]
  rw [spec_add s k out hl (s.extract a s.size) (by omega) (by omega) (fun o => spec_Elements.l0 k s o ((s.size + 1 : Nat) : Int) q ((s.size + 1 : Nat) : Int))]
  obtain ⟨k, rfl⟩ : ∃ m, k = m + 1 := ⟨k - 1, by omega⟩
  rw [spec_Elements.l0.eq_def]
  dsimp only
  rw [if_neg (by omega)]
  rfl
theorem spec_el (s : ByteArray) (hs : s.size ≤ 4000) : ∀ (n d : Nat), d ≤ n → ∀ (k : Nat) (out : List ByteArray) (a : Nat) (q : Bool) (i : Nat), i ≤ s.size → s.size - i = d → a ≤ i → out.length ≤ i → 2 * d + 2 * s.size + 9 < k →
    spec_Elements.l0 k s out (a : Int) q (i : Int) = some (elS s d out a q i) := by
  intro n
  induction n with
  | zero =>
    intro d hdn k out a q i hi hd ha hl hk
    obtain rfl : d = 0 := by omega
    obtain ⟨k, rfl⟩ : ∃ m, k = m + 2 := ⟨k - 2, by omega⟩
    obtain rfl : i = s.size := by omega
    exact spec_el_end s hs k (by omega) out (by omega) a (by omega) q
  | succ n ih =>
    intro d hdn k out a q i hi hd ha hl hk
    obtain ⟨k, rfl⟩ : ∃ m, k = m + 2 := ⟨k - 2, by omega⟩
    cases d with
    | zero =>
      obtain rfl : i = s.size := by omega
      exact spec_el_end s hs k (by omega) out (by omega) a (by omega) q
    | succ d =>
      have hw : wrap64 ((i : Int) + 1) = ((i + 1 : Nat) : Int) := by rw [wrap_id (by omega) (by omega)]; omega
      have hw2 : wrap64 (((i + 1 : Nat) : Int) + 1) = ((i + 2 : Nat) : Int) := by rw [wrap_id (by omega) (by omega)]; omega
      have hno : ∀ (b : Bool), (q = true ∨ bt s (i : Int) ≠ 44) → spec_Elements.j1 (k + 1) s out (a : Int) q (i : Int) false = some (elS s (d + 1) out a q i) := by
        intro b hq
        rw [spec_Elements.j1.eq_def]
        dsimp only
        rw [if_neg (by decide), if_pos (by omega), if_pos (by omega), hw, hw2]
        rw [elS_succ]
        by_cases c1 : bt s (i : Int) = 34
        · rw [if_pos c1, if_pos c1]
          exact ih d (by omega) k out a (!q) (i + 1) (by omega) (by omega) (by omega) (by omega) (by omega)
        · rw [if_neg c1, if_neg c1]
          by_cases c2 : q = true
          · rw [if_pos c2]
            by_cases c3 : bt s (i : Int) = 92
            · rw [if_pos c3, if_pos (show q = true ∧ bt s (i : Int) = 92 from ⟨c2, c3⟩)]
              cases d with
              | zero =>
                rw [if_neg (by omega)]
                obtain ⟨k, rfl⟩ : ∃ m, k = m + 2 := ⟨k - 2, by omega⟩
                have : ((i + 1 : Nat) : Int) = (s.size : Int) := by omega
                rw [this]
                exact spec_el_end s hs k (by omega) out (by omega) a (by omega) q
              | succ e =>
                rw [if_pos (by omega)]
                exact ih e (by omega) k out a q (i + 2) (by omega) (by omega) (by omega) (by omega) (by omega)
            · rw [if_neg c3, if_neg (fun z => c3 z.2), if_neg (fun z => by rw [c2] at z; cases z.1)]
              exact ih d (by omega) k out a q (i + 1) (by omega) (by omega) (by omega) (by omega) (by omega)
          · rw [if_neg c2, if_neg (fun z => c2 z.1), if_neg (fun z => by rcases hq with h | h; exact c2 h; exact h z.2)]
            exact ih d (by omega) k out a q (i + 1) (by omega) (by omega) (by omega) (by omega) (by omega)
      rw [spec_Elements.l0.eq_def]
      dsimp only
      rw [if_pos (by omega), if_neg (by omega)]
      by_cases c2 : q = true
      · rw [if_pos c2]
        exact hno true (.inl c2)
      · rw [if_neg c2, if_pos (by omega), if_pos (by omega)]
        by_cases c3 : bt s (i : Int) = 44
        · have hz : (s.extract a i).size ≤ s.size := by rw [size_extract]; omega
          rw [show ((bt s (i : Int)) == 44) = true from beq_iff_eq.mpr c3, spec_Elements.j1.eq_def]
          dsimp only
          rw [if_pos rfl, if_pos (by omega), if_pos (by omega), if_pos (by omega), Int.toNat_natCast, Int.toNat_natCast, hw]
          rw [spec_add s k out (by omega) (s.extract a i) (by omega) (by omega) (fun o => spec_Elements.l0 k s o ((i + 1 : Nat) : Int) q ((i + 1 : Nat) : Int))]
          rw [elS_succ, if_neg (by omega), if_neg (fun z => c2 z.1), if_pos ⟨by simpa using c2, c3⟩]
          exact ih d (by omega) k _ (i + 1) q (i + 1) (by omega) (by omega) (by omega) (by have := addS_length out (trimS (s.extract a i)); omega) (by omega)
        · rw [show ((bt s (i : Int)) == 44) = false from beq_eq_false_iff_ne.mpr c3]
          exact hno true (.inr c3)
def elementsOf (s : ByteArray) : List ByteArray := if (s.size : Int) > 4000 then [] else elS s s.size [] 0 false 0
theorem impl_Elements_eq (s : ByteArray) (k : Nat) (hk : 20000 < k) : impl_Elements.f k s = some (elementsOf s) := by
  unfold impl_Elements.f elementsOf
  by_cases h : (s.size : Int) > 4000
  · rw [if_pos h, if_pos h]
  · rw [if_neg h, if_neg h]
    exact impl_el s (by omega) s.size s.size (Nat.le_refl _) k [] 0 false 0 (Nat.zero_le _) (by omega) (Nat.le_refl _) (Nat.le_refl _) (by omega)
theorem spec_Elements_eq (s : ByteArray) (k : Nat) (hk : 20000 < k) : spec_Elements.f k s = some (elementsOf s) := by
  unfold spec_Elements.f elementsOf
  by_cases h : (s.size : Int) > 4000
  · rw [if_pos h, if_pos h]
  · rw [if_neg h, if_neg h]
    exact spec_el s (by omega) s.size s.size (Nat.le_refl _) k [] 0 false 0 (Nat.zero_le _) (by omega) (Nat.le_refl _) (Nat.le_refl _) (by omega)
theorem elS_length (s : ByteArray) : ∀ (n d : Nat), d ≤ n → ∀ (out : List ByteArray) (a : Nat) (q : Bool) (i : Nat), (elS s d out a q i).length ≤ out.length + d + 1 := by
  intro n
  induction n with
  | zero =>
    intro d hdn out a q i
    obtain rfl : d = 0 := by omega
    exact addS_length _ _
  | succ n ih =>
    intro d hdn out a q i
    cases d with
    | zero => exact addS_length _ _
    | succ d =>
      rw [elS_succ]
      split
      · have := ih d (by omega) out a (!q) (i + 1); omega
      · split
        · cases d with
          | zero => have := addS_length out (trimS (s.extract a s.size)); exact Nat.le_trans this (by omega)
          | succ e => have := ih e (by omega) out a q (i + 2); exact Nat.le_trans this (by omega)
        · split
          · have := ih d (by omega) (addS out (trimS (s.extract a i))) (i + 1) q (i + 1)
            have := addS_length out (trimS (s.extract a i))
            omega
          · have := ih d (by omega) out a q (i + 1); omega
theorem elementsOf_length (s : ByteArray) : (elementsOf s).length ≤ 4001 := by
  unfold elementsOf
  by_cases h : (s.size : Int) > 4000
  · rw [if_pos h]; exact Nat.zero_le _
  · rw [if_neg h]
    have := elS_length s s.size s.size (Nat.le_refl _) [] 0 false 0
    simp at this
    omega

end Go.Proofs.Ytahgiblifkchaaa.P
end

section
/- Plain laws of our own (AllB): about numbers and lists alone; no condition beyond those written. -/
namespace Go.Proofs.Ytahgiblifkchaaa.P
open Go.RowKit Go.Proofs.YtahgiblifkchaaaW.PrintWords Go.Proofs.YtahgiblifkchaaaW.PrintLast Go.Proofs.YtahgiblifkchaaaW.PrintMore
set_option linter.unusedVariables false
set_option linter.unusedSimpArgs false
set_option maxHeartbeats 2000000
def allB (p : Int → Bool) : Nat → Int → Bool
  | 0, _ => true
  | d + 1, i => p i && allB p d (i + 1)
theorem all_loop (F : Nat → Int → Option Bool) (n : Nat) (p : Int → Bool) (K0 : Nat) (stop : ∀ k (i : Int), (n : Int) ≤ i → F (k + 1) i = some true)
    (step : ∀ k (i : Int), 0 ≤ i → i < n → K0 ≤ k → F (k + 1) i = if p i = true then F k (i + 1) else some false) :
    ∀ (d k : Nat) (i : Int), 0 ≤ i → (n : Int) - i = d → d + K0 < k → F k i = some (allB p d i) := by
  intro d
  induction d with
  | zero =>
    intro k i h0 hd hk
    obtain ⟨k, rfl⟩ : ∃ m, k = m + 1 := ⟨k - 1, by omega⟩
    rw [stop k i (by omega)]
    rfl
  | succ d ih =>
    intro k i h0 hd hk
    obtain ⟨k, rfl⟩ : ∃ m, k = m + 1 := ⟨k - 1, by omega⟩
    rw [step k i h0 (by omega) (by omega), ih k (i + 1) (by omega) (by omega) (by omega)]
    simp only [allB]
    cases p i <;> simp
theorem all_from (F : Nat → Int → Option Bool) (n : Nat) (p : Int → Bool) (K0 : Nat) (stop : ∀ k (i : Int), (n : Int) ≤ i → F (k + 1) i = some true)
    (step : ∀ k (i : Int), 0 ≤ i → i < n → K0 ≤ k → F (k + 1) i = if p i = true then F k (i + 1) else some false) (k : Nat) (hk : n + K0 < k) : F k 0 = some (allB p n 0) :=
  all_loop F n p K0 stop step n k 0 (by omega) (by omega) hk

end Go.Proofs.Ytahgiblifkchaaa.P
end

section
/- Plain laws of our own (Within): about numbers and lists alone; no condition beyond those written. -/
namespace Go.Proofs.Ytahgiblifkchaaa.P
open Go.RowKit Go.Proofs.YtahgiblifkchaaaW.PrintWords Go.Proofs.YtahgiblifkchaaaW.PrintLast Go.Proofs.YtahgiblifkchaaaW.PrintMore
set_option linter.unusedVariables false
set_option linter.unusedSimpArgs false
set_option maxHeartbeats 2000000
theorem within_eq (a b c : Int) : impl_within.f a b c = some (decide (b ≤ a ∧ a ≤ c)) := by
  unfold impl_within.f
  by_cases h : b ≤ a
  · rw [if_pos h]; simp [h]
  · rw [if_neg h]; simp [h]

end Go.Proofs.Ytahgiblifkchaaa.P
end

section
/- Plain laws of our own (Token): about numbers and lists alone; no condition beyond those written. -/
namespace Go.Proofs.Ytahgiblifkchaaa.P
open Go.RowKit Go.Proofs.YtahgiblifkchaaaW.PrintWords Go.Proofs.YtahgiblifkchaaaW.PrintLast Go.Proofs.YtahgiblifkchaaaW.PrintMore
set_option linter.unusedVariables false
set_option linter.unusedSimpArgs false
set_option maxHeartbeats 2000000
def tchB (c : Int) : Bool := (impl_isTokenByte.f c).getD false
theorem token_bytes : ∀ n : Fin 256, impl_isTokenByte.f (n.val : Int) = some (tchB (n.val : Int)) ∧ spec_l1tchar.f 20 (n.val : Int) = some (tchB (n.val : Int)) := by decide +kernel
theorem isTokenByte_eq (c : Int) (h0 : 0 ≤ c) (h1 : c ≤ 255) : impl_isTokenByte.f c = some (tchB c) := by
  obtain ⟨n, rfl⟩ := Int.eq_ofNat_of_zero_le h0
  exact (token_bytes ⟨n, by omega⟩).1
theorem tchar_eq (c : Int) (h0 : 0 ≤ c) (h1 : c ≤ 255) (k : Nat) (hk : 20 ≤ k) : spec_l1tchar.f k c = some (tchB c) := by
  obtain ⟨n, rfl⟩ := Int.eq_ofNat_of_zero_le h0
  exact at_rounds (g := fun k => spec_l1tchar.f k (n : Int)) (fun k => spec_l1tchar.mono (n : Int) k) hk (token_bytes ⟨n, by omega⟩).2
def tokB (s : ByteArray) : Bool := decide (1 ≤ s.size ∧ s.size ≤ 4000) && allB (fun i => tchB (bt s i)) s.size 0
theorem impl_Token_eq (s : ByteArray) (k : Nat) (hk : 5000 < k) : impl_Token.f k s = some (tokB s) := by
  unfold impl_Token.f tokB
  rw [within_eq, Option.bind_some]
  by_cases h : 1 ≤ s.size ∧ s.size ≤ 4000
  · rw [if_pos (decide_eq_true (by omega)), decide_eq_true h, Bool.true_and]
    unfold impl_all__impl_isTokenByte.f
    rw [all_from (fun k i => impl_all__impl_isTokenByte.l0 k s i) s.size (fun i => tchB (bt s i)) 0 (fun k i hi => by simp only [impl_all__impl_isTokenByte.l0]; rw [if_neg (by omega)])
      (fun k i h0 h1 _ => by
        have hb := bt_range s i
        simp only [impl_all__impl_isTokenByte.l0]
        rw [if_pos h1, if_pos h0, isTokenByte_eq _ hb.1 hb.2, Option.bind_some, wrap_id (by omega) (by omega)]) k (by omega)]
    rfl
  · rw [if_neg (by simp; omega), decide_eq_false h, Bool.false_and]
theorem spec_Token_eq (s : ByteArray) (k : Nat) (hk : 5000 < k) : spec_Token.f k s = some (tokB s) := by
  obtain ⟨k, rfl⟩ : ∃ m, k = m + 1 := ⟨k - 1, by omega⟩
  unfold spec_Token.f tokB
  by_cases h0 : (s.size : Int) = 0
  · rw [if_pos h0, decide_eq_false (by omega), Bool.false_and]
    simp [spec_Token.j0]
  · rw [if_neg h0]
    simp only [spec_Token.j0]
    by_cases h : 1 ≤ s.size ∧ s.size ≤ 4000
    · rw [if_neg (by simp; omega), decide_eq_true h, Bool.true_and]
      exact all_from (fun k i => spec_Token.l0 k s i) s.size (fun i => tchB (bt s i)) 20 (fun k i hi => by simp only [spec_Token.l0]; rw [if_neg (by omega)])
        (fun k i h0 h1 hk => by
          have hb := bt_range s i
          simp only [spec_Token.l0]
          rw [if_pos h1, if_pos h0, tchar_eq _ hb.1 hb.2 k hk, Option.bind_some, wrap_id (by omega) (by omega)]) k (by omega)
    · rw [if_pos (by simp; omega), decide_eq_false h, Bool.false_and]
def plB (c : Int) : Bool := decide (c = 9) || (decide (32 ≤ c) && decide (c ≠ 127))
theorem isPlain_eq (c : Int) : impl_isPlain.f c = some (plB c) := by
  unfold impl_isPlain.f plB
  by_cases h : c = 9
  · rw [if_pos h]; simp [h]
  · rw [if_neg h]
    by_cases h2 : c ≥ 32
    · rw [if_pos h2]
      by_cases h3 : c = 127 <;> simp [h, h2, h3]
    · rw [if_neg h2]; simp [h, h2]
theorem l1plain_eq (c : Int) : spec_l1plain.f c = some (plB c) := isPlain_eq c
def plainB (s : ByteArray) : Bool := allB (fun i => plB (bt s i)) s.size 0
theorem impl_plain_eq (s : ByteArray) (hs : s.size ≤ 140737488351232) (k : Nat) (hk : s.size < k) : impl_all__impl_isPlain.f k s = some (plainB s) := by
  unfold impl_all__impl_isPlain.f plainB
  exact all_from (fun k i => impl_all__impl_isPlain.l0 k s i) s.size (fun i => plB (bt s i)) 0 (fun k i hi => by simp only [impl_all__impl_isPlain.l0]; rw [if_neg (by omega)])
    (fun k i h0 h1 _ => by
      simp only [impl_all__impl_isPlain.l0]
      rw [if_pos h1, if_pos h0, isPlain_eq, Option.bind_some, wrap_id (by omega) (by omega)]) k (by omega)
theorem spec_plain_eq (s : ByteArray) (hs : s.size ≤ 140737488351232) (k : Nat) (hk : s.size < k) : spec_l5plain.f k s = some (plainB s) := by
  unfold spec_l5plain.f plainB
  exact all_from (fun k i => spec_l5plain.l0 k s i) s.size (fun i => plB (bt s i)) 0 (fun k i hi => by simp only [spec_l5plain.l0]; rw [if_neg (by omega)])
    (fun k i h0 h1 _ => by
      simp only [spec_l5plain.l0]
      rw [if_pos h1, if_pos h0, l1plain_eq, Option.bind_some, wrap_id (by omega) (by omega)]) k (by omega)

end Go.Proofs.Ytahgiblifkchaaa.P
end

section
/- Plain laws of our own (Fields): about numbers and lists alone; no condition beyond those written. -/
namespace Go.Proofs.Ytahgiblifkchaaa.P
open Go.RowKit Go.Proofs.YtahgiblifkchaaaW.PrintWords Go.Proofs.YtahgiblifkchaaaW.PrintLast Go.Proofs.YtahgiblifkchaaaW.PrintMore
set_option linter.unusedVariables false
set_option linter.unusedSimpArgs false
set_option maxHeartbeats 2000000
def fieldOkB (n v : ByteArray) : Bool := decide (n.size ≤ 40) && (tokB n && (decide (v.size ≤ 190) && (plainB v && ((trimS v).toList == v.toList))))
theorem impl_FieldOk_eq (n v : ByteArray) (k : Nat) (hk : 5000 < k) : impl_FieldOk.f k n v = some (fieldOkB n v) := by
  unfold impl_FieldOk.f fieldOkB
  rw [impl_Token_eq n k hk, Option.bind_some]
  by_cases h1 : tokB n = true
  · rw [if_pos h1, h1, Bool.true_and]
    by_cases h2 : n.size ≤ 40
    · rw [if_pos (by omega), decide_eq_true h2, Bool.true_and]
      by_cases h3 : v.size ≤ 190
      · rw [if_pos (by omega), decide_eq_true h3, Bool.true_and, impl_plain_eq v (by omega) k (by omega), Option.bind_some]
        by_cases h4 : plainB v = true
        · rw [if_pos h4, h4, Bool.true_and, impl_Trim_eq v (by omega) k (by omega)]; rfl
        · rw [if_neg h4]; simp [h4]
      · rw [if_neg (by omega), decide_eq_false h3, Bool.false_and]
    · rw [if_neg (by omega), decide_eq_false h2, Bool.false_and]
  · rw [if_neg h1]; simp [h1]
theorem spec_FieldOk_eq (n v : ByteArray) (k : Nat) (hk : 5000 < k) : spec_FieldOk.f k n v = some (fieldOkB n v) := by
  unfold spec_FieldOk.f fieldOkB
  by_cases h2 : n.size ≤ 40
  · rw [if_pos (by omega), decide_eq_true h2, Bool.true_and, spec_Token_eq n k hk, Option.bind_some]
    by_cases h1 : tokB n = true
    · rw [if_pos h1, h1, Bool.true_and]
      by_cases h3 : v.size ≤ 190
      · rw [if_pos (by omega), decide_eq_true h3, Bool.true_and, spec_plain_eq v (by omega) k (by omega), Option.bind_some]
        by_cases h4 : plainB v = true
        · rw [if_pos h4, h4, Bool.true_and, spec_Trim_eq v (by omega) k (by omega)]; rfl
        · rw [if_neg h4]; simp [h4]
      · rw [if_neg (by omega), decide_eq_false h3, Bool.false_and]
    · rw [if_neg h1]; simp [h1]
  · rw [if_neg (by omega), decide_eq_false h2, Bool.false_and]
abbrev FieldT := S71
def fieldsOkB (l : List FieldT) : Bool := decide (l.length ≤ 20) && allB (fun i => fieldOkB (rd_T71 l i).f0 (rd_T71 l i).f1) l.length 0
theorem impl_FieldsOk_eq (l : List FieldT) (k : Nat) (hk : 6000 < k) : impl_FieldsOk.f k l = some (fieldsOkB l) := by
  unfold impl_FieldsOk.f fieldsOkB
  by_cases h : l.length ≤ 20
  · rw [if_neg (by omega), decide_eq_true h, Bool.true_and]
    exact all_from (fun k i => impl_FieldsOk.l0 k l (l.length : Int) i) l.length _ 5001 (fun k i hi => by simp only [impl_FieldsOk.l0]; rw [if_neg (by omega)])
      (fun k i h0 h1 hk => by
        simp only [impl_FieldsOk.l0]
        rw [if_pos h1, if_pos h0, if_pos h1, impl_FieldOk_eq _ _ k (by omega), Option.bind_some, wrap_id (by omega) (by omega)]) k (by omega)
  · rw [if_pos (by omega), decide_eq_false h, Bool.false_and]
theorem spec_FieldsOk_eq (l : List FieldT) (k : Nat) (hk : 6000 < k) : spec_FieldsOk.f k l = some (fieldsOkB l) := by
  unfold spec_FieldsOk.f fieldsOkB
  by_cases h : l.length ≤ 20
  · rw [if_neg (by omega), decide_eq_true h, Bool.true_and]
    exact all_from (fun k i => spec_FieldsOk.l0 k l i) l.length _ 5001 (fun k i hi => by simp only [spec_FieldsOk.l0]; rw [if_neg (by omega)])
      (fun k i h0 h1 hk => by
        simp only [spec_FieldsOk.l0]
        rw [if_pos h1, if_pos h0, spec_FieldOk_eq _ _ k (by omega), Option.bind_some, wrap_id (by omega) (by omega)]) k (by omega)
  · rw [if_pos (by omega), decide_eq_false h, Bool.false_and]
theorem fieldsOk_short {l : List FieldT} (h : fieldsOkB l = true) : l.length ≤ 20 := by
  unfold fieldsOkB at h
  have := (Bool.and_eq_true_iff.1 h).1
  exact of_decide_eq_true this
theorem allB_at {p : Int → Bool} : ∀ (d : Nat) (i : Int), allB p d i = true → ∀ j : Nat, j < d → p (i + j) = true := by
  intro d
  induction d with
  | zero => intro i _ j hj; omega
  | succ d ih =>
    intro i h j hj
    simp only [allB, Bool.and_eq_true] at h
    cases j with
    | zero => simpa using h.1
    | succ j =>
      have := ih (i + 1) h.2 j (by omega)
      rw [show i + ((j + 1 : Nat) : Int) = i + 1 + (j : Int) by omega]
      exact this
theorem fieldsOk_name {l : List FieldT} (h : fieldsOkB l = true) (j : Nat) (hj : j < l.length) : (rd_T71 l (j : Int)).f0.size ≤ 40 ∧ (rd_T71 l (j : Int)).f1.size ≤ 190 := by
  unfold fieldsOkB at h
  have h2 := allB_at _ _ (Bool.and_eq_true_iff.1 h).2 j hj
  rw [Int.zero_add] at h2
  unfold fieldOkB at h2
  simp only [Bool.and_eq_true] at h2
  exact ⟨of_decide_eq_true h2.1, of_decide_eq_true h2.2.2.1⟩
def sameB (a b : ByteArray) : Bool := (foldS a).toList == (foldS b).toList
theorem impl_SameFold_eq (a b : ByteArray) (ha : a.size ≤ 9223372036854775807) (hb : b.size ≤ 9223372036854775807) : impl_SameFold.f a b = some (sameB a b) := by
  unfold impl_SameFold.f impl_Fold.f sameB
  rw [if_pos ha, Option.bind_some, if_pos hb, Option.bind_some]
theorem spec_SameFold_eq (a b : ByteArray) (ha : a.size ≤ 9223372036854775807) (hb : b.size ≤ 9223372036854775807) : spec_SameFold.f a b = some (sameB a b) := by
  unfold spec_SameFold.f spec_Fold.f sameB
  rw [if_pos ha, Option.bind_some, if_pos hb, Option.bind_some]

end Go.Proofs.Ytahgiblifkchaaa.P
end

section
/- Plain laws of our own (Values): about numbers and lists alone; no condition beyond those written. -/
namespace Go.Proofs.Ytahgiblifkchaaa.P
open Go.RowKit Go.Proofs.YtahgiblifkchaaaW.PrintWords Go.Proofs.YtahgiblifkchaaaW.PrintLast Go.Proofs.YtahgiblifkchaaaW.PrintMore
set_option linter.unusedVariables false
set_option linter.unusedSimpArgs false
set_option maxHeartbeats 2000000
def valsFrom (l : List FieldT) (a : ByteArray) : Nat → Nat → List ByteArray → List ByteArray
  | 0, _, out => out
  | d + 1, i, out => valsFrom l a d (i + 1) (if sameB (rd_T71 l (i : Int)).f0 a = true then out ++ [(rd_T71 l (i : Int)).f1] else out)
theorem valsFrom_length (l : List FieldT) (a : ByteArray) : ∀ d i out, (valsFrom l a d i out).length ≤ out.length + d := by
  intro d
  induction d with
  | zero => intro i out; simp [valsFrom]
  | succ d ih =>
    intro i out
    simp only [valsFrom]
    split
    · have := ih (i + 1) (out ++ [(rd_T71 l (i : Int)).f1])
      simp at this; omega
    · have := ih (i + 1) out; omega
theorem impl_vals (l : List FieldT) (a : ByteArray) (ha : a.size ≤ 140737488351232) (hok : fieldsOkB l = true) : ∀ (d k i : Nat) (out : List ByteArray), i ≤ l.length → l.length - i = d → out.length ≤ i → d < k →
    impl_Values.l0 k a out l (l.length : Int) (i : Int) = some (valsFrom l a d i out) := by
  have hl := fieldsOk_short hok
  intro d
  induction d with
  | zero =>
    intro k i out h1 hd ho hk
    obtain ⟨k, rfl⟩ : ∃ m, k = m + 1 := ⟨k - 1, by omega⟩
    simp only [impl_Values.l0]
    rw [if_neg (by omega)]
    rfl
  | succ d ih =>
    intro k i out h1 hd ho hk
    obtain ⟨k, rfl⟩ : ∃ m, k = m + 1 := ⟨k - 1, by omega⟩
    have hn := fieldsOk_name hok i (by omega)
    have hw : wrap64 ((i : Int) + 1) = ((i + 1 : Nat) : Int) := by rw [wrap_id (by omega) (by omega)]; omega
    simp only [impl_Values.l0, valsFrom]
    rw [if_pos (by omega), if_pos (by omega), if_pos (by omega), impl_SameFold_eq _ a (by omega) (by omega), Option.bind_some, hw]
    by_cases hb : sameB (rd_T71 l (i : Int)).f0 a = true
    · rw [if_pos hb, if_pos hb, if_pos (by omega)]
      exact ih k (i + 1) _ (by omega) (by omega) (by simp; omega) (by omega)
    · rw [if_neg hb, if_neg hb]
      exact ih k (i + 1) out (by omega) (by omega) (by omega) (by omega)
theorem spec_vals (l : List FieldT) (a : ByteArray) (ha : a.size ≤ 140737488351232) (hok : fieldsOkB l = true) : ∀ (d k i : Nat) (out : List ByteArray), i ≤ l.length → l.length - i = d → out.length ≤ i → d < k →
    spec_Values.l0 k l a out (i : Int) = some (valsFrom l a d i out) := by
  have hl := fieldsOk_short hok
  intro d
  induction d with
  | zero =>
    intro k i out h1 hd ho hk
    obtain ⟨k, rfl⟩ : ∃ m, k = m + 1 := ⟨k - 1, by omega⟩
    simp only [spec_Values.l0]
    rw [if_neg (by omega)]
    rfl
  | succ d ih =>
    intro k i out h1 hd ho hk
    obtain ⟨k, rfl⟩ : ∃ m, k = m + 1 := ⟨k - 1, by omega⟩
    have hn := fieldsOk_name hok i (by omega)
    have hw : wrap64 ((i : Int) + 1) = ((i + 1 : Nat) : Int) := by rw [wrap_id (by omega) (by omega)]; omega
    simp only [spec_Values.l0, valsFrom]
    rw [if_pos (by omega), if_pos (by omega), spec_SameFold_eq _ a (by omega) (by omega), Option.bind_some, hw]
    by_cases hb : sameB (rd_T71 l (i : Int)).f0 a = true
    · rw [if_pos hb, if_pos hb, if_pos (by omega)]
      exact ih k (i + 1) _ (by omega) (by omega) (by simp; omega) (by omega)
    · rw [if_neg hb, if_neg hb]
      exact ih k (i + 1) out (by omega) (by omega) (by omega) (by omega)
def valuesOf (l : List FieldT) (a : ByteArray) : List ByteArray := if fieldsOkB l = true then valsFrom l a l.length 0 [] else []
theorem valuesOf_length (l : List FieldT) (a : ByteArray) : (valuesOf l a).length ≤ 20 := by
  unfold valuesOf
  split
  · rename_i h
    have h1 := fieldsOk_short h
    have h2 := valsFrom_length l a l.length 0 []
    simp at h2; omega
  · exact Nat.zero_le _
theorem impl_Values_eq (l : List FieldT) (a : ByteArray) (ha : a.size ≤ 140737488351232) (k : Nat) (hk : 6000 < k) : impl_Values.f k l a = some (valuesOf l a) := by
  unfold impl_Values.f valuesOf
  rw [impl_FieldsOk_eq l k hk, Option.bind_some]
  by_cases h : fieldsOkB l = true
  · have := fieldsOk_short h
    rw [if_pos h, if_pos h]
    exact impl_vals l a ha h l.length k 0 [] (Nat.zero_le _) (by omega) (Nat.le_refl _) (by omega)
  · rw [if_neg h, if_neg h]
theorem spec_Values_eq (l : List FieldT) (a : ByteArray) (ha : a.size ≤ 140737488351232) (k : Nat) (hk : 6000 < k) : spec_Values.f k l a = some (valuesOf l a) := by
  unfold spec_Values.f valuesOf
  rw [spec_FieldsOk_eq l k hk, Option.bind_some]
  by_cases h : fieldsOkB l = true
  · have := fieldsOk_short h
    rw [if_pos h, if_pos h]
    exact spec_vals l a ha h l.length k 0 [] (Nat.zero_le _) (by omega) (Nat.le_refl _) (by omega)
  · rw [if_neg h, if_neg h]

end Go.Proofs.Ytahgiblifkchaaa.P
end

section
/- Plain laws of our own (Joined): about numbers and lists alone; no condition beyond those written. -/
namespace Go.Proofs.Ytahgiblifkchaaa.P
open Go.RowKit Go.Proofs.YtahgiblifkchaaaW.PrintWords Go.Proofs.YtahgiblifkchaaaW.PrintLast Go.Proofs.YtahgiblifkchaaaW.PrintMore
set_option linter.unusedVariables false
set_option linter.unusedSimpArgs false
set_option maxHeartbeats 2000000
def tailB (acc : ByteArray) : List ByteArray → ByteArray
  | [] => acc
  | x :: r => tailB ((acc ++ (⟨#[44, 32]⟩ : ByteArray)) ++ x) r
theorem tailB_toList : ∀ (r : List ByteArray) (acc : ByteArray), (tailB acc r).data.toList = acc.data.toList ++ Go.Lib.joinTail [44, 32] (r.map fun x => x.data.toList) := by
  intro r
  induction r with
  | nil => intro acc; simp [tailB, Go.Lib.joinTail]
  | cons x r ih =>
    intro acc
    simp only [tailB]
    rw [ih]
    simp [Go.Lib.joinTail]
theorem spec_join (vs : List ByteArray) (hn : vs.length ≤ 20) (hs : ∀ x ∈ vs, x.size ≤ 190) : ∀ (r : List ByteArray) (k i : Nat) (acc : ByteArray), vs.drop i = r → 1 ≤ i → acc.size ≤ 200 * i → r.length < k → spec_Joined.l0 k vs acc (i : Int) = some (tailB acc r) := by
  intro r
  induction r with
  | nil =>
    intro k i acc h h1 ha hk
    obtain ⟨k, rfl⟩ : ∃ m, k = m + 1 := ⟨k - 1, by omega⟩
    have hi := List.drop_eq_nil_iff.mp h
    simp only [spec_Joined.l0]
    rw [if_neg (by omega)]
    rfl
  | cons x r ih =>
    intro k i acc h h1 ha hk
    obtain ⟨k, rfl⟩ : ∃ m, k = m + 1 := ⟨k - 1, by omega⟩
    have hi : i < vs.length := by
      by_cases hq : i < vs.length
      · exact hq
      · rw [List.drop_eq_nil_iff.mpr (by omega)] at h; cases h
    rw [List.drop_eq_getElem_cons hi] at h
    injection h with h2 h3
    have hx : x.size ≤ 190 := by rw [← h2]; exact hs _ (List.getElem_mem hi)
    have e1 : rdOf ByteArray.empty vs (i : Int) = x := by
      unfold rdOf
      simp only [Int.toNat_natCast, List.getD_eq_getElem?_getD, List.getElem?_eq_getElem hi, Option.getD_some]
      exact h2
    have hw : wrap64 ((i : Int) + 1) = ((i + 1 : Nat) : Int) := by rw [wrap_id (by omega) (by omega)]; omega
    have s2 : (acc ++ (⟨#[44, 32]⟩ : ByteArray)).size = acc.size + 2 := by rw [ByteArray.size_append]; rfl
    have s3 : ((acc ++ (⟨#[44, 32]⟩ : ByteArray)) ++ x).size = acc.size + 2 + x.size := by rw [ByteArray.size_append, s2]
    simp only [spec_Joined.l0, tailB]
    rw [if_pos (by omega), if_pos (by omega), if_pos (by omega), if_pos (by omega), e1, if_pos (by omega), hw]
    simp only [List.length_cons] at hk
    exact ih k (i + 1) _ h3 (by omega) (by omega) (by omega)
theorem joinB_eq {x : ByteArray} {r : List ByteArray} {acc : ByteArray} (h : acc.data.toList = x.data.toList) : tailB acc r = ⟨(joinL (x :: r)).toArray⟩ := by
  have e : (tailB acc r).data.toList = joinL (x :: r) := by
    rw [tailB_toList, h]
    unfold joinL
    rw [List.map_cons, Go.Lib.join_cons]
  have e2 : (tailB acc r).data = (joinL (x :: r)).toArray := by
    rw [← e, Array.toArray_toList]
  rw [← e2]
theorem spec_join0 (vs : List ByteArray) (hn : vs.length ≤ 20) (hs : ∀ x ∈ vs, x.size ≤ 190) (k : Nat) (hk : 100 < k) : spec_Joined.l0 k vs (⟨#[]⟩ : ByteArray) 0 = some ⟨(joinL vs).toArray⟩ := by
  obtain ⟨k, rfl⟩ : ∃ m, k = m + 1 := ⟨k - 1, by omega⟩
  rw [spec_Joined.l0.eq_def]
  dsimp only
  cases vs with
  | nil => rw [if_neg (by simp)]; rfl
  | cons x r =>
    have hx : x.size ≤ 190 := hs x (List.mem_cons_self ..)
    have e1 : rdOf ByteArray.empty (x :: r) 0 = x := rfl
    have hw : wrap64 ((0 : Int) + 1) = ((1 : Nat) : Int) := by rw [wrap_id (by omega) (by omega)]; omega
    have s0 : (⟨#[]⟩ : ByteArray).size = 0 := rfl
    have s3 : ((⟨#[]⟩ : ByteArray) ++ x).size = x.size := by rw [ByteArray.size_append, s0]; omega
    simp only [List.length_cons] at hn
    rw [if_pos (by simp only [List.length_cons]; omega), if_neg (by omega), if_pos (by omega), e1, if_pos (by omega), hw, spec_join (x :: r) (by simp only [List.length_cons]; omega) hs r k 1 _ rfl (Nat.le_refl _) (by omega) (by omega)]
    rw [joinB_eq (x := x) (by simp)]
theorem valsFrom_small (l : List FieldT) (a : ByteArray) (hok : fieldsOkB l = true) : ∀ d i out, i + d ≤ l.length → (∀ x ∈ out, x.size ≤ 190) → ∀ x ∈ valsFrom l a d i out, x.size ≤ 190 := by
  intro d
  induction d with
  | zero => intro i out _ h; exact h
  | succ d ih =>
    intro i out hi h
    simp only [valsFrom]
    refine ih (i + 1) _ (by omega) ?_
    split
    · intro x hx
      rcases List.mem_append.mp hx with h1 | h1
      · exact h x h1
      · obtain rfl := List.mem_singleton.mp h1
        exact (fieldsOk_name hok i (by omega)).2
    · exact h
theorem valuesOf_small (l : List FieldT) (a : ByteArray) : ∀ x ∈ valuesOf l a, x.size ≤ 190 := by
  unfold valuesOf
  split
  · rename_i h
    exact valsFrom_small l a h l.length 0 [] (by omega) (fun x hx => by cases hx)
  · intro x hx; cases hx
theorem lens_small : ∀ (vs : List ByteArray), (∀ x ∈ vs, x.size ≤ 190) → Go.Lib.lens (vs.map fun x => x.data.toList) ≤ 190 * vs.length := by
  intro vs
  induction vs with
  | nil => intro _; simp [Go.Lib.lens]
  | cons x r ih =>
    intro h
    have h1 := h x (List.mem_cons_self ..)
    have h2 := ih (fun y hy => h y (List.mem_cons_of_mem _ hy))
    have h3 : x.data.toList.length = x.size := by rw [Array.length_toList]; rfl
    simp only [Go.Lib.lens, List.map_cons, List.sum_cons, List.length_cons] at h2 ⊢
    omega
theorem joinL_length (vs : List ByteArray) (hn : vs.length ≤ 20) (hs : ∀ x ∈ vs, x.size ≤ 190) : (joinL vs).length ≤ 5000 := by
  unfold joinL
  cases vs with
  | nil => simp [Go.Lib.join_nil]
  | cons x r =>
    have h := lens_small (x :: r) hs
    simp only [List.map_cons] at h ⊢
    rw [Go.Lib.join_length]
    simp only [List.length_cons, List.length_nil, List.length_map] at h hn ⊢
    omega
def joinedOf (l : List FieldT) (a : ByteArray) : ByteArray := ⟨(joinL (valuesOf l a)).toArray⟩
theorem impl_Joined_eq (l : List FieldT) (a : ByteArray) (ha : a.size ≤ 140737488351232) (k : Nat) (hk : 6000 < k) : impl_Joined.f k l a = some (joinedOf l a) := by
  have h1 := valuesOf_length l a
  have h2 := joinL_length (valuesOf l a) h1 (valuesOf_small l a)
  unfold impl_Joined.f joinedOf
  rw [impl_Values_eq l a ha k hk, Option.bind_some, if_pos ⟨by omega, by omega⟩]
theorem spec_Joined_eq (l : List FieldT) (a : ByteArray) (ha : a.size ≤ 140737488351232) (k : Nat) (hk : 6000 < k) : spec_Joined.f k l a = some (joinedOf l a) := by
  unfold spec_Joined.f joinedOf
  rw [spec_Values_eq l a ha k hk, Option.bind_some]
  exact spec_join0 _ (valuesOf_length l a) (valuesOf_small l a) k (by omega)

end Go.Proofs.Ytahgiblifkchaaa.P
end

section
/- Plain laws of our own (Unquote): about numbers and lists alone; no condition beyond those written. -/
namespace Go.Proofs.Ytahgiblifkchaaa.P
open Go.RowKit Go.Proofs.YtahgiblifkchaaaW.PrintWords Go.Proofs.YtahgiblifkchaaaW.PrintLast Go.Proofs.YtahgiblifkchaaaW.PrintMore
set_option linter.unusedVariables false
set_option linter.unusedSimpArgs false
set_option maxHeartbeats 2000000
def unqR (x : ByteArray) : Nat → List Int → Nat → Option (List Int)
  | 0, out, _ => some out
  | d + 1, out, i =>
    if bt x (i : Int) = 34 then none
    else if bt x (i : Int) = 92 then (match d with | 0 => none | e + 1 => if plB (bt x ((i + 1 : Nat) : Int)) = true then unqR x e (out ++ [bt x ((i + 1 : Nat) : Int)]) (i + 2) else none)
    else if plB (bt x (i : Int)) = true then unqR x d (out ++ [bt x (i : Int)]) (i + 1) else none
theorem unqR_succ (x : ByteArray) (d : Nat) (out : List Int) (i : Nat) : unqR x (d + 1) out i =
    if bt x (i : Int) = 34 then none
    else if bt x (i : Int) = 92 then (match d with | 0 => none | e + 1 => if plB (bt x ((i + 1 : Nat) : Int)) = true then unqR x e (out ++ [bt x ((i + 1 : Nat) : Int)]) (i + 2) else none)
    else if plB (bt x (i : Int)) = true then unqR x d (out ++ [bt x (i : Int)]) (i + 1) else none := by
  rw [unqR.eq_def]
def unqE : Option (List Int) → ByteArray × Bool
  | none => ((⟨#[]⟩ : ByteArray), false)
  | some out => if (out.length : Int) > 4000 then ((⟨#[]⟩ : ByteArray), false) else (strOfNums out, true)
theorem unqE_size (o : Option (List Int)) : (unqE o).1.size ≤ 4000 := by
  unfold unqE
  split
  · exact Nat.zero_le _
  · split
    · exact Nat.zero_le _
    · show (strOfNums _).size ≤ 4000
      rw [strOfNums_size]
      omega
theorem impl_unq (x : ByteArray) (hx : x.size ≤ 100000) : ∀ (n d : Nat), d ≤ n → ∀ (k : Nat) (out : List Int) (i : Nat), i ≤ x.size → x.size - i = d → out.length ≤ i → d < k →
    impl_Unquote.l0 k x out (i : Int) = some (unqE (unqR x d out i)) := by
  intro n
  induction n with
  | zero =>
    intro d hdn k out i hi hd ho hk
    obtain rfl : d = 0 := by omega
    obtain ⟨k, rfl⟩ : ∃ m, k = m + 1 := ⟨k - 1, by omega⟩
    simp only [impl_Unquote.l0]
    rw [if_neg (by omega)]
    simp only [unqR, unqE]
    split <;> rfl
  | succ n ih =>
    intro d hdn k out i hi hd ho hk
    obtain ⟨k, rfl⟩ : ∃ m, k = m + 1 := ⟨k - 1, by omega⟩
    cases d with
    | zero =>
      simp only [impl_Unquote.l0]
      rw [if_neg (by omega)]
      simp only [unqR, unqE]
      split <;> rfl
    | succ d =>
      have hw : wrap64 ((i : Int) + 1) = ((i + 1 : Nat) : Int) := by rw [wrap_id (by omega) (by omega)]; omega
      have hw2 : wrap64 (((i + 1 : Nat) : Int) + 1) = ((i + 2 : Nat) : Int) := by rw [wrap_id (by omega) (by omega)]; omega
      simp only [impl_Unquote.l0]
      rw [unqR_succ, if_pos (by omega), if_pos (by omega), hw, hw2]
      by_cases c1 : bt x (i : Int) = 34
      · rw [if_pos c1, if_pos c1]; rfl
      · rw [if_neg c1, if_neg c1]
        by_cases c2 : bt x (i : Int) = 92
        · rw [if_pos c2, if_pos c2]
          cases d with
          | zero => rw [if_pos (by omega)]; rfl
          | succ e =>
            rw [if_neg (by omega), if_pos (by omega), if_pos (by omega), isPlain_eq, Option.bind_some]
            by_cases c3 : plB (bt x ((i + 1 : Nat) : Int)) = true
            · dsimp only
              rw [if_pos c3, if_pos c3, if_pos (by omega)]
              exact ih e (by omega) k _ (i + 2) (by omega) (by omega) (by simp; omega) (by omega)
            · dsimp only
              rw [if_neg c3, if_neg c3]; rfl
        · rw [if_neg c2, if_neg c2, if_neg (by omega), isPlain_eq, Option.bind_some]
          by_cases c3 : plB (bt x (i : Int)) = true
          · rw [if_pos c3, if_pos c3, if_pos (by omega)]
            exact ih d (by omega) k _ (i + 1) (by omega) (by omega) (by simp; omega) (by omega)
          · rw [if_neg c3, if_neg c3]; rfl
theorem spec_unq (x : ByteArray) (hx : x.size ≤ 100000) : ∀ (n d : Nat), d ≤ n → ∀ (k : Nat) (out : List Int) (i : Nat), i ≤ x.size → x.size - i = d → out.length ≤ i → d < k →
    spec_Unquote.l0 k out x (i : Int) = some (unqE (unqR x d out i)) := by
  intro n
  induction n with
  | zero =>
    intro d hdn k out i hi hd ho hk
    obtain rfl : d = 0 := by omega
    obtain ⟨k, rfl⟩ : ∃ m, k = m + 1 := ⟨k - 1, by omega⟩
    simp only [spec_Unquote.l0]
    rw [if_neg (by omega)]
    simp only [unqR, unqE]
    split <;> rfl
  | succ n ih =>
    intro d hdn k out i hi hd ho hk
    obtain ⟨k, rfl⟩ : ∃ m, k = m + 1 := ⟨k - 1, by omega⟩
    cases d with
    | zero =>
      simp only [spec_Unquote.l0]
      rw [if_neg (by omega)]
      simp only [unqR, unqE]
      split <;> rfl
    | succ d =>
      have hw : wrap64 ((i : Int) + 1) = ((i + 1 : Nat) : Int) := by rw [wrap_id (by omega) (by omega)]; omega
      have hw2 : wrap64 (((i + 1 : Nat) : Int) + 1) = ((i + 2 : Nat) : Int) := by rw [wrap_id (by omega) (by omega)]; omega
      simp only [spec_Unquote.l0]
      rw [unqR_succ, if_pos (by omega), if_pos (by omega), hw, hw2]
      by_cases c2 : bt x (i : Int) = 92
      · have c1 : ¬ bt x (i : Int) = 34 := by omega
        rw [if_pos c2, if_neg c1, if_pos c2]
        cases d with
        | zero => rw [if_pos (by omega)]; rfl
        | succ e =>
          rw [if_neg (by omega), if_pos (by omega), if_pos (by omega), l1plain_eq, Option.bind_some]
          by_cases c3 : plB (bt x ((i + 1 : Nat) : Int)) = true
          · dsimp only
            rw [if_pos c3, if_pos c3, if_pos (by omega)]
            exact ih e (by omega) k _ (i + 2) (by omega) (by omega) (by simp; omega) (by omega)
          · dsimp only
            rw [if_neg c3, if_neg c3]; rfl
      · rw [if_neg c2, if_neg c2]
        by_cases c1 : bt x (i : Int) = 34
        · rw [if_pos c1, if_pos c1]; rfl
        · rw [if_neg c1, if_neg c1, l1plain_eq, Option.bind_some]
          by_cases c3 : plB (bt x (i : Int)) = true
          · rw [if_pos c3, if_pos c3, if_pos (by omega)]
            exact ih d (by omega) k _ (i + 1) (by omega) (by omega) (by simp; omega) (by omega)
          · rw [if_neg c3, if_neg c3]; rfl
def unq (s : ByteArray) : ByteArray × Bool := if s.size < 2 ∨ bt s 0 ≠ 34 ∨ bt s ((s.size - 1 : Nat) : Int) ≠ 34 then ((⟨#[]⟩ : ByteArray), false) else unqE (unqR (s.extract 1 (s.size - 1)) (s.size - 2) [] 0)
theorem unq_size (s : ByteArray) : (unq s).1.size ≤ 4000 := by
  unfold unq
  split
  · exact Nat.zero_le _
  · exact unqE_size _
theorem impl_Unquote_eq (s : ByteArray) (hs : s.size ≤ 8000) (k : Nat) (hk : s.size + 3 < k) : impl_Unquote.f k s = some (unq s) := by
  obtain ⟨k, rfl⟩ : ∃ m, k = m + 1 := ⟨k - 1, by omega⟩
  unfold impl_Unquote.f unq
  by_cases h1 : s.size < 2
  · rw [if_pos (by omega), if_pos (Or.inl h1)]
    simp [impl_Unquote.j0]
  · have hw : wrap64 ((s.size : Int) - 1) = ((s.size - 1 : Nat) : Int) := by rw [wrap_id (by omega) (by omega)]; omega
    rw [if_neg (by omega), if_pos (by omega), hw]
    by_cases h2 : bt s 0 = 34
    · rw [if_pos h2, if_pos (by omega), if_pos (by omega)]
      simp only [impl_Unquote.j0]
      by_cases h3 : bt s ((s.size - 1 : Nat) : Int) = 34
      · rw [if_neg (by simp [h3]), hw, if_pos (by omega), if_pos (by omega), if_neg (by simp [h2, h3]; omega), Int.toNat_natCast]
        have hz : (s.extract 1 (s.size - 1)).size = s.size - 2 := by rw [size_extract]; omega
        exact impl_unq _ (by omega) _ _ (Nat.le_refl _) k [] 0 (Nat.zero_le _) (by omega) (Nat.le_refl _) (by omega)
      · rw [if_pos (by simpa using h3), if_pos (Or.inr (Or.inr h3))]
    · rw [if_neg h2, if_pos (Or.inr (Or.inl h2))]
      simp [impl_Unquote.j0]
theorem spec_Unquote_eq (s : ByteArray) (hs : s.size ≤ 8000) (k : Nat) (hk : s.size + 3 < k) : spec_Unquote.f k s = some (unq s) := by
  obtain ⟨k, rfl⟩ : ∃ m, k = m + 1 := ⟨k - 1, by omega⟩
  unfold spec_Unquote.f unq
  by_cases h1 : s.size < 2
  · rw [if_pos (by omega), if_pos (Or.inl h1)]
    simp [spec_Unquote.j0]
  · have hw : wrap64 ((s.size : Int) - 1) = ((s.size - 1 : Nat) : Int) := by rw [wrap_id (by omega) (by omega)]; omega
    rw [if_neg (by omega), if_neg (by omega), if_pos (by omega), hw]
    by_cases h2 : bt s 0 = 34
    · rw [if_pos h2, if_pos (by omega), if_pos (by omega)]
      simp only [spec_Unquote.j0]
      by_cases h3 : bt s ((s.size - 1 : Nat) : Int) = 34
      · rw [if_neg (by simp [h3]), hw, if_pos (by omega), if_pos (by omega), if_neg (by simp [h2, h3]; omega), Int.toNat_natCast]
        have hz : (s.extract 1 (s.size - 1)).size = s.size - 2 := by rw [size_extract]; omega
        exact spec_unq _ (by omega) _ _ (Nat.le_refl _) k [] 0 (Nat.zero_le _) (by omega) (Nat.le_refl _) (by omega)
      · rw [if_pos (by simpa using h3), if_pos (Or.inr (Or.inr h3))]
    · rw [if_neg h2, if_pos (Or.inr (Or.inl h2))]
      simp [spec_Unquote.j0]

end Go.Proofs.Ytahgiblifkchaaa.P
end

section
/- Plain laws of our own (Words): about numbers and lists alone; no condition beyond those written. -/
namespace Go.Proofs.Ytahgiblifkchaaa.P
open Go.RowKit Go.Proofs.YtahgiblifkchaaaW.PrintWords Go.Proofs.YtahgiblifkchaaaW.PrintLast Go.Proofs.YtahgiblifkchaaaW.PrintMore
set_option linter.unusedVariables false
set_option linter.unusedSimpArgs false
set_option maxHeartbeats 2000000
def wordsOf (l : List FieldT) (a : ByteArray) : List ByteArray := elementsOf (joinedOf l a)
theorem wordsOf_length (l : List FieldT) (a : ByteArray) : (wordsOf l a).length ≤ 4001 := elementsOf_length _
theorem impl_Words_eq (l : List FieldT) (a : ByteArray) (ha : a.size ≤ 140737488351232) (k : Nat) (hk : 20000 < k) : impl_Words.f k l a = some (wordsOf l a) := by
  unfold impl_Words.f wordsOf
  rw [impl_Joined_eq l a ha k (by omega), Option.bind_some, impl_Elements_eq _ k hk, Option.bind_some]
theorem spec_Words_eq (l : List FieldT) (a : ByteArray) (ha : a.size ≤ 140737488351232) (k : Nat) (hk : 20000 < k) : spec_Words.f k l a = some (wordsOf l a) := by
  unfold spec_Words.f wordsOf
  rw [spec_Joined_eq l a ha k (by omega), Option.bind_some, spec_Elements_eq _ k hk, Option.bind_some]

end Go.Proofs.Ytahgiblifkchaaa.P
end

section
/- Plain laws of our own (ReadDirs): about numbers and lists alone; no condition beyond those written. -/
namespace Go.Proofs.Ytahgiblifkchaaa.P
open Go.RowKit Go.Proofs.YtahgiblifkchaaaW.PrintWords Go.Proofs.YtahgiblifkchaaaW.PrintLast Go.Proofs.YtahgiblifkchaaaW.PrintMore
set_option linter.unusedVariables false
set_option linter.unusedSimpArgs false
set_option maxHeartbeats 2000000
theorem at_drop2 {l : List ByteArray} {i : Nat} {y : ByteArray} {r : List ByteArray} (h : l.drop i = y :: r) : i < l.length ∧ rdOf ByteArray.empty l (i : Int) = y ∧ l.drop (i + 1) = r := by
  have hi : i < l.length := by
    by_cases hq : i < l.length
    · exact hq
    · rw [List.drop_eq_nil_iff.mpr (by omega)] at h; cases h
  rw [List.drop_eq_getElem_cons hi] at h
  injection h with h2 h3
  refine ⟨hi, ?_, h3⟩
  unfold rdOf
  simp only [Int.toNat_natCast, List.getD_eq_getElem?_getD, List.getElem?_eq_getElem hi, Option.getD_some]
  exact h2
theorem bt_iff (s : ByteArray) (m : Nat) (h : m < s.size) : s.data.toList[m]? = some 61 ↔ bt s (m : Int) = 61 := by
  have hl : m < s.data.toList.length := by rw [data_length]; exact h
  rw [List.getElem?_eq_getElem hl]
  unfold bt
  rw [dif_pos (show ((m : Int)).toNat < s.size by simpa using h)]
  have e : s[((m : Int)).toNat]'(by simpa using h) = s.data.toList[m] := by
    simp only [Int.toNat_natCast, Array.getElem_toList]
    rfl
  rw [e, Option.some.injEq]
  constructor
  · intro q; rw [q]; rfl
  · intro q
    have q2 : (s.data.toList[m]).toNat = 61 := by omega
    exact UInt8.toNat_inj.mp (by simpa using q2)
theorem idx_list (c : UInt8) : ∀ l : List UInt8, (Lib.indexByte l c = -1 ∧ ∀ k : Nat, l[k]? ≠ some c) ∨ ∃ o : Nat, Lib.indexByte l c = (o : Int) ∧ l[o]? = some c ∧ ∀ k : Nat, k < o → l[k]? ≠ some c
  | [] => .inl ⟨rfl, fun k => by simp⟩
  | b :: l => by
    by_cases hb : b = c
    · refine .inr ⟨0, ?_, ?_, fun k hk => absurd hk (Nat.not_lt_zero _)⟩
      · unfold Lib.indexByte; rw [if_pos (beq_iff_eq.mpr hb)]; rfl
      · simp [hb]
    · have hb' : ¬ (b == c) = true := fun h => hb (beq_iff_eq.mp h)
      rcases idx_list c l with ⟨h1, h2⟩ | ⟨o, h1, h2, h3⟩
      · refine .inl ⟨?_, fun k => ?_⟩
        · unfold Lib.indexByte; rw [if_neg hb', if_pos (beq_iff_eq.mpr h1)]
        · cases k with
          | zero => simpa using hb
          | succ k => simpa using h2 k
      · refine .inr ⟨o + 1, ?_, by simpa using h2, fun k hk => ?_⟩
        · unfold Lib.indexByte
          rw [if_neg hb', if_neg (fun h => by have := beq_iff_eq.mp h; omega), h1]
          omega
        · cases k with
          | zero => simpa using hb
          | succ k => simpa using h3 k (by omega)
def eqAt (s : ByteArray) : Nat → Nat → Nat
  | 0, i => i
  | d + 1, i => if bt s (i : Int) = 61 then i else eqAt s d (i + 1)
theorem eqAt_spec (s : ByteArray) : ∀ d i, i ≤ eqAt s d i ∧ eqAt s d i ≤ i + d ∧ (∀ m, i ≤ m → m < eqAt s d i → bt s (m : Int) ≠ 61) ∧ (eqAt s d i < i + d → bt s ((eqAt s d i : Nat) : Int) = 61)
  | 0, i => ⟨Nat.le_refl _, Nat.le_refl _, fun m h1 h2 => by simp only [eqAt] at h2; omega, fun h => by simp only [eqAt] at h; omega⟩
  | d + 1, i => by
    simp only [eqAt]
    by_cases h : bt s (i : Int) = 61
    · rw [if_pos h]
      exact ⟨Nat.le_refl _, by omega, fun m h1 h2 => by omega, fun _ => h⟩
    · rw [if_neg h]
      obtain ⟨h1, h2, h3, h4⟩ := eqAt_spec s d (i + 1)
      refine ⟨by omega, by omega, fun m q1 q2 => ?_, fun q => h4 (by omega)⟩
      by_cases e : m = i
      · rw [e]; exact h
      · exact h3 m (by omega) q2
def eqI (s : ByteArray) : Nat := eqAt s s.size 0
theorem eqI_le (s : ByteArray) : eqI s ≤ s.size := by
  have := (eqAt_spec s s.size 0).2.1
  unfold eqI; omega
theorem index_eq (s : ByteArray) : Lib.indexByte s.data.toList 61 = if eqI s = s.size then -1 else (eqI s : Int) := by
  obtain ⟨h1, h2, h3, h4⟩ := eqAt_spec s s.size 0
  have hle := eqI_le s
  change eqAt s s.size 0 < 0 + s.size → _ at h4
  have hlen : s.data.toList.length = s.size := data_length s
  rcases idx_list 61 s.data.toList with ⟨q1, q2⟩ | ⟨o, q1, q2, q3⟩
  · rw [q1]
    by_cases e : eqI s = s.size
    · rw [if_pos e]
    · exact absurd ((bt_iff s (eqI s) (by omega)).mpr (h4 (by unfold eqI at e hle; omega))) (q2 _)
  · have ho : o < s.size := by
      by_cases hq : o < s.size
      · exact hq
      · rw [List.getElem?_eq_none (by omega)] at q2; cases q2
    have hb := (bt_iff s o ho).mp q2
    have e1 : ¬ o < eqI s := fun h => h3 o (Nat.zero_le _) h hb
    have e2 : ¬ eqI s < o := fun h => q3 _ h ((bt_iff s (eqI s) (by omega)).mpr (h4 (by unfold eqI at h; omega)))
    have e3 : eqI s = o := by omega
    rw [q1, if_neg (by omega), e3]
theorem extract_whole (s : ByteArray) : s.extract 0 s.size = s := by simp
theorem spec_upto (s : ByteArray) (hs : s.size ≤ 140737488351232) : ∀ (d k i : Nat), i + d = s.size → d < k → spec_l6upto.l0 k s 61 (i : Int) = some (s.extract 0 (eqAt s d i)) := by
  intro d
  induction d with
  | zero =>
    intro k i h hk
    obtain ⟨k, rfl⟩ : ∃ m, k = m + 1 := ⟨k - 1, by omega⟩
    simp only [spec_l6upto.l0, eqAt]
    rw [if_neg (by omega), show i = s.size by omega, extract_whole]
  | succ d ih =>
    intro k i h hk
    obtain ⟨k, rfl⟩ : ∃ m, k = m + 1 := ⟨k - 1, by omega⟩
    have hw : wrap64 ((i : Int) + 1) = ((i + 1 : Nat) : Int) := by rw [wrap_id (by omega) (by omega)]; omega
    simp only [spec_l6upto.l0, eqAt]
    rw [if_pos (by omega), if_pos (by omega), hw]
    by_cases hb : bt s (i : Int) = 61
    · rw [if_pos hb, if_pos hb, if_pos (by omega), Int.toNat_natCast]
    · rw [if_neg hb, if_neg hb]
      exact ih k (i + 1) (by omega) (by omega)
def partN (w : ByteArray) : ByteArray := foldS (trimS (w.extract 0 (eqI w)))
def partV (w : ByteArray) : ByteArray := if eqI w = w.size then (⟨#[]⟩ : ByteArray) else if (unq (trimS (w.extract (eqI w + 1) w.size))).2 = true then (unq (trimS (w.extract (eqI w + 1) w.size))).1 else trimS (w.extract (eqI w + 1) w.size)
theorem partV_size (w : ByteArray) (hw : w.size ≤ 4000) : (partV w).size ≤ 4000 := by
  unfold partV
  have h1 := trimS_size (w.extract (eqI w + 1) w.size)
  have h2 : (w.extract (eqI w + 1) w.size).size ≤ w.size := by rw [size_extract]; omega
  split
  · exact Nat.zero_le _
  · split
    · exact unq_size _
    · omega
theorem spec_l12part_eq (w : ByteArray) (hw : w.size ≤ 4000) (k : Nat) (hk : 9000 < k) : spec_l12part.f k w = some (partN w, partV w) := by
  have hj := eqI_le w
  have hz : (w.extract 0 (eqI w)).size = eqI w := by rw [size_extract]; omega
  have ht := trimS_size (w.extract 0 (eqI w))
  unfold spec_l12part.f spec_l6upto.f partV
  rw [show (0 : Int) = ((0 : Nat) : Int) from rfl, spec_upto w (by omega) w.size k 0 (by omega) (by omega)]
  simp only [Option.bind_some]
  change (if ((w.extract 0 (eqI w)).size : Int) = _ then _ else _) = _
  rw [hz]
  by_cases h : eqI w = w.size
  · rw [if_pos (by omega), if_pos h]
    change ((spec_Trim.f k (w.extract 0 (eqI w))).bind _) = _
    rw [spec_Trim_eq _ (by omega) k (by omega), Option.bind_some]
    unfold spec_Fold.f
    rw [if_pos (by omega), Option.bind_some]
    rfl
  · have hv : (w.extract (eqI w + 1) w.size).size ≤ w.size := by rw [size_extract]; omega
    have hv2 := trimS_size (w.extract (eqI w + 1) w.size)
    have hw1 : wrap64 ((eqI w : Int) + 1) = ((eqI w + 1 : Nat) : Int) := by rw [wrap_id (by omega) (by omega)]; omega
    rw [if_neg (by omega), if_neg h]
    change (if 0 ≤ wrap64 (((w.extract 0 (eqI w)).size : Int) + 1) then (if wrap64 (((w.extract 0 (eqI w)).size : Int) + 1) ≤ (w.size : Int) then ((spec_Trim.f k (w.extract ((wrap64 (((w.extract 0 (eqI w)).size : Int) + 1)) : Int).toNat w.size)).bind _) else none) else none) = _
    rw [hz, hw1, if_pos (by omega), if_pos (by omega), Int.toNat_natCast, spec_Trim_eq _ (by omega) k (by omega), Option.bind_some, spec_Unquote_eq _ (by omega) k (by omega), Option.bind_some]
    unfold spec_Fold.f
    by_cases hu : (unq (trimS (w.extract (eqI w + 1) w.size))).2 = true
    · rw [if_pos hu, if_pos hu]
      change ((spec_Trim.f k (w.extract 0 (eqI w))).bind _) = _
      rw [spec_Trim_eq _ (by omega) k (by omega), Option.bind_some, if_pos (by omega), Option.bind_some]
      rfl
    · rw [if_neg hu, if_neg hu]
      change ((spec_Trim.f k (w.extract 0 (eqI w))).bind _) = _
      rw [spec_Trim_eq _ (by omega) k (by omega), Option.bind_some, if_pos (by omega), Option.bind_some]
      rfl
def dval0 (v : ByteArray) (o : Int) : Int := if (deltaOf v).2 = true then (deltaOf v).1 else o
theorem dval_nonneg (s : ByteArray) : ∀ d n i, 0 ≤ n → digs s d i = true → 0 ≤ dval s d n i := by
  intro d
  induction d with
  | zero => intro n i h _; exact h
  | succ d ih =>
    intro n i h hd
    simp only [digs, Bool.and_eq_true] at hd
    have hr : 48 ≤ bt s i ∧ bt s i ≤ 57 := by simpa [dig] using hd.1
    simp only [dval]
    exact ih _ _ (by omega) hd.2
theorem deltaOf_nonneg (v : ByteArray) : 0 ≤ (deltaOf v).1 := by
  unfold deltaOf
  split
  · exact Int.le_refl _
  · split
    · rename_i h; exact dval_nonneg v _ 0 0 (Int.le_refl _) h
    · exact Int.le_refl _
theorem dval0_nonneg (v : ByteArray) (o : Int) (ho : 0 ≤ o) : 0 ≤ dval0 v o := by
  unfold dval0
  split
  · exact deltaOf_nonneg v
  · exact ho
theorem impl_deltaOr_eq (v : ByteArray) (o : Int) (hv : v.size ≤ 4000) (k : Nat) (hk : 9000 < k) : impl_deltaOr.f k v o = some (dval0 v o) := by
  unfold impl_deltaOr.f dval0
  rw [impl_Delta_eq v (by omega) k (by omega), Option.bind_some]
  split <;> rfl
def keyedP (d : DirD) (n v : ByteArray) : DirD :=
  if n.toList = ([110, 111, 45, 115, 116, 111, 114, 101] : List UInt8) then { d with b0 := true }
  else if n.toList = ([110, 111, 45, 99, 97, 99, 104, 101] : List UInt8) then { d with b1 := true }
  else if n.toList = ([112, 114, 105, 118, 97, 116, 101] : List UInt8) then { d with b2 := true }
  else if n.toList = ([112, 117, 98, 108, 105, 99] : List UInt8) then { d with b3 := true }
  else if n.toList = ([111, 110, 108, 121, 45, 105, 102, 45, 99, 97, 99, 104, 101, 100] : List UInt8) then { d with b5 := true }
  else if n.toList = ([109, 117, 115, 116, 45, 114, 101, 118, 97, 108, 105, 100, 97, 116, 101] : List UInt8) then { d with b4 := true }
  else if n.toList = ([112, 114, 111, 120, 121, 45, 114, 101, 118, 97, 108, 105, 100, 97, 116, 101] : List UInt8) then { d with b4 := true }
  else if n.toList = ([109, 97, 120, 45, 97, 103, 101] : List UInt8) then { d with n6 := setN d.n6 (dval0 v 0) }
  else if n.toList = ([115, 45, 109, 97, 120, 97, 103, 101] : List UInt8) then { d with n7 := setN d.n7 (dval0 v 0) }
  else if n.toList = ([109, 97, 120, 45, 115, 116, 97, 108, 101] : List UInt8) then { d with n8 := setN d.n8 (if v.toList = ([] : List UInt8) then 2147483648 else dval0 v 0) }
  else if n.toList = ([109, 105, 110, 45, 102, 114, 101, 115, 104] : List UInt8) then { d with n9 := setN d.n9 (dval0 v 2147483648) }
  else d
theorem keyed_eq (k : Nat) (hk : 9000 < k) (d : DirD) (n v : ByteArray) (hv : v.size ≤ 4000) : keyed k d n v = some (keyedP d n v) := by
  unfold keyed keyedP
  rw [impl_deltaOr_eq v 0 hv k hk, impl_deltaOr_eq v 2147483648 hv k hk]
  simp only [Option.bind_some]
  by_cases h0 : n.toList = ([110, 111, 45, 115, 116, 111, 114, 101] : List UInt8)
  · rw [if_pos h0, if_pos h0]
  rw [if_neg h0, if_neg h0]
  by_cases h1 : n.toList = ([110, 111, 45, 99, 97, 99, 104, 101] : List UInt8)
  · rw [if_pos h1, if_pos h1]
  rw [if_neg h1, if_neg h1]
  by_cases h2 : n.toList = ([112, 114, 105, 118, 97, 116, 101] : List UInt8)
  · rw [if_pos h2, if_pos h2]
  rw [if_neg h2, if_neg h2]
  by_cases h3 : n.toList = ([112, 117, 98, 108, 105, 99] : List UInt8)
  · rw [if_pos h3, if_pos h3]
  rw [if_neg h3, if_neg h3]
  by_cases h4 : n.toList = ([111, 110, 108, 121, 45, 105, 102, 45, 99, 97, 99, 104, 101, 100] : List UInt8)
  · rw [if_pos h4, if_pos h4]
  rw [if_neg h4, if_neg h4]
  by_cases h5 : n.toList = ([109, 117, 115, 116, 45, 114, 101, 118, 97, 108, 105, 100, 97, 116, 101] : List UInt8)
  · rw [if_pos h5, if_pos h5]
  rw [if_neg h5, if_neg h5]
  by_cases h6 : n.toList = ([112, 114, 111, 120, 121, 45, 114, 101, 118, 97, 108, 105, 100, 97, 116, 101] : List UInt8)
  · rw [if_pos h6, if_pos h6]
  rw [if_neg h6, if_neg h6]
  by_cases h7 : n.toList = ([109, 97, 120, 45, 97, 103, 101] : List UInt8)
  · rw [if_pos h7, if_pos h7]
  rw [if_neg h7, if_neg h7]
  by_cases h8 : n.toList = ([115, 45, 109, 97, 120, 97, 103, 101] : List UInt8)
  · rw [if_pos h8, if_pos h8]
  rw [if_neg h8, if_neg h8]
  by_cases h9 : n.toList = ([109, 97, 120, 45, 115, 116, 97, 108, 101] : List UInt8)
  · rw [if_pos h9, if_pos h9]
    by_cases hq : v.toList = ([] : List UInt8)
    · rw [if_pos hq, if_pos hq]
    · rw [if_neg hq, if_neg hq]
  rw [if_neg h9, if_neg h9]
  by_cases h10 : n.toList = ([109, 105, 110, 45, 102, 114, 101, 115, 104] : List UInt8)
  · rw [if_pos h10, if_pos h10]
  rw [if_neg h10, if_neg h10]
def stepP (d : DirD) (w : ByteArray) : DirD := keyedP d (partN w) (partV w)
theorem trim_none : trimS (⟨#[]⟩ : ByteArray) = (⟨#[]⟩ : ByteArray) := by decide
theorem unq_none : unq (⟨#[]⟩ : ByteArray) = ((⟨#[]⟩ : ByteArray), false) := by unfold unq; rw [if_pos (Or.inl (by decide))]
theorem dirWord_eq (d : DirD) (w : ByteArray) (hw : w.size ≤ 4000) (k : Nat) (hk : 9000 < k) : dirWord k d w = some (stepP d w) := by
  have hj := eqI_le w
  have hz : (w.extract 0 (eqI w)).size = eqI w := by rw [size_extract]; omega
  have ht := trimS_size (w.extract 0 (eqI w))
  have hpv := partV_size w hw
  unfold dirWord strings_Cut.f stringslite_Cut.f stringslite_Index.f stepP
  change (((some (Lib.indexByte w.data.toList 61)).bind _).bind _).bind _ = _
  rw [index_eq, Option.bind_some]
  by_cases h : eqI w = w.size
  · have hN : partN w = foldS (trimS w) := by unfold partN; rw [h, extract_whole]
    have hV : partV w = (⟨#[]⟩ : ByteArray) := by unfold partV; rw [if_pos h]
    have htw := trimS_size w
    rw [if_pos h, if_neg (by decide)]
    simp only [Option.bind_some]
    have z0 : (⟨#[]⟩ : ByteArray).size = 0 := rfl
    rw [impl_Trim_eq _ (show ((⟨#[]⟩ : ByteArray)).size ≤ 140737488351232 by decide) k (by omega), Option.bind_some, trim_none, impl_Unquote_eq _ (by decide) k (by omega), Option.bind_some, unq_none, impl_Trim_eq w (by omega) k (by omega), Option.bind_some]
    unfold impl_Fold.f
    rw [if_pos (by omega), Option.bind_some]
    dsimp only
    rw [if_neg (by decide), keyed_eq k hk d _ _ (by decide), hN, hV]
  · have hv : (w.extract (eqI w + 1) w.size).size ≤ w.size := by rw [size_extract]; omega
    have hv2 := trimS_size (w.extract (eqI w + 1) w.size)
    have hw1 : wrap64 ((eqI w : Int) + (((⟨#[61]⟩ : ByteArray).size : Nat) : Int)) = ((eqI w + 1 : Nat) : Int) := by
      rw [show (((⟨#[61]⟩ : ByteArray).size : Nat) : Int) = 1 from rfl, wrap_id (by omega) (by omega)]; omega
    rw [if_neg h, hw1, if_pos (by omega), if_pos (by omega), if_pos (by omega), if_pos (by omega), if_pos (by omega), Int.toNat_natCast, Int.toNat_natCast]
    simp only [Option.bind_some]
    rw [impl_Trim_eq _ (by omega) k (by omega), Option.bind_some, impl_Unquote_eq _ (by omega) k (by omega), Option.bind_some, impl_Trim_eq _ (by omega) k (by omega), Option.bind_some]
    unfold impl_Fold.f
    rw [if_pos (by omega), Option.bind_some]
    have hV : (if (unq (trimS (w.extract (eqI w + 1) w.size))).2 = true then (unq (trimS (w.extract (eqI w + 1) w.size))).1 else trimS (w.extract (eqI w + 1) w.size)) = partV w := by unfold partV; rw [if_neg h]
    rw [hV, keyed_eq k hk d _ _ hpv]
    rfl
theorem dirL0_eq (ws : List ByteArray) (hs : ∀ x ∈ ws, x.size ≤ 4000) (hl : ws.length ≤ 5000) : ∀ (r : List ByteArray) (k i : Nat) (d : DirD), ws.drop i = r → i ≤ ws.length → r.length + 9001 < k → dirL0 k ws d (i : Int) = some (r.foldl stepP d) := by
  intro r
  induction r with
  | nil =>
    intro k i d h hil hk
    obtain ⟨k, rfl⟩ : ∃ m, k = m + 1 := ⟨k - 1, by omega⟩
    have hi := List.drop_eq_nil_iff.mp h
    simp only [dirL0]
    rw [if_neg (by omega)]
    rfl
  | cons w r ih =>
    intro k i d h hil hk
    obtain ⟨k, rfl⟩ : ∃ m, k = m + 1 := ⟨k - 1, by omega⟩
    obtain ⟨hi, e1, h3⟩ := at_drop2 h
    have hw : wrap64 ((i : Int) + 1) = ((i + 1 : Nat) : Int) := by rw [wrap_id (by omega) (by omega)]; omega
    have hm : w ∈ ws := by
      have : w ∈ ws.drop i := by rw [h]; exact List.mem_cons_self ..
      exact List.mem_of_mem_drop this
    simp only [List.length_cons] at hk
    simp only [dirL0]
    rw [if_pos (by omega), if_pos (by omega), e1, dirWord_eq d w (hs w hm) k (by omega), Option.bind_some, hw]
    exact ih k (i + 1) _ h3 (by omega) (by omega)
def nocache : List UInt8 := [110, 111, 45, 99, 97, 99, 104, 101]
theorem dirL1_eq (ws : List ByteArray) (hs : ∀ x ∈ ws, x.size ≤ 4000) (hl : ws.length ≤ 5000) : ∀ (r : List ByteArray) (k i : Nat) (d : DirD), ws.drop i = r → i ≤ ws.length → r.length < k → dirL1 k ws d (i : Int) = some { d with b1 := d.b1 || r.any fun x => decide ((foldS x).toList = nocache) } := by
  intro r
  induction r with
  | nil =>
    intro k i d h hil hk
    obtain ⟨k, rfl⟩ : ∃ m, k = m + 1 := ⟨k - 1, by omega⟩
    have hi := List.drop_eq_nil_iff.mp h
    simp only [dirL1]
    rw [if_neg (by omega)]
    simp
  | cons w r ih =>
    intro k i d h hil hk
    obtain ⟨k, rfl⟩ : ∃ m, k = m + 1 := ⟨k - 1, by omega⟩
    obtain ⟨hi, e1, h3⟩ := at_drop2 h
    have hw : wrap64 ((i : Int) + 1) = ((i + 1 : Nat) : Int) := by rw [wrap_id (by omega) (by omega)]; omega
    have hm : w ∈ ws := by
      have : w ∈ ws.drop i := by rw [h]; exact List.mem_cons_self ..
      exact List.mem_of_mem_drop this
    have hws := hs w hm
    simp only [List.length_cons] at hk
    simp only [dirL1]
    unfold impl_Fold.f
    rw [if_pos (by omega), if_pos (by omega), e1, if_pos (by omega), Option.bind_some, hw, ih k (i + 1) _ h3 (by omega) (by omega)]
    by_cases hf : (foldS w).toList = ([110, 111, 45, 99, 97, 99, 104, 101] : List UInt8)
    · rw [if_pos hf]
      have : (foldS w).toList = nocache := hf
      simp [this]
    · rw [if_neg hf]
      have : ¬ (foldS w).toList = nocache := hf
      simp [this]
def firstP (name : List UInt8) : List ByteArray → ByteArray × Bool
  | [] => ((⟨#[]⟩ : ByteArray), false)
  | w :: r => if (partN w).toList = name then (partV w, true) else firstP name r
theorem firstP_size (name : List UInt8) : ∀ ws : List ByteArray, (∀ x ∈ ws, x.size ≤ 4000) → (firstP name ws).1.size ≤ 4000
  | [], _ => Nat.zero_le _
  | w :: r, h => by
    simp only [firstP]
    split
    · exact partV_size w (h w (List.mem_cons_self ..))
    · exact firstP_size name r fun x hx => h x (List.mem_cons_of_mem _ hx)
theorem spec_first (ws : List ByteArray) (name : ByteArray) (hs : ∀ x ∈ ws, x.size ≤ 4000) (hl : ws.length ≤ 5000) : ∀ (r : List ByteArray) (k i : Nat), ws.drop i = r → i ≤ ws.length → r.length + 9001 < k → spec_l12first.l0 k ws name (i : Int) = some (firstP name.toList r) := by
  intro r
  induction r with
  | nil =>
    intro k i h hil hk
    obtain ⟨k, rfl⟩ : ∃ m, k = m + 1 := ⟨k - 1, by omega⟩
    have hi := List.drop_eq_nil_iff.mp h
    simp only [spec_l12first.l0]
    rw [if_neg (by omega)]
    rfl
  | cons w r ih =>
    intro k i h hil hk
    obtain ⟨k, rfl⟩ : ∃ m, k = m + 1 := ⟨k - 1, by omega⟩
    obtain ⟨hi, e1, h3⟩ := at_drop2 h
    have hw : wrap64 ((i : Int) + 1) = ((i + 1 : Nat) : Int) := by rw [wrap_id (by omega) (by omega)]; omega
    have hm : w ∈ ws := by
      have : w ∈ ws.drop i := by rw [h]; exact List.mem_cons_self ..
      exact List.mem_of_mem_drop this
    simp only [List.length_cons] at hk
    simp only [spec_l12first.l0, firstP]
    rw [if_pos (by omega), if_pos (by omega), e1, spec_l12part_eq w (hs w hm) k (by omega), Option.bind_some, hw, ih k (i + 1) h3 (by omega) (by omega)]
    split <;> rfl
theorem spec_l12first_eq (ws : List ByteArray) (name : ByteArray) (hs : ∀ x ∈ ws, x.size ≤ 4000) (hl : ws.length ≤ 5000) (k : Nat) (hk : 15000 < k) : spec_l12first.f k ws name = some (firstP name.toList ws) :=
  spec_first ws name hs hl ws k 0 rfl (Nat.zero_le _) (by omega)
theorem spec_l12flag_eq (ws : List ByteArray) (a : Array UInt8) (hs : ∀ x ∈ ws, x.size ≤ 4000) (hl : ws.length ≤ 5000) (k : Nat) (hk : 15000 < k) : spec_l12flag.f k ws ⟨a⟩ = some (firstP a.toList ws).2 := by
  unfold spec_l12flag.f
  rw [spec_l12first_eq ws ⟨a⟩ hs hl k hk, Option.bind_some, ByteArray.toList_eq]
def numP (ws : List ByteArray) (name : List UInt8) (a b : Int) : Int := if (firstP name ws).2 = true then (if (deltaOf (firstP name ws).1).2 = true then (deltaOf (firstP name ws).1).1 else if (firstP name ws).1.toList = ([] : List UInt8) then a else b) else -1
theorem spec_l12num_eq (ws : List ByteArray) (nm : Array UInt8) (a b : Int) (hs : ∀ x ∈ ws, x.size ≤ 4000) (hl : ws.length ≤ 5000) (k : Nat) (hk : 15000 < k) : spec_l12num.f k ws ⟨nm⟩ a b = some (numP ws nm.toList a b) := by
  have h1 := firstP_size nm.toList ws hs
  have h2 : (firstP (⟨nm⟩ : ByteArray).data.toList ws).1.size ≤ 4000 := h1
  unfold spec_l12num.f numP
  rw [spec_l12first_eq ws ⟨nm⟩ hs hl k hk, Option.bind_some, ByteArray.toList_eq]
  by_cases h : (firstP nm.toList ws).2 = true
  · rw [if_pos h, if_pos h, spec_Delta_eq _ (by omega) k (by omega), Option.bind_some]
    repeat' split
    all_goals rfl
  · rw [if_neg h, if_neg h]
theorem flag_fold (get : DirD → Bool) (name : List UInt8) (h : ∀ d n v, get (keyedP d n v) = (get d || decide (n.toList = name))) : ∀ (ws : List ByteArray) (d : DirD), get (ws.foldl stepP d) = (get d || (firstP name ws).2)
  | [], d => by simp [firstP]
  | w :: r, d => by
    simp only [List.foldl_cons, firstP]
    rw [flag_fold get name h r (stepP d w)]
    unfold stepP
    rw [h]
    by_cases hq : (partN w).toList = name
    · rw [if_pos hq]; simp [hq]
    · rw [if_neg hq]; simp [hq]
theorem flag2_fold (get : DirD → Bool) (n1 n2 : List UInt8) (h : ∀ d n v, get (keyedP d n v) = (get d || (decide (n.toList = n1) || decide (n.toList = n2)))) : ∀ (ws : List ByteArray) (d : DirD), get (ws.foldl stepP d) = (get d || ((firstP n1 ws).2 || (firstP n2 ws).2))
  | [], d => by simp [firstP]
  | w :: r, d => by
    simp only [List.foldl_cons, firstP]
    rw [flag2_fold get n1 n2 h r (stepP d w)]
    unfold stepP
    rw [h]
    by_cases hq : (partN w).toList = n1
    · rw [if_pos hq]; simp [hq]
    · rw [if_neg hq]
      by_cases hq2 : (partN w).toList = n2
      · rw [if_pos hq2]; simp [hq, hq2]
      · rw [if_neg hq2]; simp [hq, hq2]
theorem num_fold (get : DirD → Int) (name : List UInt8) (val : ByteArray → Int) (hv : ∀ v, 0 ≤ val v) (h : ∀ d n v, get (keyedP d n v) = if n.toList = name then setN (get d) (val v) else get d) : ∀ (ws : List ByteArray) (d : DirD), get (ws.foldl stepP d) = if get d < 0 then (if (firstP name ws).2 = true then val (firstP name ws).1 else get d) else get d := by
  intro ws
  induction ws with
  | nil => intro d; simp [firstP]
  | cons w r ih =>
    intro d
    have h1 : get (stepP d w) = if (partN w).toList = name then setN (get d) (val (partV w)) else get d := h d (partN w) (partV w)
    rw [List.foldl_cons, ih (stepP d w), h1]
    simp only [firstP]
    have h2 := hv (partV w)
    generalize hm : val (partV w) = m at h2 ⊢
    by_cases hq : (partN w).toList = name
    · rw [if_pos hq]
      simp only [if_pos hq]
      unfold setN
      by_cases hd : get d < 0
      · have e1 : (if get d < 0 then m else get d) = m := if_pos hd
        rw [e1, if_neg (by omega), if_pos hd]
        simp [hm]
      · rw [if_neg hd, if_neg hd, if_neg hd]
    · rw [if_neg hq]
      simp only [if_neg hq]
theorem keyed_b0 (d : DirD) (n v : ByteArray) : (keyedP d n v).b0 = (d.b0 || decide (n.toList = ([110, 111, 45, 115, 116, 111, 114, 101] : List UInt8))) := by
  unfold keyedP
  by_cases h0 : n.toList = ([110, 111, 45, 115, 116, 111, 114, 101] : List UInt8)
  · rw [if_pos h0, decide_eq_true h0, Bool.or_true]
  rw [if_neg h0]
  by_cases h1 : n.toList = ([110, 111, 45, 99, 97, 99, 104, 101] : List UInt8)
  · rw [if_pos h1, h1, decide_eq_false (by decide), Bool.or_false]
  rw [if_neg h1]
  by_cases h2 : n.toList = ([112, 114, 105, 118, 97, 116, 101] : List UInt8)
  · rw [if_pos h2, h2, decide_eq_false (by decide), Bool.or_false]
  rw [if_neg h2]
  by_cases h3 : n.toList = ([112, 117, 98, 108, 105, 99] : List UInt8)
  · rw [if_pos h3, h3, decide_eq_false (by decide), Bool.or_false]
  rw [if_neg h3]
  by_cases h4 : n.toList = ([111, 110, 108, 121, 45, 105, 102, 45, 99, 97, 99, 104, 101, 100] : List UInt8)
  · rw [if_pos h4, h4, decide_eq_false (by decide), Bool.or_false]
  rw [if_neg h4]
  by_cases h5 : n.toList = ([109, 117, 115, 116, 45, 114, 101, 118, 97, 108, 105, 100, 97, 116, 101] : List UInt8)
  · rw [if_pos h5, h5, decide_eq_false (by decide), Bool.or_false]
  rw [if_neg h5]
  by_cases h6 : n.toList = ([112, 114, 111, 120, 121, 45, 114, 101, 118, 97, 108, 105, 100, 97, 116, 101] : List UInt8)
  · rw [if_pos h6, h6, decide_eq_false (by decide), Bool.or_false]
  rw [if_neg h6]
  by_cases h7 : n.toList = ([109, 97, 120, 45, 97, 103, 101] : List UInt8)
  · rw [if_pos h7, h7, decide_eq_false (by decide), Bool.or_false]
  rw [if_neg h7]
  by_cases h8 : n.toList = ([115, 45, 109, 97, 120, 97, 103, 101] : List UInt8)
  · rw [if_pos h8, h8, decide_eq_false (by decide), Bool.or_false]
  rw [if_neg h8]
  by_cases h9 : n.toList = ([109, 97, 120, 45, 115, 116, 97, 108, 101] : List UInt8)
  · rw [if_pos h9, h9, decide_eq_false (by decide), Bool.or_false]
  rw [if_neg h9]
  by_cases h10 : n.toList = ([109, 105, 110, 45, 102, 114, 101, 115, 104] : List UInt8)
  · rw [if_pos h10, h10, decide_eq_false (by decide), Bool.or_false]
  rw [if_neg h10]
  rw [decide_eq_false h0, Bool.or_false]
theorem keyed_b1 (d : DirD) (n v : ByteArray) : (keyedP d n v).b1 = (d.b1 || decide (n.toList = ([110, 111, 45, 99, 97, 99, 104, 101] : List UInt8))) := by
  unfold keyedP
  by_cases h0 : n.toList = ([110, 111, 45, 115, 116, 111, 114, 101] : List UInt8)
  · rw [if_pos h0, h0, decide_eq_false (by decide), Bool.or_false]
  rw [if_neg h0]
  by_cases h1 : n.toList = ([110, 111, 45, 99, 97, 99, 104, 101] : List UInt8)
  · rw [if_pos h1, decide_eq_true h1, Bool.or_true]
  rw [if_neg h1]
  by_cases h2 : n.toList = ([112, 114, 105, 118, 97, 116, 101] : List UInt8)
  · rw [if_pos h2, h2, decide_eq_false (by decide), Bool.or_false]
  rw [if_neg h2]
  by_cases h3 : n.toList = ([112, 117, 98, 108, 105, 99] : List UInt8)
  · rw [if_pos h3, h3, decide_eq_false (by decide), Bool.or_false]
  rw [if_neg h3]
  by_cases h4 : n.toList = ([111, 110, 108, 121, 45, 105, 102, 45, 99, 97, 99, 104, 101, 100] : List UInt8)
  · rw [if_pos h4, h4, decide_eq_false (by decide), Bool.or_false]
  rw [if_neg h4]
  by_cases h5 : n.toList = ([109, 117, 115, 116, 45, 114, 101, 118, 97, 108, 105, 100, 97, 116, 101] : List UInt8)
  · rw [if_pos h5, h5, decide_eq_false (by decide), Bool.or_false]
  rw [if_neg h5]
  by_cases h6 : n.toList = ([112, 114, 111, 120, 121, 45, 114, 101, 118, 97, 108, 105, 100, 97, 116, 101] : List UInt8)
  · rw [if_pos h6, h6, decide_eq_false (by decide), Bool.or_false]
  rw [if_neg h6]
  by_cases h7 : n.toList = ([109, 97, 120, 45, 97, 103, 101] : List UInt8)
  · rw [if_pos h7, h7, decide_eq_false (by decide), Bool.or_false]
  rw [if_neg h7]
  by_cases h8 : n.toList = ([115, 45, 109, 97, 120, 97, 103, 101] : List UInt8)
  · rw [if_pos h8, h8, decide_eq_false (by decide), Bool.or_false]
  rw [if_neg h8]
  by_cases h9 : n.toList = ([109, 97, 120, 45, 115, 116, 97, 108, 101] : List UInt8)
  · rw [if_pos h9, h9, decide_eq_false (by decide), Bool.or_false]
  rw [if_neg h9]
  by_cases h10 : n.toList = ([109, 105, 110, 45, 102, 114, 101, 115, 104] : List UInt8)
  · rw [if_pos h10, h10, decide_eq_false (by decide), Bool.or_false]
  rw [if_neg h10]
  rw [decide_eq_false h1, Bool.or_false]
theorem keyed_b2 (d : DirD) (n v : ByteArray) : (keyedP d n v).b2 = (d.b2 || decide (n.toList = ([112, 114, 105, 118, 97, 116, 101] : List UInt8))) := by
  unfold keyedP
  by_cases h0 : n.toList = ([110, 111, 45, 115, 116, 111, 114, 101] : List UInt8)
  · rw [if_pos h0, h0, decide_eq_false (by decide), Bool.or_false]
  rw [if_neg h0]
  by_cases h1 : n.toList = ([110, 111, 45, 99, 97, 99, 104, 101] : List UInt8)
  · rw [if_pos h1, h1, decide_eq_false (by decide), Bool.or_false]
  rw [if_neg h1]
  by_cases h2 : n.toList = ([112, 114, 105, 118, 97, 116, 101] : List UInt8)
  · rw [if_pos h2, decide_eq_true h2, Bool.or_true]
  rw [if_neg h2]
  by_cases h3 : n.toList = ([112, 117, 98, 108, 105, 99] : List UInt8)
  · rw [if_pos h3, h3, decide_eq_false (by decide), Bool.or_false]
  rw [if_neg h3]
  by_cases h4 : n.toList = ([111, 110, 108, 121, 45, 105, 102, 45, 99, 97, 99, 104, 101, 100] : List UInt8)
  · rw [if_pos h4, h4, decide_eq_false (by decide), Bool.or_false]
  rw [if_neg h4]
  by_cases h5 : n.toList = ([109, 117, 115, 116, 45, 114, 101, 118, 97, 108, 105, 100, 97, 116, 101] : List UInt8)
  · rw [if_pos h5, h5, decide_eq_false (by decide), Bool.or_false]
  rw [if_neg h5]
  by_cases h6 : n.toList = ([112, 114, 111, 120, 121, 45, 114, 101, 118, 97, 108, 105, 100, 97, 116, 101] : List UInt8)
  · rw [if_pos h6, h6, decide_eq_false (by decide), Bool.or_false]
  rw [if_neg h6]
  by_cases h7 : n.toList = ([109, 97, 120, 45, 97, 103, 101] : List UInt8)
  · rw [if_pos h7, h7, decide_eq_false (by decide), Bool.or_false]
  rw [if_neg h7]
  by_cases h8 : n.toList = ([115, 45, 109, 97, 120, 97, 103, 101] : List UInt8)
  · rw [if_pos h8, h8, decide_eq_false (by decide), Bool.or_false]
  rw [if_neg h8]
  by_cases h9 : n.toList = ([109, 97, 120, 45, 115, 116, 97, 108, 101] : List UInt8)
  · rw [if_pos h9, h9, decide_eq_false (by decide), Bool.or_false]
  rw [if_neg h9]
  by_cases h10 : n.toList = ([109, 105, 110, 45, 102, 114, 101, 115, 104] : List UInt8)
  · rw [if_pos h10, h10, decide_eq_false (by decide), Bool.or_false]
  rw [if_neg h10]
  rw [decide_eq_false h2, Bool.or_false]
theorem keyed_b3 (d : DirD) (n v : ByteArray) : (keyedP d n v).b3 = (d.b3 || decide (n.toList = ([112, 117, 98, 108, 105, 99] : List UInt8))) := by
  unfold keyedP
  by_cases h0 : n.toList = ([110, 111, 45, 115, 116, 111, 114, 101] : List UInt8)
  · rw [if_pos h0, h0, decide_eq_false (by decide), Bool.or_false]
  rw [if_neg h0]
  by_cases h1 : n.toList = ([110, 111, 45, 99, 97, 99, 104, 101] : List UInt8)
  · rw [if_pos h1, h1, decide_eq_false (by decide), Bool.or_false]
  rw [if_neg h1]
  by_cases h2 : n.toList = ([112, 114, 105, 118, 97, 116, 101] : List UInt8)
  · rw [if_pos h2, h2, decide_eq_false (by decide), Bool.or_false]
  rw [if_neg h2]
  by_cases h3 : n.toList = ([112, 117, 98, 108, 105, 99] : List UInt8)
  · rw [if_pos h3, decide_eq_true h3, Bool.or_true]
  rw [if_neg h3]
  by_cases h4 : n.toList = ([111, 110, 108, 121, 45, 105, 102, 45, 99, 97, 99, 104, 101, 100] : List UInt8)
  · rw [if_pos h4, h4, decide_eq_false (by decide), Bool.or_false]
  rw [if_neg h4]
  by_cases h5 : n.toList = ([109, 117, 115, 116, 45, 114, 101, 118, 97, 108, 105, 100, 97, 116, 101] : List UInt8)
  · rw [if_pos h5, h5, decide_eq_false (by decide), Bool.or_false]
  rw [if_neg h5]
  by_cases h6 : n.toList = ([112, 114, 111, 120, 121, 45, 114, 101, 118, 97, 108, 105, 100, 97, 116, 101] : List UInt8)
  · rw [if_pos h6, h6, decide_eq_false (by decide), Bool.or_false]
  rw [if_neg h6]
  by_cases h7 : n.toList = ([109, 97, 120, 45, 97, 103, 101] : List UInt8)
  · rw [if_pos h7, h7, decide_eq_false (by decide), Bool.or_false]
  rw [if_neg h7]
  by_cases h8 : n.toList = ([115, 45, 109, 97, 120, 97, 103, 101] : List UInt8)
  · rw [if_pos h8, h8, decide_eq_false (by decide), Bool.or_false]
  rw [if_neg h8]
  by_cases h9 : n.toList = ([109, 97, 120, 45, 115, 116, 97, 108, 101] : List UInt8)
  · rw [if_pos h9, h9, decide_eq_false (by decide), Bool.or_false]
  rw [if_neg h9]
  by_cases h10 : n.toList = ([109, 105, 110, 45, 102, 114, 101, 115, 104] : List UInt8)
  · rw [if_pos h10, h10, decide_eq_false (by decide), Bool.or_false]
  rw [if_neg h10]
  rw [decide_eq_false h3, Bool.or_false]
theorem keyed_b5 (d : DirD) (n v : ByteArray) : (keyedP d n v).b5 = (d.b5 || decide (n.toList = ([111, 110, 108, 121, 45, 105, 102, 45, 99, 97, 99, 104, 101, 100] : List UInt8))) := by
  unfold keyedP
  by_cases h0 : n.toList = ([110, 111, 45, 115, 116, 111, 114, 101] : List UInt8)
  · rw [if_pos h0, h0, decide_eq_false (by decide), Bool.or_false]
  rw [if_neg h0]
  by_cases h1 : n.toList = ([110, 111, 45, 99, 97, 99, 104, 101] : List UInt8)
  · rw [if_pos h1, h1, decide_eq_false (by decide), Bool.or_false]
  rw [if_neg h1]
  by_cases h2 : n.toList = ([112, 114, 105, 118, 97, 116, 101] : List UInt8)
  · rw [if_pos h2, h2, decide_eq_false (by decide), Bool.or_false]
  rw [if_neg h2]
  by_cases h3 : n.toList = ([112, 117, 98, 108, 105, 99] : List UInt8)
  · rw [if_pos h3, h3, decide_eq_false (by decide), Bool.or_false]
  rw [if_neg h3]
  by_cases h4 : n.toList = ([111, 110, 108, 121, 45, 105, 102, 45, 99, 97, 99, 104, 101, 100] : List UInt8)
  · rw [if_pos h4, decide_eq_true h4, Bool.or_true]
  rw [if_neg h4]
  by_cases h5 : n.toList = ([109, 117, 115, 116, 45, 114, 101, 118, 97, 108, 105, 100, 97, 116, 101] : List UInt8)
  · rw [if_pos h5, h5, decide_eq_false (by decide), Bool.or_false]
  rw [if_neg h5]
  by_cases h6 : n.toList = ([112, 114, 111, 120, 121, 45, 114, 101, 118, 97, 108, 105, 100, 97, 116, 101] : List UInt8)
  · rw [if_pos h6, h6, decide_eq_false (by decide), Bool.or_false]
  rw [if_neg h6]
  by_cases h7 : n.toList = ([109, 97, 120, 45, 97, 103, 101] : List UInt8)
  · rw [if_pos h7, h7, decide_eq_false (by decide), Bool.or_false]
  rw [if_neg h7]
  by_cases h8 : n.toList = ([115, 45, 109, 97, 120, 97, 103, 101] : List UInt8)
  · rw [if_pos h8, h8, decide_eq_false (by decide), Bool.or_false]
  rw [if_neg h8]
  by_cases h9 : n.toList = ([109, 97, 120, 45, 115, 116, 97, 108, 101] : List UInt8)
  · rw [if_pos h9, h9, decide_eq_false (by decide), Bool.or_false]
  rw [if_neg h9]
  by_cases h10 : n.toList = ([109, 105, 110, 45, 102, 114, 101, 115, 104] : List UInt8)
  · rw [if_pos h10, h10, decide_eq_false (by decide), Bool.or_false]
  rw [if_neg h10]
  rw [decide_eq_false h4, Bool.or_false]
theorem keyed_b4 (d : DirD) (n v : ByteArray) : (keyedP d n v).b4 = (d.b4 || (decide (n.toList = ([109, 117, 115, 116, 45, 114, 101, 118, 97, 108, 105, 100, 97, 116, 101] : List UInt8)) || decide (n.toList = ([112, 114, 111, 120, 121, 45, 114, 101, 118, 97, 108, 105, 100, 97, 116, 101] : List UInt8)))) := by
  unfold keyedP
  by_cases h0 : n.toList = ([110, 111, 45, 115, 116, 111, 114, 101] : List UInt8)
  · rw [if_pos h0, h0, decide_eq_false (by decide), decide_eq_false (by decide), Bool.or_false, Bool.or_false]
  rw [if_neg h0]
  by_cases h1 : n.toList = ([110, 111, 45, 99, 97, 99, 104, 101] : List UInt8)
  · rw [if_pos h1, h1, decide_eq_false (by decide), decide_eq_false (by decide), Bool.or_false, Bool.or_false]
  rw [if_neg h1]
  by_cases h2 : n.toList = ([112, 114, 105, 118, 97, 116, 101] : List UInt8)
  · rw [if_pos h2, h2, decide_eq_false (by decide), decide_eq_false (by decide), Bool.or_false, Bool.or_false]
  rw [if_neg h2]
  by_cases h3 : n.toList = ([112, 117, 98, 108, 105, 99] : List UInt8)
  · rw [if_pos h3, h3, decide_eq_false (by decide), decide_eq_false (by decide), Bool.or_false, Bool.or_false]
  rw [if_neg h3]
  by_cases h4 : n.toList = ([111, 110, 108, 121, 45, 105, 102, 45, 99, 97, 99, 104, 101, 100] : List UInt8)
  · rw [if_pos h4, h4, decide_eq_false (by decide), decide_eq_false (by decide), Bool.or_false, Bool.or_false]
  rw [if_neg h4]
  by_cases h5 : n.toList = ([109, 117, 115, 116, 45, 114, 101, 118, 97, 108, 105, 100, 97, 116, 101] : List UInt8)
  · rw [if_pos h5, decide_eq_true h5, Bool.true_or, Bool.or_true]
  rw [if_neg h5]
  by_cases h6 : n.toList = ([112, 114, 111, 120, 121, 45, 114, 101, 118, 97, 108, 105, 100, 97, 116, 101] : List UInt8)
  · rw [if_pos h6, decide_eq_true h6, Bool.or_true, Bool.or_true]
  rw [if_neg h6]
  by_cases h7 : n.toList = ([109, 97, 120, 45, 97, 103, 101] : List UInt8)
  · rw [if_pos h7, h7, decide_eq_false (by decide), decide_eq_false (by decide), Bool.or_false, Bool.or_false]
  rw [if_neg h7]
  by_cases h8 : n.toList = ([115, 45, 109, 97, 120, 97, 103, 101] : List UInt8)
  · rw [if_pos h8, h8, decide_eq_false (by decide), decide_eq_false (by decide), Bool.or_false, Bool.or_false]
  rw [if_neg h8]
  by_cases h9 : n.toList = ([109, 97, 120, 45, 115, 116, 97, 108, 101] : List UInt8)
  · rw [if_pos h9, h9, decide_eq_false (by decide), decide_eq_false (by decide), Bool.or_false, Bool.or_false]
  rw [if_neg h9]
  by_cases h10 : n.toList = ([109, 105, 110, 45, 102, 114, 101, 115, 104] : List UInt8)
  · rw [if_pos h10, h10, decide_eq_false (by decide), decide_eq_false (by decide), Bool.or_false, Bool.or_false]
  rw [if_neg h10]
  rw [decide_eq_false h5, decide_eq_false h6, Bool.or_false, Bool.or_false]
theorem keyed_n6 (d : DirD) (n v : ByteArray) : (keyedP d n v).n6 = if n.toList = ([109, 97, 120, 45, 97, 103, 101] : List UInt8) then setN d.n6 (dval0 v 0) else d.n6 := by
  unfold keyedP
  by_cases h0 : n.toList = ([110, 111, 45, 115, 116, 111, 114, 101] : List UInt8)
  · rw [if_pos h0, if_neg (show ¬ n.toList = ([109, 97, 120, 45, 97, 103, 101] : List UInt8) by rw [h0]; decide)]
  rw [if_neg h0]
  by_cases h1 : n.toList = ([110, 111, 45, 99, 97, 99, 104, 101] : List UInt8)
  · rw [if_pos h1, if_neg (show ¬ n.toList = ([109, 97, 120, 45, 97, 103, 101] : List UInt8) by rw [h1]; decide)]
  rw [if_neg h1]
  by_cases h2 : n.toList = ([112, 114, 105, 118, 97, 116, 101] : List UInt8)
  · rw [if_pos h2, if_neg (show ¬ n.toList = ([109, 97, 120, 45, 97, 103, 101] : List UInt8) by rw [h2]; decide)]
  rw [if_neg h2]
  by_cases h3 : n.toList = ([112, 117, 98, 108, 105, 99] : List UInt8)
  · rw [if_pos h3, if_neg (show ¬ n.toList = ([109, 97, 120, 45, 97, 103, 101] : List UInt8) by rw [h3]; decide)]
  rw [if_neg h3]
  by_cases h4 : n.toList = ([111, 110, 108, 121, 45, 105, 102, 45, 99, 97, 99, 104, 101, 100] : List UInt8)
  · rw [if_pos h4, if_neg (show ¬ n.toList = ([109, 97, 120, 45, 97, 103, 101] : List UInt8) by rw [h4]; decide)]
  rw [if_neg h4]
  by_cases h5 : n.toList = ([109, 117, 115, 116, 45, 114, 101, 118, 97, 108, 105, 100, 97, 116, 101] : List UInt8)
  · rw [if_pos h5, if_neg (show ¬ n.toList = ([109, 97, 120, 45, 97, 103, 101] : List UInt8) by rw [h5]; decide)]
  rw [if_neg h5]
  by_cases h6 : n.toList = ([112, 114, 111, 120, 121, 45, 114, 101, 118, 97, 108, 105, 100, 97, 116, 101] : List UInt8)
  · rw [if_pos h6, if_neg (show ¬ n.toList = ([109, 97, 120, 45, 97, 103, 101] : List UInt8) by rw [h6]; decide)]
  rw [if_neg h6]
  by_cases h7 : n.toList = ([109, 97, 120, 45, 97, 103, 101] : List UInt8)
  · rw [if_pos h7, if_pos h7]
  rw [if_neg h7]
  by_cases h8 : n.toList = ([115, 45, 109, 97, 120, 97, 103, 101] : List UInt8)
  · rw [if_pos h8, if_neg (show ¬ n.toList = ([109, 97, 120, 45, 97, 103, 101] : List UInt8) by rw [h8]; decide)]
  rw [if_neg h8]
  by_cases h9 : n.toList = ([109, 97, 120, 45, 115, 116, 97, 108, 101] : List UInt8)
  · rw [if_pos h9, if_neg (show ¬ n.toList = ([109, 97, 120, 45, 97, 103, 101] : List UInt8) by rw [h9]; decide)]
  rw [if_neg h9]
  by_cases h10 : n.toList = ([109, 105, 110, 45, 102, 114, 101, 115, 104] : List UInt8)
  · rw [if_pos h10, if_neg (show ¬ n.toList = ([109, 97, 120, 45, 97, 103, 101] : List UInt8) by rw [h10]; decide)]
  rw [if_neg h10]
  rw [if_neg h7]
theorem keyed_n7 (d : DirD) (n v : ByteArray) : (keyedP d n v).n7 = if n.toList = ([115, 45, 109, 97, 120, 97, 103, 101] : List UInt8) then setN d.n7 (dval0 v 0) else d.n7 := by
  unfold keyedP
  by_cases h0 : n.toList = ([110, 111, 45, 115, 116, 111, 114, 101] : List UInt8)
  · rw [if_pos h0, if_neg (show ¬ n.toList = ([115, 45, 109, 97, 120, 97, 103, 101] : List UInt8) by rw [h0]; decide)]
  rw [if_neg h0]
  by_cases h1 : n.toList = ([110, 111, 45, 99, 97, 99, 104, 101] : List UInt8)
  · rw [if_pos h1, if_neg (show ¬ n.toList = ([115, 45, 109, 97, 120, 97, 103, 101] : List UInt8) by rw [h1]; decide)]
  rw [if_neg h1]
  by_cases h2 : n.toList = ([112, 114, 105, 118, 97, 116, 101] : List UInt8)
  · rw [if_pos h2, if_neg (show ¬ n.toList = ([115, 45, 109, 97, 120, 97, 103, 101] : List UInt8) by rw [h2]; decide)]
  rw [if_neg h2]
  by_cases h3 : n.toList = ([112, 117, 98, 108, 105, 99] : List UInt8)
  · rw [if_pos h3, if_neg (show ¬ n.toList = ([115, 45, 109, 97, 120, 97, 103, 101] : List UInt8) by rw [h3]; decide)]
  rw [if_neg h3]
  by_cases h4 : n.toList = ([111, 110, 108, 121, 45, 105, 102, 45, 99, 97, 99, 104, 101, 100] : List UInt8)
  · rw [if_pos h4, if_neg (show ¬ n.toList = ([115, 45, 109, 97, 120, 97, 103, 101] : List UInt8) by rw [h4]; decide)]
  rw [if_neg h4]
  by_cases h5 : n.toList = ([109, 117, 115, 116, 45, 114, 101, 118, 97, 108, 105, 100, 97, 116, 101] : List UInt8)
  · rw [if_pos h5, if_neg (show ¬ n.toList = ([115, 45, 109, 97, 120, 97, 103, 101] : List UInt8) by rw [h5]; decide)]
  rw [if_neg h5]
  by_cases h6 : n.toList = ([112, 114, 111, 120, 121, 45, 114, 101, 118, 97, 108, 105, 100, 97, 116, 101] : List UInt8)
  · rw [if_pos h6, if_neg (show ¬ n.toList = ([115, 45, 109, 97, 120, 97, 103, 101] : List UInt8) by rw [h6]; decide)]
  rw [if_neg h6]
  by_cases h7 : n.toList = ([109, 97, 120, 45, 97, 103, 101] : List UInt8)
  · rw [if_pos h7, if_neg (show ¬ n.toList = ([115, 45, 109, 97, 120, 97, 103, 101] : List UInt8) by rw [h7]; decide)]
  rw [if_neg h7]
  by_cases h8 : n.toList = ([115, 45, 109, 97, 120, 97, 103, 101] : List UInt8)
  · rw [if_pos h8, if_pos h8]
  rw [if_neg h8]
  by_cases h9 : n.toList = ([109, 97, 120, 45, 115, 116, 97, 108, 101] : List UInt8)
  · rw [if_pos h9, if_neg (show ¬ n.toList = ([115, 45, 109, 97, 120, 97, 103, 101] : List UInt8) by rw [h9]; decide)]
  rw [if_neg h9]
  by_cases h10 : n.toList = ([109, 105, 110, 45, 102, 114, 101, 115, 104] : List UInt8)
  · rw [if_pos h10, if_neg (show ¬ n.toList = ([115, 45, 109, 97, 120, 97, 103, 101] : List UInt8) by rw [h10]; decide)]
  rw [if_neg h10]
  rw [if_neg h8]
theorem keyed_n8 (d : DirD) (n v : ByteArray) : (keyedP d n v).n8 = if n.toList = ([109, 97, 120, 45, 115, 116, 97, 108, 101] : List UInt8) then setN d.n8 (if v.toList = ([] : List UInt8) then 2147483648 else dval0 v 0) else d.n8 := by
  unfold keyedP
  by_cases h0 : n.toList = ([110, 111, 45, 115, 116, 111, 114, 101] : List UInt8)
  · rw [if_pos h0, if_neg (show ¬ n.toList = ([109, 97, 120, 45, 115, 116, 97, 108, 101] : List UInt8) by rw [h0]; decide)]
  rw [if_neg h0]
  by_cases h1 : n.toList = ([110, 111, 45, 99, 97, 99, 104, 101] : List UInt8)
  · rw [if_pos h1, if_neg (show ¬ n.toList = ([109, 97, 120, 45, 115, 116, 97, 108, 101] : List UInt8) by rw [h1]; decide)]
  rw [if_neg h1]
  by_cases h2 : n.toList = ([112, 114, 105, 118, 97, 116, 101] : List UInt8)
  · rw [if_pos h2, if_neg (show ¬ n.toList = ([109, 97, 120, 45, 115, 116, 97, 108, 101] : List UInt8) by rw [h2]; decide)]
  rw [if_neg h2]
  by_cases h3 : n.toList = ([112, 117, 98, 108, 105, 99] : List UInt8)
  · rw [if_pos h3, if_neg (show ¬ n.toList = ([109, 97, 120, 45, 115, 116, 97, 108, 101] : List UInt8) by rw [h3]; decide)]
  rw [if_neg h3]
  by_cases h4 : n.toList = ([111, 110, 108, 121, 45, 105, 102, 45, 99, 97, 99, 104, 101, 100] : List UInt8)
  · rw [if_pos h4, if_neg (show ¬ n.toList = ([109, 97, 120, 45, 115, 116, 97, 108, 101] : List UInt8) by rw [h4]; decide)]
  rw [if_neg h4]
  by_cases h5 : n.toList = ([109, 117, 115, 116, 45, 114, 101, 118, 97, 108, 105, 100, 97, 116, 101] : List UInt8)
  · rw [if_pos h5, if_neg (show ¬ n.toList = ([109, 97, 120, 45, 115, 116, 97, 108, 101] : List UInt8) by rw [h5]; decide)]
  rw [if_neg h5]
  by_cases h6 : n.toList = ([112, 114, 111, 120, 121, 45, 114, 101, 118, 97, 108, 105, 100, 97, 116, 101] : List UInt8)
  · rw [if_pos h6, if_neg (show ¬ n.toList = ([109, 97, 120, 45, 115, 116, 97, 108, 101] : List UInt8) by rw [h6]; decide)]
  rw [if_neg h6]
  by_cases h7 : n.toList = ([109, 97, 120, 45, 97, 103, 101] : List UInt8)
  · rw [if_pos h7, if_neg (show ¬ n.toList = ([109, 97, 120, 45, 115, 116, 97, 108, 101] : List UInt8) by rw [h7]; decide)]
  rw [if_neg h7]
  by_cases h8 : n.toList = ([115, 45, 109, 97, 120, 97, 103, 101] : List UInt8)
  · rw [if_pos h8, if_neg (show ¬ n.toList = ([109, 97, 120, 45, 115, 116, 97, 108, 101] : List UInt8) by rw [h8]; decide)]
  rw [if_neg h8]
  by_cases h9 : n.toList = ([109, 97, 120, 45, 115, 116, 97, 108, 101] : List UInt8)
  · rw [if_pos h9, if_pos h9]
  rw [if_neg h9]
  by_cases h10 : n.toList = ([109, 105, 110, 45, 102, 114, 101, 115, 104] : List UInt8)
  · rw [if_pos h10, if_neg (show ¬ n.toList = ([109, 97, 120, 45, 115, 116, 97, 108, 101] : List UInt8) by rw [h10]; decide)]
  rw [if_neg h10]
  rw [if_neg h9]
theorem keyed_n9 (d : DirD) (n v : ByteArray) : (keyedP d n v).n9 = if n.toList = ([109, 105, 110, 45, 102, 114, 101, 115, 104] : List UInt8) then setN d.n9 (dval0 v 2147483648) else d.n9 := by
  unfold keyedP
  by_cases h0 : n.toList = ([110, 111, 45, 115, 116, 111, 114, 101] : List UInt8)
  · rw [if_pos h0, if_neg (show ¬ n.toList = ([109, 105, 110, 45, 102, 114, 101, 115, 104] : List UInt8) by rw [h0]; decide)]
  rw [if_neg h0]
  by_cases h1 : n.toList = ([110, 111, 45, 99, 97, 99, 104, 101] : List UInt8)
  · rw [if_pos h1, if_neg (show ¬ n.toList = ([109, 105, 110, 45, 102, 114, 101, 115, 104] : List UInt8) by rw [h1]; decide)]
  rw [if_neg h1]
  by_cases h2 : n.toList = ([112, 114, 105, 118, 97, 116, 101] : List UInt8)
  · rw [if_pos h2, if_neg (show ¬ n.toList = ([109, 105, 110, 45, 102, 114, 101, 115, 104] : List UInt8) by rw [h2]; decide)]
  rw [if_neg h2]
  by_cases h3 : n.toList = ([112, 117, 98, 108, 105, 99] : List UInt8)
  · rw [if_pos h3, if_neg (show ¬ n.toList = ([109, 105, 110, 45, 102, 114, 101, 115, 104] : List UInt8) by rw [h3]; decide)]
  rw [if_neg h3]
  by_cases h4 : n.toList = ([111, 110, 108, 121, 45, 105, 102, 45, 99, 97, 99, 104, 101, 100] : List UInt8)
  · rw [if_pos h4, if_neg (show ¬ n.toList = ([109, 105, 110, 45, 102, 114, 101, 115, 104] : List UInt8) by rw [h4]; decide)]
  rw [if_neg h4]
  by_cases h5 : n.toList = ([109, 117, 115, 116, 45, 114, 101, 118, 97, 108, 105, 100, 97, 116, 101] : List UInt8)
  · rw [if_pos h5, if_neg (show ¬ n.toList = ([109, 105, 110, 45, 102, 114, 101, 115, 104] : List UInt8) by rw [h5]; decide)]
  rw [if_neg h5]
  by_cases h6 : n.toList = ([112, 114, 111, 120, 121, 45, 114, 101, 118, 97, 108, 105, 100, 97, 116, 101] : List UInt8)
  · rw [if_pos h6, if_neg (show ¬ n.toList = ([109, 105, 110, 45, 102, 114, 101, 115, 104] : List UInt8) by rw [h6]; decide)]
  rw [if_neg h6]
  by_cases h7 : n.toList = ([109, 97, 120, 45, 97, 103, 101] : List UInt8)
  · rw [if_pos h7, if_neg (show ¬ n.toList = ([109, 105, 110, 45, 102, 114, 101, 115, 104] : List UInt8) by rw [h7]; decide)]
  rw [if_neg h7]
  by_cases h8 : n.toList = ([115, 45, 109, 97, 120, 97, 103, 101] : List UInt8)
  · rw [if_pos h8, if_neg (show ¬ n.toList = ([109, 105, 110, 45, 102, 114, 101, 115, 104] : List UInt8) by rw [h8]; decide)]
  rw [if_neg h8]
  by_cases h9 : n.toList = ([109, 97, 120, 45, 115, 116, 97, 108, 101] : List UInt8)
  · rw [if_pos h9, if_neg (show ¬ n.toList = ([109, 105, 110, 45, 102, 114, 101, 115, 104] : List UInt8) by rw [h9]; decide)]
  rw [if_neg h9]
  by_cases h10 : n.toList = ([109, 105, 110, 45, 102, 114, 101, 115, 104] : List UInt8)
  · rw [if_pos h10, if_pos h10]
  rw [if_neg h10]
  rw [if_neg h10]
def specP (ws : List ByteArray) : DirD :=
  ⟨(firstP [110, 111, 45, 115, 116, 111, 114, 101] ws).2, (firstP [110, 111, 45, 99, 97, 99, 104, 101] ws).2, (firstP [112, 114, 105, 118, 97, 116, 101] ws).2, (firstP [112, 117, 98, 108, 105, 99] ws).2,
   (firstP [109, 117, 115, 116, 45, 114, 101, 118, 97, 108, 105, 100, 97, 116, 101] ws).2 || (firstP [112, 114, 111, 120, 121, 45, 114, 101, 118, 97, 108, 105, 100, 97, 116, 101] ws).2, (firstP [111, 110, 108, 121, 45, 105, 102, 45, 99, 97, 99, 104, 101, 100] ws).2,
   numP ws [109, 97, 120, 45, 97, 103, 101] 0 0, numP ws [115, 45, 109, 97, 120, 97, 103, 101] 0 0, numP ws [109, 97, 120, 45, 115, 116, 97, 108, 101] 2147483648 0, numP ws [109, 105, 110, 45, 102, 114, 101, 115, 104] 2147483648 2147483648⟩
theorem num_none (ws : List ByteArray) (name : List UInt8) (o : Int) : (if (firstP name ws).2 = true then dval0 (firstP name ws).1 o else (-1 : Int)) = numP ws name o o := by
  unfold numP dval0
  repeat' split
  all_goals rfl
theorem DirD.same : ∀ x y : DirD, x.b0 = y.b0 → x.b1 = y.b1 → x.b2 = y.b2 → x.b3 = y.b3 → x.b4 = y.b4 → x.b5 = y.b5 → x.n6 = y.n6 → x.n7 = y.n7 → x.n8 = y.n8 → x.n9 = y.n9 → x = y
  | ⟨_, _, _, _, _, _, _, _, _, _⟩, ⟨_, _, _, _, _, _, _, _, _, _⟩, rfl, rfl, rfl, rfl, rfl, rfl, rfl, rfl, rfl, rfl => rfl
theorem num_stale (ws : List ByteArray) (name : List UInt8) : (if (firstP name ws).2 = true then (if (firstP name ws).1.toList = ([] : List UInt8) then 2147483648 else dval0 (firstP name ws).1 0) else (-1 : Int)) = numP ws name 2147483648 0 := by
  unfold numP dval0 deltaOf
  by_cases q1 : (firstP name ws).2 = true
  · rw [if_pos q1, if_pos q1]
    by_cases q2 : (firstP name ws).1.toList = ([] : List UInt8)
    · simp [q2]
    · simp only [if_neg q2]
  · rw [if_neg q1, if_neg q1]
theorem stale_nonneg (v : ByteArray) : 0 ≤ (if v.toList = ([] : List UInt8) then (2147483648 : Int) else dval0 v 0) := by
  split
  · decide
  · exact dval0_nonneg v 0 (by decide)
theorem fold_specP (ws : List ByteArray) : ws.foldl stepP dir0 = specP ws := by
  have hd : (-1 : Int) < 0 := by decide
  refine DirD.same _ _ ?_ ?_ ?_ ?_ ?_ ?_ ?_ ?_ ?_ ?_
  · exact (flag_fold DirD.b0 _ keyed_b0 ws dir0).trans (Bool.false_or _)
  · exact (flag_fold DirD.b1 _ keyed_b1 ws dir0).trans (Bool.false_or _)
  · exact (flag_fold DirD.b2 _ keyed_b2 ws dir0).trans (Bool.false_or _)
  · exact (flag_fold DirD.b3 _ keyed_b3 ws dir0).trans (Bool.false_or _)
  · exact (flag2_fold DirD.b4 _ _ keyed_b4 ws dir0).trans (Bool.false_or _)
  · exact (flag_fold DirD.b5 _ keyed_b5 ws dir0).trans (Bool.false_or _)
  · exact ((num_fold DirD.n6 _ (fun v => dval0 v 0) (fun v => dval0_nonneg v 0 (by decide)) keyed_n6 ws dir0).trans (if_pos hd)).trans (num_none ws _ 0)
  · exact ((num_fold DirD.n7 _ (fun v => dval0 v 0) (fun v => dval0_nonneg v 0 (by decide)) keyed_n7 ws dir0).trans (if_pos hd)).trans (num_none ws _ 0)
  · exact ((num_fold DirD.n8 _ (fun v => if v.toList = ([] : List UInt8) then 2147483648 else dval0 v 0) stale_nonneg keyed_n8 ws dir0).trans (if_pos hd)).trans (num_stale ws _)
  · exact ((num_fold DirD.n9 _ (fun v => dval0 v 2147483648) (fun v => dval0_nonneg v _ (by decide)) keyed_n9 ws dir0).trans (if_pos hd)).trans (num_none ws _ 2147483648)
theorem elS_small (s : ByteArray) (hs : s.size ≤ 4000) : ∀ (n d : Nat), d ≤ n → ∀ (out : List ByteArray) (a : Nat) (q : Bool) (i : Nat), (∀ x ∈ out, x.size ≤ 4000) → ∀ x ∈ elS s d out a q i, x.size ≤ 4000 := by
  have hadd : ∀ (out : List ByteArray) (a b : Nat), (∀ x ∈ out, x.size ≤ 4000) → ∀ x ∈ addS out (trimS (s.extract a b)), x.size ≤ 4000 := by
    intro out a b h x hx
    unfold addS at hx
    split at hx
    · exact h x hx
    · rcases List.mem_append.mp hx with h1 | h1
      · exact h x h1
      · rw [List.mem_singleton] at h1
        have h2 := trimS_size (s.extract a b)
        have h3 : (s.extract a b).size ≤ s.size := by rw [size_extract]; omega
        rw [h1]; omega
  intro n
  induction n with
  | zero =>
    intro d hdn out a q i h
    obtain rfl : d = 0 := by omega
    exact hadd out a s.size h
  | succ n ih =>
    intro d hdn out a q i h
    cases d with
    | zero => exact hadd out a s.size h
    | succ d =>
      rw [elS_succ]
      split
      · exact ih d (by omega) out a (!q) (i + 1) h
      · split
        · cases d with
          | zero => exact hadd out a s.size h
          | succ e => exact ih e (by omega) out a q (i + 2) h
        · split
          · exact ih d (by omega) _ (i + 1) q (i + 1) (hadd out a i h)
          · exact ih d (by omega) out a q (i + 1) h
theorem elementsOf_small (s : ByteArray) : ∀ x ∈ elementsOf s, x.size ≤ 4000 := by
  unfold elementsOf
  by_cases h : (s.size : Int) > 4000
  · rw [if_pos h]; intro x hx; cases hx
  · rw [if_neg h]
    exact elS_small s (by omega) s.size s.size (Nat.le_refl _) [] 0 false 0 (fun x hx => by cases hx)
theorem wordsOf_small (l : List FieldT) (a : ByteArray) : ∀ x ∈ wordsOf l a, x.size ≤ 4000 := elementsOf_small _
def ccB : ByteArray := (⟨#[99, 97, 99, 104, 101, 45, 99, 111, 110, 116, 114, 111, 108]⟩ : ByteArray)
def prB : ByteArray := (⟨#[112, 114, 97, 103, 109, 97]⟩ : ByteArray)
def dirsOfL (l : List FieldT) : DirD := if (valuesOf l ccB).length = 0 then { specP (wordsOf l ccB) with b1 := (specP (wordsOf l ccB)).b1 || (wordsOf l prB).any fun x => decide ((foldS x).toList = nocache) } else specP (wordsOf l ccB)
theorem spec_prag (ws : List ByteArray) (hs : ∀ x ∈ ws, x.size ≤ 4000) (hl : ws.length ≤ 5000) (c0 c2 c3 c4 c5 : Bool) (c6 c7 c8 c9 : Int) : ∀ (r : List ByteArray) (k i : Nat) (c1 : Bool), ws.drop i = r → i ≤ ws.length → r.length < k → spec_ReadDirs.l0 k ws (i : Int) c0 c1 c2 c3 c4 c5 c6 c7 c8 c9 = some (c0, (c1 || r.any fun x => decide ((foldS x).toList = nocache)), c2, c3, c4, c5, c6, c7, c8, c9) := by
  intro r
  induction r with
  | nil =>
    intro k i c1 h hil hk
    obtain ⟨k, rfl⟩ : ∃ m, k = m + 1 := ⟨k - 1, by omega⟩
    have hi := List.drop_eq_nil_iff.mp h
    simp only [spec_ReadDirs.l0]
    rw [if_neg (by omega)]
    simp
  | cons w r ih =>
    intro k i c1 h hil hk
    obtain ⟨k, rfl⟩ : ∃ m, k = m + 1 := ⟨k - 1, by omega⟩
    obtain ⟨hi, e1, h3⟩ := at_drop2 h
    have hw : wrap64 ((i : Int) + 1) = ((i + 1 : Nat) : Int) := by rw [wrap_id (by omega) (by omega)]; omega
    have hm : w ∈ ws := by
      have : w ∈ ws.drop i := by rw [h]; exact List.mem_cons_self ..
      exact List.mem_of_mem_drop this
    have hws := hs w hm
    simp only [List.length_cons] at hk
    simp only [spec_ReadDirs.l0]
    rw [if_pos (by omega), hw]
    cases c1 with
    | true =>
      rw [if_pos rfl, ih k (i + 1) true h3 (by omega) (by omega)]
      simp
    | false =>
      unfold spec_Fold.f
      rw [if_neg (by decide), if_pos (by omega), e1, if_pos (by omega), Option.bind_some, ih k (i + 1) _ h3 (by omega) (by omega)]
      have e2 : ((foldS w).toList == ([110, 111, 45, 99, 97, 99, 104, 101] : List UInt8)) = decide ((foldS w).toList = nocache) := by
        by_cases hf : (foldS w).toList = ([110, 111, 45, 99, 97, 99, 104, 101] : List UInt8)
        · rw [beq_iff_eq.mpr hf]; exact (decide_eq_true hf).symm
        · rw [beq_eq_false_iff_ne.mpr hf]; exact (decide_eq_false hf).symm
      rw [e2]
      simp
theorem spec_ReadDirs_eq (l : List FieldT) (k : Nat) (hk : 40000 < k) : spec_ReadDirs.f k l = some (dirsOfL l).tup := by
  have hc : ccB.size ≤ 140737488351232 := by decide
  have hp : prB.size ≤ 140737488351232 := by decide
  have hs := wordsOf_small l ccB
  have hl : (wordsOf l ccB).length ≤ 5000 := by have := wordsOf_length l ccB; omega
  have hs2 := wordsOf_small l prB
  have hl2 : (wordsOf l prB).length ≤ 5000 := by have := wordsOf_length l prB; omega
  obtain ⟨k, rfl⟩ : ∃ m, k = m + 1 := ⟨k - 1, by omega⟩
  have hg : spec_Get.f k l ccB = some (if (valuesOf l ccB).length = 0 then ((⟨#[]⟩ : ByteArray), false) else (rdOf ByteArray.empty (valuesOf l ccB) 0, true)) := by
    unfold spec_Get.f
    rw [spec_Values_eq l ccB hc k (by omega), Option.bind_some]
    by_cases h0 : (valuesOf l ccB).length = 0
    · rw [if_pos (by omega), if_pos h0]
    · rw [if_neg (by omega), if_pos (by omega), if_neg h0]
  unfold spec_ReadDirs.f
  change ((spec_Words.f (k + 1) l ccB).bind _) = _
  rw [spec_Words_eq l ccB hc (k + 1) (by omega), Option.bind_some]
  have hj : ∀ x4, spec_ReadDirs.j0 (k + 1) l (wordsOf l ccB) (firstP [110, 111, 45, 115, 116, 111, 114, 101] (wordsOf l ccB)).2 (firstP [110, 111, 45, 99, 97, 99, 104, 101] (wordsOf l ccB)).2 (firstP [112, 114, 105, 118, 97, 116, 101] (wordsOf l ccB)).2 (firstP [112, 117, 98, 108, 105, 99] (wordsOf l ccB)).2 x4 (firstP [111, 110, 108, 121, 45, 105, 102, 45, 99, 97, 99, 104, 101, 100] (wordsOf l ccB)).2 0 0 0 0 =
      some (DirD.tup { dirsOfL l with b4 := x4 }) := by
    intro x4
    simp only [spec_ReadDirs.j0]
    simp only [spec_l12num_eq (wordsOf l ccB) _ _ _ hs hl k (by omega), Option.bind_some]
    change ((spec_Get.f k l ccB).bind _) = _
    rw [hg, Option.bind_some]
    by_cases h0 : (valuesOf l ccB).length = 0
    · have e : dirsOfL l = { specP (wordsOf l ccB) with b1 := (specP (wordsOf l ccB)).b1 || (wordsOf l prB).any fun x => decide ((foldS x).toList = nocache) } := if_pos h0
      rw [if_pos h0, if_neg (by decide), e]
      change ((spec_Words.f k l prB).bind _) = _
      rw [spec_Words_eq l prB hp k (by omega), Option.bind_some]
      exact spec_prag (wordsOf l prB) hs2 hl2 _ _ _ _ _ _ _ _ _ (wordsOf l prB) k 0 _ rfl (Nat.zero_le _) (by omega)
    · have e : dirsOfL l = specP (wordsOf l ccB) := if_neg h0
      rw [if_neg h0, if_pos rfl, e]
      rfl
  have hb : (dirsOfL l).b4 = ((firstP [109, 117, 115, 116, 45, 114, 101, 118, 97, 108, 105, 100, 97, 116, 101] (wordsOf l ccB)).2 || (firstP [112, 114, 111, 120, 121, 45, 114, 101, 118, 97, 108, 105, 100, 97, 116, 101] (wordsOf l ccB)).2) := by
    unfold dirsOfL
    split <;> rfl
  simp only [spec_l12flag_eq (wordsOf l ccB) _ hs hl (k + 1) (by omega), Option.bind_some]
  by_cases hm : (firstP [109, 117, 115, 116, 45, 114, 101, 118, 97, 108, 105, 100, 97, 116, 101] (wordsOf l ccB)).2 = true
  · have e : some (DirD.tup { dirsOfL l with b4 := true }) = some (dirsOfL l).tup := by
      have : (dirsOfL l).b4 = true := by rw [hb, hm]; rfl
      unfold DirD.tup
      rw [this]
    rw [← e]
    exact (if_pos hm).trans (hj true)
  · have e : some (DirD.tup { dirsOfL l with b4 := (firstP [112, 114, 111, 120, 121, 45, 114, 101, 118, 97, 108, 105, 100, 97, 116, 101] (wordsOf l ccB)).2 }) = some (dirsOfL l).tup := by
      have hm' : (firstP [109, 117, 115, 116, 45, 114, 101, 118, 97, 108, 105, 100, 97, 116, 101] (wordsOf l ccB)).2 = false := by simpa using hm
      have : (dirsOfL l).b4 = (firstP [112, 114, 111, 120, 121, 45, 114, 101, 118, 97, 108, 105, 100, 97, 116, 101] (wordsOf l ccB)).2 := by rw [hb, hm', Bool.false_or]
      unfold DirD.tup
      rw [this]
    rw [← e]
    exact (if_neg hm).trans (hj _)
theorem none_words (l : List FieldT) (a : ByteArray) (h : fieldsOkB l = false) : wordsOf l a = [] := by
  have e1 : valuesOf l a = [] := by unfold valuesOf; rw [if_neg (by simp [h])]
  have e2 : (⟨(joinL []).toArray⟩ : ByteArray) = ⟨#[]⟩ := by unfold joinL; simp [Go.Lib.join_nil]
  unfold wordsOf joinedOf
  rw [e1, e2]
  unfold elementsOf
  rw [if_neg (by decide)]
  have h1 := trimS_size ((⟨#[]⟩ : ByteArray).extract 0 0)
  have h2 : ((⟨#[]⟩ : ByteArray).extract 0 0).size = 0 := by rw [size_extract]; rfl
  show addS [] (trimS ((⟨#[]⟩ : ByteArray).extract 0 0)) = []
  unfold addS
  rw [if_pos ((toList_nil _).2 (by omega))]
theorem impl_ReadDirs_eq (l : List FieldT) (k : Nat) (hk : 40000 < k) : impl_ReadDirs.f k l = some (dirsOfL l).tup := by
  have hc : ccB.size ≤ 140737488351232 := by decide
  have hp : prB.size ≤ 140737488351232 := by decide
  have hs := wordsOf_small l ccB
  have hl : (wordsOf l ccB).length ≤ 5000 := by have := wordsOf_length l ccB; omega
  have hs2 := wordsOf_small l prB
  have hl2 : (wordsOf l prB).length ≤ 5000 := by have := wordsOf_length l prB; omega
  unfold impl_ReadDirs.f
  change ((impl_Words.f k l ccB).bind _) = _
  rw [impl_Words_eq l ccB hc k (by omega), Option.bind_some]
  have h0 := dirL0_eq (wordsOf l ccB) hs hl (wordsOf l ccB) k 0 dir0 rfl (Nat.zero_le _) (by omega)
  rw [show ((0 : Nat) : Int) = 0 from rfl] at h0
  rw [h0, Option.bind_some, fold_specP, impl_FieldsOk_eq l k (by omega), Option.bind_some]
  cases hf : fieldsOkB l with
  | false =>
    have e1 : valuesOf l ccB = [] := by unfold valuesOf; rw [if_neg (by simp [hf])]
    rw [if_neg (by decide)]
    unfold dirsOfL
    rw [e1, if_pos (show ([] : List ByteArray).length = 0 from rfl), none_words l prB hf]
    simp
  | true =>
    rw [if_pos rfl]
    unfold impl_hasField.f
    change (((impl_Values.f k l ccB).bind _).bind _) = _
    rw [impl_Values_eq l ccB hc k (by omega), Option.bind_some, Option.bind_some]
    by_cases hv : (valuesOf l ccB).length = 0
    · have e : dirsOfL l = { specP (wordsOf l ccB) with b1 := (specP (wordsOf l ccB)).b1 || (wordsOf l prB).any fun x => decide ((foldS x).toList = nocache) } := if_pos hv
      rw [if_neg (by rw [decide_eq_true_iff]; omega), e]
      change ((impl_Words.f k l prB).bind _) = _
      have h1 := dirL1_eq (wordsOf l prB) hs2 hl2 (wordsOf l prB) k 0 (specP (wordsOf l ccB)) rfl (Nat.zero_le _) (by omega)
      rw [show ((0 : Nat) : Int) = 0 from rfl] at h1
      rw [impl_Words_eq l prB hp k (by omega), Option.bind_some, h1, Option.bind_some]
    · have e : dirsOfL l = specP (wordsOf l ccB) := if_neg hv
      rw [if_pos (by rw [decide_eq_true_iff]; omega), e]

end Go.Proofs.Ytahgiblifkchaaa.P
end

section
/- Plain laws of our own (ToFields): about numbers and lists alone; no condition beyond those written. -/
namespace Go.Proofs.Ytahgiblifkchaaa.P
open Go.RowKit Go.Proofs.YtahgiblifkchaaaW.PrintWords Go.Proofs.YtahgiblifkchaaaW.PrintLast Go.Proofs.YtahgiblifkchaaaW.PrintMore
set_option linter.unusedVariables false
set_option linter.unusedSimpArgs false
set_option maxHeartbeats 2000000
abbrev LawFieldT := S68
def toF (x : LawFieldT) : FieldT := ⟨x.f0, x.f1⟩
theorem toFieldS_l (l : List LawFieldT) (hl : l.length ≤ 4398046511104) : ∀ (d k i : Nat) (out : List FieldT), out.length = l.length → i ≤ l.length → l.length - i = d → (∀ j, j < i → out[j]? = (l.map toF)[j]?) → d < k →
    laws_toFieldS.l0 k l out (i : Int) = some (l.map toF) := by
  intro d
  induction d with
  | zero =>
    intro k i out ho h1 hd hj hk
    obtain ⟨k, rfl⟩ : ∃ m, k = m + 1 := ⟨k - 1, by omega⟩
    simp only [laws_toFieldS.l0]
    rw [if_neg (by omega)]
    congr 1
    apply List.ext_getElem?
    intro j
    by_cases h : j < l.length
    · exact hj j (by omega)
    · rw [List.getElem?_eq_none (by omega), List.getElem?_eq_none (by simp; omega)]
  | succ d ih =>
    intro k i out ho h1 hd hj hk
    obtain ⟨k, rfl⟩ : ∃ m, k = m + 1 := ⟨k - 1, by omega⟩
    have hw : wrap64 ((i : Int) + 1) = ((i + 1 : Nat) : Int) := by rw [wrap_id (by omega) (by omega)]; omega
    simp only [laws_toFieldS.l0]
    unfold laws_toField.f
    rw [if_pos (by omega), if_pos (by omega), Option.bind_some, if_pos (by omega), hw, Int.toNat_natCast]
    refine ih k (i + 1) _ (by rw [List.length_set]; exact ho) (by omega) (by omega) (fun j hji => ?_) (by omega)
    rw [List.getElem?_set]
    by_cases e : i = j
    · subst e
      rw [if_pos rfl, if_pos (by omega), List.getElem?_map]
      unfold rd_T68
      rw [Int.toNat_natCast, List.getD_eq_getElem?_getD, List.getElem?_eq_getElem (by omega)]
      rfl
    · rw [if_neg e]
      exact hj j (by omega)
theorem toFieldS_eq (l : List LawFieldT) (hl : l.length ≤ 4398046511104) (k : Nat) (hk : l.length < k) : laws_toFieldS.f k l = some (l.map toF) := by
  unfold laws_toFieldS.f
  rw [if_pos (by omega), if_pos (by omega)]
  exact toFieldS_l l hl l.length k 0 _ (by simp) (Nat.zero_le _) (by omega) (fun j hj => by omega) hk
theorem szField_some (a b : ByteArray) (n : Int) : ∃ t, laws_szField.f a b n = some t := by
  unfold laws_szField.f
  split
  · exact ⟨_, rfl⟩
  · split <;> exact ⟨_, rfl⟩
theorem szFieldS_l (l : List LawFieldT) (hl : l.length ≤ 4398046511104) : ∀ (d k : Nat) (n i : Int), 0 ≤ i → (l.length : Int) - i = d → d < k → ∃ t, laws_szFieldS.l0 k l n i = some t := by
  intro d
  induction d with
  | zero =>
    intro k n i h0 hd hk
    obtain ⟨k, rfl⟩ : ∃ m, k = m + 1 := ⟨k - 1, by omega⟩
    simp only [laws_szFieldS.l0]
    rw [if_neg (by omega)]
    exact ⟨_, rfl⟩
  | succ d ih =>
    intro k n i h0 hd hk
    obtain ⟨k, rfl⟩ : ∃ m, k = m + 1 := ⟨k - 1, by omega⟩
    simp only [laws_szFieldS.l0]
    obtain ⟨t, ht⟩ := szField_some (rd_T68 l i).f0 (rd_T68 l i).f1 n
    rw [if_pos (by omega), if_pos h0, ht, Option.bind_some]
    by_cases h : t < 0
    · rw [if_pos h]; exact ⟨_, rfl⟩
    · rw [if_neg h, wrap_id (x := i + 1) (by omega) (by omega)]
      exact ih k t (i + 1) (by omega) (by omega) (by omega)
theorem szFieldS_some (l : List LawFieldT) (hl : l.length ≤ 4398046511104) (n : Int) (k : Nat) (hk : l.length < k) : ∃ t, laws_szFieldS.f k l n = some t := by
  unfold laws_szFieldS.f
  split
  · exact ⟨_, rfl⟩
  · exact szFieldS_l l hl l.length k _ 0 (by omega) (by omega) hk

end Go.Proofs.Ytahgiblifkchaaa.P
end

section
/- The program's ReadDirs answers what the reference's answers, for all fields; no condition. -/
namespace Go.Proofs.Ytahgiblifkchaaa.Pure
open Go.RowKit Go.Proofs.Ytahgiblifkchaaa.P Go.Proofs.YtahgiblifkchaaaW.PrintWords Go.Proofs.YtahgiblifkchaaaW.PrintLast Go.Proofs.YtahgiblifkchaaaW.PrintMore
set_option linter.unusedVariables false
set_option linter.unusedSimpArgs false

theorem FnExactReadDirs : laws_FnExactReadDirs.Pure := by
  intro l0 hl hz
  have hl' : l0.length ≤ 4398046511104 := by omega
  refine ⟨l0.length + 50000, ?_⟩
  unfold laws_FnExactReadDirs.f
  obtain ⟨t, ht⟩ := szFieldS_some l0 hl' 1048576 (l0.length + 50000) (by omega)
  rw [ht, Option.bind_some]
  by_cases hn : t < 0
  · rw [if_pos hn]
  · have hm : (l0.map toF).length = l0.length := by simp
    rw [if_neg hn, toFieldS_eq l0 hl' _ (by omega)]
    simp only [Option.bind_some, spec_ReadDirs_eq _ (l0.length + 50000) (by omega), impl_ReadDirs_eq _ (l0.length + 50000) (by omega)]
    generalize dirsOfL (l0.map toF) = d
    unfold laws_eqDirs.f DirD.tup
    rw [eq_self_FieldS _ (l0.map toF) (by omega) (by omega)]
    simp

end Go.Proofs.Ytahgiblifkchaaa.Pure
end
