/- The plain laws and our own walks below the law FnDirs, in one text; no condition beyond those written. -/
import Derived.Test.YtahgiblifkchaaaDoorOwn
import Derived.Test.YtahgiblifkchaaaDoorPximpl01a
import Derived.Test.YtahgiblifkchaaaDoorPximpl12a
import Derived.Test.YtahgiblifkchaaaDoorPxspec01b
import Derived.Test.YtahgiblifkchaaaDoorPxspec12a
import Derived.Test.YtahgiblifkchaaaDoorPximpl12c
import Derived.Test.YtahgiblifkchaaaDoorPximpl05b
import Derived.Test.YtahgiblifkchaaaDoorPximpl01d
import Derived.Test.YtahgiblifkchaaaDoorShelf
import Derived.Lib.AppendIntMem
import Derived.Lib.ItoaLen
import Derived.Test.YtahgiblifkchaaaDoorPxspec12d
import Derived.Test.YtahgiblifkchaaaDoorPxspec12e
import Derived.Test.YtahgiblifkchaaaDoorPxspec01c
import Derived.Test.YtahgiblifkchaaaDoorPxauxa
import Derived.Laws.BitsLemmas
import Derived.Test.YtahgiblifkchaaaDoorPximpl01b
import Derived.Test.YtahgiblifkchaaaDoorPximpl01e
import Derived.Test.YtahgiblifkchaaaDoorPx0
import Derived.Test.YtahgiblifkchaaaDoorPximpl05a
import Derived.Test.YtahgiblifkchaaaDoorPximpl01c
import Derived.Test.YtahgiblifkchaaaDoorPximpl05c
import Derived.Test.YtahgiblifkchaaaDoorPximpl12b
import Derived.Test.YtahgiblifkchaaaDoorPxliba
section
/- Plain laws of our own (Kit): about numbers and lists alone; no condition beyond those written. -/
namespace Go.Proofs.YtahgiblifkchaaaDoor.P
open Go.RowKit Go.Proofs.YtahgiblifkchaaaDoorW.PrintWords Go.Proofs.YtahgiblifkchaaaDoorW.PrintLast Go.Proofs.YtahgiblifkchaaaDoorW.PrintMore
set_option linter.unusedVariables false
set_option linter.unusedSimpArgs false
set_option maxHeartbeats 2000000
theorem wrap_id {x : Int} (h : -9223372036854775808 ≤ x) (h' : x ≤ 9223372036854775807) : wrap64 x = x := by unfold wrap64; omega
theorem size_extract (s : ByteArray) (a b : Nat) : (s.extract a b).size = min b s.size - a := ByteArray.size_extract
theorem bt_extract (s : ByteArray) (a b : Nat) (i : Int) (h0 : 0 ≤ i) (h1 : i < (b : Int) - a) (h2 : b ≤ s.size) : bt (s.extract a b) i = bt s (a + i) := by
  obtain ⟨n, rfl⟩ := Int.eq_ofNat_of_zero_le h0
  unfold bt
  have e : ((a : Int) + (n : Int)).toNat = a + n := by omega
  rw [e]
  have h3 : n < (s.extract a b).size := by rw [ByteArray.size_extract]; omega
  rw [dif_pos (show ((n : Int)).toNat < (s.extract a b).size by simpa using h3), dif_pos (show a + n < s.size by omega)]
  simp only [Int.toNat_natCast]
  rw [ByteArray.getElem_extract]

end Go.Proofs.YtahgiblifkchaaaDoor.P
end
section
/- Plain laws of our own (Delta): about numbers and lists alone; no condition beyond those written. -/
namespace Go.Proofs.YtahgiblifkchaaaDoor.P
open Go.RowKit Go.Proofs.YtahgiblifkchaaaDoorW.PrintWords Go.Proofs.YtahgiblifkchaaaDoorW.PrintLast Go.Proofs.YtahgiblifkchaaaDoorW.PrintMore
set_option linter.unusedVariables false
set_option linter.unusedSimpArgs false
set_option maxHeartbeats 2000000
def dig (c : Int) : Bool := decide (48 ≤ c) && decide (c ≤ 57)
theorem isDigit_eq (c : Int) : impl_isDigit.f c = some (dig c) := by
  unfold impl_isDigit.f dig
  by_cases h : c ≥ 48
  · rw [if_pos h, show decide (48 ≤ c) = true from decide_eq_true h, Bool.true_and]
  · rw [if_neg h, show decide (48 ≤ c) = false from decide_eq_false h, Bool.false_and]
theorem l1digit_eq (c : Int) : spec_l1digit.f c = some (dig c) := isDigit_eq c
def digs (s : ByteArray) : Nat → Int → Bool
  | 0, _ => true
  | d + 1, i => dig (bt s i) && digs s d (i + 1)
def dval (s : ByteArray) : Nat → Int → Int → Int
  | 0, n, _ => n
  | d + 1, n, i => dval s d (min 2147483648 (10 * n + (bt s i - 48))) (i + 1)
theorem all_isDigit (s : ByteArray) (hs : s.size ≤ 140737488351232) : ∀ (d k : Nat) (i : Int), 0 ≤ i → (s.size : Int) - i = d → d < k →
    impl_all__impl_isDigit.l0 k s i = some (digs s d i) := by
  intro d
  induction d with
  | zero =>
    intro k i h0 hd hk
    obtain ⟨k, rfl⟩ : ∃ m, k = m + 1 := ⟨k - 1, by omega⟩
    simp only [impl_all__impl_isDigit.l0]
    rw [if_neg (by omega)]
    rfl
  | succ d ih =>
    intro k i h0 hd hk
    obtain ⟨k, rfl⟩ : ∃ m, k = m + 1 := ⟨k - 1, by omega⟩
    simp only [impl_all__impl_isDigit.l0]
    rw [if_pos (by omega), if_pos h0, isDigit_eq, Option.bind_some, wrap_id (by omega) (by omega), ih k (i + 1) (by omega) (by omega) (by omega)]
    simp only [digs]
    cases dig (bt s i) <;> simp
theorem spec_loop (s : ByteArray) (hs : s.size ≤ 140737488351232) : ∀ (d k : Nat) (n i : Int), 0 ≤ n → n ≤ 2147483648 → 0 ≤ i → (s.size : Int) - i = d → d < k →
    spec_Delta.l0 k s n i = some (if digs s d i = true then (dval s d n i, true) else (0, false)) := by
  intro d
  induction d with
  | zero =>
    intro k n i hn0 hn1 h0 hd hk
    obtain ⟨k, rfl⟩ : ∃ m, k = m + 1 := ⟨k - 1, by omega⟩
    simp only [spec_Delta.l0]
    rw [if_neg (by omega)]
    simp [digs, dval]
  | succ d ih =>
    intro k n i hn0 hn1 h0 hd hk
    obtain ⟨k, rfl⟩ : ∃ m, k = m + 1 := ⟨k - 1, by omega⟩
    simp only [spec_Delta.l0]
    rw [if_pos (by omega), if_pos h0, l1digit_eq, Option.bind_some]
    simp only [digs, dval]
    by_cases hb : dig (bt s i) = true
    case neg => rw [if_neg hb]; simp [hb]
    case pos =>
      rw [if_pos hb]
      have hr : 48 ≤ bt s i ∧ bt s i ≤ 57 := by simpa [dig] using hb
      rw [wrap_id (x := n * 10) (by omega) (by omega), wrap_id (x := i + 1) (by omega) (by omega), wrap_id (x := n * 10 + (bt s i - 48) % 256) (by omega) (by omega)]
      have e : n * 10 + (bt s i - 48) % 256 = 10 * n + (bt s i - 48) := by omega
      rw [e]
      by_cases hc : 10 * n + (bt s i - 48) > 2147483648
      · rw [if_pos hc, ih k _ (i + 1) (by omega) (by omega) (by omega) (by omega) (by omega), show min 2147483648 (10 * n + (bt s i - 48)) = (2147483648 : Int) by omega]
        simp [hb]
      · rw [if_neg hc, ih k _ (i + 1) (by omega) (by omega) (by omega) (by omega) (by omega), show min 2147483648 (10 * n + (bt s i - 48)) = 10 * n + (bt s i - 48) by omega]
        simp [hb]
theorem impl_loop (s : ByteArray) (hs : s.size ≤ 140737488351232) : ∀ (d k : Nat) (n i : Int), 0 ≤ n → n ≤ 2147483648 → 0 ≤ i → (s.size : Int) - i = d → d < k → digs s d i = true →
    impl_Delta.l0 k s n i = some (dval s d n i, true) := by
  intro d
  induction d with
  | zero =>
    intro k n i hn0 hn1 h0 hd hk hg
    obtain ⟨k, rfl⟩ : ∃ m, k = m + 1 := ⟨k - 1, by omega⟩
    simp only [impl_Delta.l0]
    rw [if_neg (by omega)]
    simp [dval]
  | succ d ih =>
    intro k n i hn0 hn1 h0 hd hk hg
    obtain ⟨k, rfl⟩ : ∃ m, k = m + 1 := ⟨k - 1, by omega⟩
    simp only [impl_Delta.l0]
    rw [if_pos (by omega), if_pos h0]
    simp only [digs, Bool.and_eq_true] at hg
    have hr : 48 ≤ bt s i ∧ bt s i ≤ 57 := by simpa [dig] using hg.1
    rw [wrap_id (x := 10 * n) (by omega) (by omega), wrap_id (x := i + 1) (by omega) (by omega), wrap_id (x := 10 * n + (bt s i - 48) % 256) (by omega) (by omega)]
    have e : mn 2147483648 (10 * n + (bt s i - 48) % 256) = min 2147483648 (10 * n + (bt s i - 48)) := by unfold mn; split <;> omega
    rw [e, ih k _ (i + 1) (by omega) (by omega) (by omega) (by omega) (by omega) hg.2]
    rfl
def deltaOf (s : ByteArray) : Int × Bool := if s.toList = ([] : List UInt8) then (0, false) else if digs s s.size 0 = true then (dval s s.size 0 0, true) else (0, false)
theorem spec_Delta_eq (s : ByteArray) (hs : s.size ≤ 140737488351232) (k : Nat) (hk : s.size + 2 < k) : spec_Delta.f k s = some (deltaOf s) := by
  unfold spec_Delta.f deltaOf
  by_cases h : s.toList = ([] : List UInt8)
  · rw [if_pos h, if_pos h]
  · rw [if_neg h, if_neg h, spec_loop s hs s.size k 0 0 (by omega) (by omega) (by omega) (by omega) (by omega)]
theorem impl_Delta_eq (s : ByteArray) (hs : s.size ≤ 140737488351232) (k : Nat) (hk : s.size + 2 < k) : impl_Delta.f k s = some (deltaOf s) := by
  unfold impl_Delta.f deltaOf impl_all__impl_isDigit.f
  obtain ⟨k, rfl⟩ : ∃ m, k = m + 1 := ⟨k - 1, by omega⟩
  by_cases h : s.toList = ([] : List UInt8)
  · rw [if_pos h, if_pos h]; simp [impl_Delta.j0]
  · rw [if_neg h, if_neg h, all_isDigit s hs s.size (k + 1) 0 (by omega) (by omega) (by omega), Option.bind_some]
    simp only [impl_Delta.j0]
    by_cases hd : digs s s.size 0 = true
    · rw [if_neg (by simp [hd]), if_pos hd, impl_loop s hs s.size k 0 0 (by omega) (by omega) (by omega) (by omega) (by omega) hd]
    · rw [if_pos (by simpa using hd), if_neg hd]

end Go.Proofs.YtahgiblifkchaaaDoor.P
end
section
/- The program's DirsText, walked: what it answers, given that strconv's table reads as its text lays it. -/
namespace Go.Proofs.YtahgiblifkchaaaDoor.P
open Go.RowKit Go.Proofs.YtahgiblifkchaaaDoorW.PrintWords Go.Proofs.YtahgiblifkchaaaDoorW.PrintLast Go.Proofs.YtahgiblifkchaaaDoorW.PrintMore
attribute [local go_sem] max2_int min2_int max_two min_two max_three min_three max_four min_four
set_option linter.unusedVariables false
set_option linter.unusedSimpArgs false
def Tab10 (w : World) : Prop := Lib.TabIs Tryd.prog w "internal/strconv.uint64pow10" .u64 Lib.pow10Tab
theorem tab_below {B : Nat} {w w' : World} (h : Tab10 w) (hb : Below B w w') (hB : ∀ g, Tryd.prog.globalNamed "internal/strconv.uint64pow10" = some g → g < B) : Tab10 w' := by
  unfold Tab10 Lib.TabIs World.var? at *
  cases hg : Tryd.prog.globalNamed "internal/strconv.uint64pow10" with
  | none => rw [hg] at h; cases h
  | some g =>
    rw [hg] at h
    rw [Option.bind_some] at h ⊢
    rw [hb.block g (hB g hg)]
    exact h
theorem tab_lt {w : World} (h : Tab10 w) : ∀ g, Tryd.prog.globalNamed "internal/strconv.uint64pow10" = some g → g < w.heap.size := by
  intro g hg
  unfold Tab10 Lib.TabIs World.var? at h
  rw [hg, Option.bind_some] at h
  cases hh : w.heap[g]? with
  | none => rw [hh] at h; cases h
  | some o => exact blk_lt hh
def decT (n : Int) : ByteArray := if 0 ≤ n ∧ n ≤ 999999999999999 then ⟨(Lib.itoa n).toArray⟩ else ⟨#[]⟩
theorem decT_calls (n : Int) (w : World) (ht : Tab10 w) :
    Calls Tryd.prog 21 #[.int .i64 n] w fun e w' => e = .returned (.string (decT n)) ∧ Below w.heap.size w w' := by
  have hT := Aside0.mk ht
  clear ht
  by_cases hn : 0 ≤ n ∧ n ≤ 999999999999999
  · have hw : impl_within.f n 0 999999999999999 = some true := by
      unfold impl_within.f
      rw [if_pos hn.1, decide_eq_true hn.2]
    have A := Aside0.mk hw
    have N := Aside0.mk hn
    rw [show decT n = ⟨(Lib.itoa n).toArray⟩ from if_pos hn]
    clear hw hn
    go_enter Tryd.func21, Tryd.ntmps21
    go_wp2_with fail
    refine (impl_within.calls n 0 999999999999999 true _ A.out).mono ?_
    rintro e w5 ⟨rfl, ⟨nd, rfl⟩⟩
    dsimp only
    go_wp2_with fail
    refine (Tryd.strconv_Itoa n (by have := N.out; omega) (by have := N.out; omega) _ (tab_below hT.out (pw_below_drewN (Below.refl _ _) nd) (tab_lt hT.out))).mono ?_
    rintro e w6 ⟨rfl, k, os, rfl⟩
    dsimp only
    go_wp2
    go_ret
    exact ⟨rfl, below_step (pw_below_drewN (Below.refl _ _) nd) (Lib.below_grow _ _ (Nat.le_refl _) k os)⟩
  · have hw : impl_within.f n 0 999999999999999 = some false := by
      unfold impl_within.f
      by_cases h0 : 0 ≤ n
      · rw [if_pos h0, decide_eq_false (fun h => hn ⟨h0, h⟩)]
      · rw [if_neg h0]
    have A := Aside0.mk hw
    rw [show decT n = ⟨#[]⟩ from if_neg hn]
    clear hw hn
    go_enter Tryd.func21, Tryd.ntmps21
    go_wp2_with fail
    refine (impl_within.calls n 0 999999999999999 false _ A.out).mono ?_
    rintro e w5 ⟨rfl, ⟨nd, rfl⟩⟩
    dsimp only
    go_wp2
    go_ret
    exact ⟨rfl, pw_below_drewN (Below.refl _ _) nd⟩
theorem box_after0 {w w1 : World} {B : Nat} {v v1 : Value} {e : TypeId} {base base' : Nat} {xs ys : List ByteArray} (hbox : w.heap[B]? = some (.cells #[v] e (0, 0))) (hR : Kd.R Kd.string 9 w base (fun k_ => k_ ≠ B) v xs)
    (hg : w.grownBy w1 v.ownBlock) (ho : Kd.R Kd.string 9 w1 base' (fun k_ => k_ ≠ B) v1 ys) :
    (∃ A c, v1 = .slice A ys.length c) ∧ w1.heap[B]? = some (.cells #[v] e (0, 0)) ∧ w1.cell? ⟨B, 0, none⟩ = some v ∧ w1.frozen? ⟨B, 0, none⟩ = false := by
  have hb1 : w1.heap[B]? = some (.cells #[v] e (0, 0)) := blk_grown hbox hg (fun e_ => hR.1 B e_.symm rfl)
  exact ⟨R_slice ho, hb1, by rw [cell_of_row w1 B 0 _ _ _ hb1]; rfl, blk_frozen hb1 0⟩
set_option maxHeartbeats 8000000 in
set_option maxRecDepth 100000 in
theorem flag_calls (b : Bool) (nm : ByteArray) (B : Nat) (v : Value) (xs : List ByteArray) (w w0 : World) (base : Nat)
    (hbox : w.heap[B]? = some (.cells #[v] 43 (0, 0))) (hR : Kd.R Kd.string 9 w base (fun k_ => k_ ≠ B) v xs) (hbel : Below base w0 w) (hbase : base ≤ B) (hlen : xs.length < 8796093022208) :
    Calls Tryd.prog 20 #[.bool b, .string nm, .pointer (some ⟨B, 0, none⟩)] w fun e w' => ∃ v', e = .returned (.tuple #[]) ∧ w'.heap[B]? = some (.cells #[v'] 43 (0, 0)) ∧
      Kd.R Kd.string 9 w' base (fun k_ => k_ ≠ B) v' (if b = true then xs ++ [nm] else xs) ∧ Below base w0 w' := by
  obtain ⟨A0, c0, rfl⟩ := R_slice hR
  have hBlt := blk_lt hbox
  have Hbox := Aside0.mk hbox
  have HR := Aside0.mk hR
  have HB := Aside0.mk hbel
  clear hR hbel
  cases b with
  | false =>
    rw [if_neg (by decide)]
    clear hbox
    go_enter Tryd.func20, Tryd.ntmps20
    go_wp2
    first | go_end0 | ((try simp only [Exit.inBlock, Exit.then]); refine bodyPost_ret (results_none rfl _ _ _) rfl ?_)
    exact ⟨_, rfl, Hbox.out, HR.out, HB.out⟩
  | true =>
    rw [if_pos rfl]
    have hcell : w.cell? ⟨B, 0, none⟩ = some (.slice A0 xs.length c0) := by rw [cell_of_row w B 0 _ _ _ hbox]; rfl
    clear hbox
    go_enter Tryd.func20, Tryd.ntmps20
    go_wp2_with ((with_reducible refine gate_builtin (b := .append) (xs := #[.tmp 6, .tmp 8]) rfl ?_); (try (refine gate_guard (by rfl) ?_; dsimp only)); at_builtin; refine Kd.R_append Kd.string (w0 := w0) base rfl (.tmp 6) (.tmp 8) 43 9 (.string ⟨#[]⟩) 16 rfl Tryd.underlying43 info9 rfl (by decide) (by omega) (.slice A0 xs.length c0) xs nm [.string nm] (fun k_ => k_ ≠ B) (fun _ => False) rfl rfl ?aP (fun _ hk => hk.elim) ?aF ?aO ?aB ?aS ?aL ?_; (case aP => exact rfl); (case aF => intro k_ hk e_; subst e_; first | omega | (simp at hk; omega)); (case aO => exact (by (with_reducible repeat (first | apply Kd.R_alloc | apply Kd.R_drewN | apply Kd.R_drew)); exact HR.out)); (case aB => exact (by repeat (first | (with_reducible first | exact HB.out | apply below_alloc | apply pw_below_drewN | apply below_drew1) | exact HB.out))); (case aS => first | (simp; done) | (simp; omega) | omega); (case aL => omega); intro v1 w1 ho hb hg hat; obtain ⟨⟨A1_, c1_, rfl⟩, hb1, hcell1, hfree1⟩ := box_after0 Hbox.out HR.out hg ho; have Hb1 := Aside0.mk hb1; have Ho := Aside0.mk ho; have Hb := Aside0.mk hb; clear hb1 ho hb hg hat)
    first | go_end0 | ((try simp only [Exit.inBlock, Exit.then]); refine bodyPost_ret (results_none rfl _ _ _) rfl ?_)
    have Ho2 := Ho.out
    rw [List.length_append, List.length_singleton] at Ho2
    exact ⟨_, rfl, heap_setCell_at Hb1.out, Kd.R_far (p := ⟨B, 0, none⟩) Ho2 (fun _ hk => hk) _, Hb.out.setCell hbase _⟩
def dirBox (b0 b1 b2 b3 b4 b5 : Bool) (n6 n7 n8 n9 : Int) : Array Value := #[.bool b0, .bool b1, .bool b2, .bool b3, .bool b4, .bool b5, .int .i64 n6, .int .i64 n7, .int .i64 n8, .int .i64 n9]
def addF (xs : List ByteArray) (b : Bool) (nm : ByteArray) : List ByteArray := if b = true then xs ++ [nm] else xs
theorem addF_length (xs : List ByteArray) (b : Bool) (nm : ByteArray) : (addF xs b nm).length ≤ xs.length + 1 := by unfold addF; split <;> simp
def dl0 (b0 b1 b2 b3 b4 b5 : Bool) (n6 n7 n8 n9 : Int) : List ByteArray := addF ([] : List ByteArray) b0 (⟨#[110, 111, 45, 115, 116, 111, 114, 101]⟩ : ByteArray)
def dl1 (b0 b1 b2 b3 b4 b5 : Bool) (n6 n7 n8 n9 : Int) : List ByteArray := addF (dl0 b0 b1 b2 b3 b4 b5 n6 n7 n8 n9) b1 (⟨#[110, 111, 45, 99, 97, 99, 104, 101]⟩ : ByteArray)
def dl2 (b0 b1 b2 b3 b4 b5 : Bool) (n6 n7 n8 n9 : Int) : List ByteArray := addF (dl1 b0 b1 b2 b3 b4 b5 n6 n7 n8 n9) b2 (⟨#[112, 114, 105, 118, 97, 116, 101]⟩ : ByteArray)
def dl3 (b0 b1 b2 b3 b4 b5 : Bool) (n6 n7 n8 n9 : Int) : List ByteArray := addF (dl2 b0 b1 b2 b3 b4 b5 n6 n7 n8 n9) b3 (⟨#[112, 117, 98, 108, 105, 99]⟩ : ByteArray)
def dl4 (b0 b1 b2 b3 b4 b5 : Bool) (n6 n7 n8 n9 : Int) : List ByteArray := addF (dl3 b0 b1 b2 b3 b4 b5 n6 n7 n8 n9) b4 (⟨#[109, 117, 115, 116, 45, 114, 101, 118, 97, 108, 105, 100, 97, 116, 101]⟩ : ByteArray)
def dl5 (b0 b1 b2 b3 b4 b5 : Bool) (n6 n7 n8 n9 : Int) : List ByteArray := addF (dl4 b0 b1 b2 b3 b4 b5 n6 n7 n8 n9) b5 (⟨#[111, 110, 108, 121, 45, 105, 102, 45, 99, 97, 99, 104, 101, 100]⟩ : ByteArray)
def dl6 (b0 b1 b2 b3 b4 b5 : Bool) (n6 n7 n8 n9 : Int) : List ByteArray := addF (dl5 b0 b1 b2 b3 b4 b5 n6 n7 n8 n9) (decide (0 ≤ n6)) ((⟨#[109, 97, 120, 45, 97, 103, 101, 61]⟩ : ByteArray) ++ decT n6)
def dl7 (b0 b1 b2 b3 b4 b5 : Bool) (n6 n7 n8 n9 : Int) : List ByteArray := addF (dl6 b0 b1 b2 b3 b4 b5 n6 n7 n8 n9) (decide (0 ≤ n7)) ((⟨#[115, 45, 109, 97, 120, 97, 103, 101, 61]⟩ : ByteArray) ++ decT n7)
def dl8 (b0 b1 b2 b3 b4 b5 : Bool) (n6 n7 n8 n9 : Int) : List ByteArray := addF (dl7 b0 b1 b2 b3 b4 b5 n6 n7 n8 n9) (decide (0 ≤ n8)) ((⟨#[109, 97, 120, 45, 115, 116, 97, 108, 101, 61]⟩ : ByteArray) ++ decT n8)
def dl9 (b0 b1 b2 b3 b4 b5 : Bool) (n6 n7 n8 n9 : Int) : List ByteArray := addF (dl8 b0 b1 b2 b3 b4 b5 n6 n7 n8 n9) (decide (0 ≤ n9)) ((⟨#[109, 105, 110, 45, 102, 114, 101, 115, 104, 61]⟩ : ByteArray) ++ decT n9)
theorem dl0_length (b0 b1 b2 b3 b4 b5 : Bool) (n6 n7 n8 n9 : Int) : (dl0 b0 b1 b2 b3 b4 b5 n6 n7 n8 n9).length ≤ 1 := by unfold dl0; exact Nat.le_trans (addF_length _ _ _) (Nat.succ_le_succ (Nat.le_refl _))
theorem dl1_length (b0 b1 b2 b3 b4 b5 : Bool) (n6 n7 n8 n9 : Int) : (dl1 b0 b1 b2 b3 b4 b5 n6 n7 n8 n9).length ≤ 2 := by unfold dl1; exact Nat.le_trans (addF_length _ _ _) (Nat.succ_le_succ (dl0_length b0 b1 b2 b3 b4 b5 n6 n7 n8 n9))
theorem dl2_length (b0 b1 b2 b3 b4 b5 : Bool) (n6 n7 n8 n9 : Int) : (dl2 b0 b1 b2 b3 b4 b5 n6 n7 n8 n9).length ≤ 3 := by unfold dl2; exact Nat.le_trans (addF_length _ _ _) (Nat.succ_le_succ (dl1_length b0 b1 b2 b3 b4 b5 n6 n7 n8 n9))
theorem dl3_length (b0 b1 b2 b3 b4 b5 : Bool) (n6 n7 n8 n9 : Int) : (dl3 b0 b1 b2 b3 b4 b5 n6 n7 n8 n9).length ≤ 4 := by unfold dl3; exact Nat.le_trans (addF_length _ _ _) (Nat.succ_le_succ (dl2_length b0 b1 b2 b3 b4 b5 n6 n7 n8 n9))
theorem dl4_length (b0 b1 b2 b3 b4 b5 : Bool) (n6 n7 n8 n9 : Int) : (dl4 b0 b1 b2 b3 b4 b5 n6 n7 n8 n9).length ≤ 5 := by unfold dl4; exact Nat.le_trans (addF_length _ _ _) (Nat.succ_le_succ (dl3_length b0 b1 b2 b3 b4 b5 n6 n7 n8 n9))
theorem dl5_length (b0 b1 b2 b3 b4 b5 : Bool) (n6 n7 n8 n9 : Int) : (dl5 b0 b1 b2 b3 b4 b5 n6 n7 n8 n9).length ≤ 6 := by unfold dl5; exact Nat.le_trans (addF_length _ _ _) (Nat.succ_le_succ (dl4_length b0 b1 b2 b3 b4 b5 n6 n7 n8 n9))
theorem dl6_length (b0 b1 b2 b3 b4 b5 : Bool) (n6 n7 n8 n9 : Int) : (dl6 b0 b1 b2 b3 b4 b5 n6 n7 n8 n9).length ≤ 7 := by unfold dl6; exact Nat.le_trans (addF_length _ _ _) (Nat.succ_le_succ (dl5_length b0 b1 b2 b3 b4 b5 n6 n7 n8 n9))
theorem dl7_length (b0 b1 b2 b3 b4 b5 : Bool) (n6 n7 n8 n9 : Int) : (dl7 b0 b1 b2 b3 b4 b5 n6 n7 n8 n9).length ≤ 8 := by unfold dl7; exact Nat.le_trans (addF_length _ _ _) (Nat.succ_le_succ (dl6_length b0 b1 b2 b3 b4 b5 n6 n7 n8 n9))
theorem dl8_length (b0 b1 b2 b3 b4 b5 : Bool) (n6 n7 n8 n9 : Int) : (dl8 b0 b1 b2 b3 b4 b5 n6 n7 n8 n9).length ≤ 9 := by unfold dl8; exact Nat.le_trans (addF_length _ _ _) (Nat.succ_le_succ (dl7_length b0 b1 b2 b3 b4 b5 n6 n7 n8 n9))
theorem dl9_length (b0 b1 b2 b3 b4 b5 : Bool) (n6 n7 n8 n9 : Int) : (dl9 b0 b1 b2 b3 b4 b5 n6 n7 n8 n9).length ≤ 10 := by unfold dl9; exact Nat.le_trans (addF_length _ _ _) (Nat.succ_le_succ (dl8_length b0 b1 b2 b3 b4 b5 n6 n7 n8 n9))
structure TInv (w1 : World) (B : Nat) (cs : Array Value) (xs : List ByteArray) (v : Value) (W : World) : Prop where
  dbox : W.heap[w1.heap.size]? = some (.cells cs 25 (0, 0))
  box : W.heap[B]? = some (.cells #[v] 43 (0, 0))
  rows : Kd.R Kd.string 9 W (w1.heap.size + 1) (fun k_ => k_ ≠ B) v xs
  bel : Below (w1.heap.size + 1) (w1.alloc (.cells cs 25)) W
  far : w1.heap.size + 1 ≤ B
  tab : Tab10 w1
theorem TInv.tabs {w1 : World} {B : Nat} {cs : Array Value} {xs : List ByteArray} {v : Value} {W : World} (h : TInv w1 B cs xs v W) : Tab10 W := by
  have h1 : Tab10 (w1.alloc (.cells cs 25)) := tab_below h.tab (below_alloc (Below.refl w1.heap.size w1) _) (tab_lt h.tab)
  exact tab_below h1 h.bel (fun g hg => Nat.lt_succ_of_lt (tab_lt h.tab g hg))
theorem TInv.below {w1 : World} {B : Nat} {cs : Array Value} {xs : List ByteArray} {v : Value} {W W' : World} (h : TInv w1 B cs xs v W) (hb : Below W.heap.size W W') : TInv w1 B cs xs v W' :=
  ⟨blk_below h.dbox hb, blk_below h.box hb, Kd.R_below h.rows hb, below_then h.bel (Nat.le_trans h.far (Nat.le_of_lt (blk_lt h.box))) hb, h.far, h.tab⟩
theorem TInv.flag {w1 : World} {B : Nat} {cs : Array Value} {xs : List ByteArray} {v : Value} {W : World} (h : TInv w1 B cs xs v W) (b : Bool) (nm : ByteArray) (hl : xs.length ≤ 100) :
    Calls Tryd.prog 20 #[.bool b, .string nm, .pointer (some ⟨B, 0, none⟩)] W fun e w' => ∃ v', e = .returned (.tuple #[]) ∧ TInv w1 B cs (addF xs b nm) v' w' := by
  refine (flag_calls b nm B v xs W (w1.alloc (.cells cs 25)) (w1.heap.size + 1) h.box h.rows h.bel h.far (by omega)).mono ?_
  rintro e w' ⟨v', rfl, h1, h2, h3⟩
  refine ⟨v', rfl, ?_, h1, h2, h3, h.far, h.tab⟩
  rw [h3.block w1.heap.size (Nat.lt_succ_self _)]
  exact blk_new w1 _
theorem TInv.cell {w1 : World} {B : Nat} {cs : Array Value} {xs : List ByteArray} {v : Value} {W : World} (h : TInv w1 B cs xs v W) (j : Nat) : W.cell? ⟨w1.heap.size, j, none⟩ = cs[j]? := blk_cell h.dbox j
def impl_DirsText.f (b0 b1 b2 b3 b4 b5 : Bool) (n6 n7 n8 n9 : Int) : Option ByteArray := (impl_DirsOk.f b0 b1 b2 b3 b4 b5 n6 n7 n8 n9).bind fun ok => if ok = true then (if (joinL (dl9 b0 b1 b2 b3 b4 b5 n6 n7 n8 n9)).length ≤ 140737488355328 ∧ ((decT n6).size ≤ 1000 ∧ (decT n7).size ≤ 1000 ∧ (decT n8).size ≤ 1000 ∧ (decT n9).size ≤ 1000) then some ⟨(joinL (dl9 b0 b1 b2 b3 b4 b5 n6 n7 n8 n9)).toArray⟩ else none) else some ⟨#[]⟩
theorem goesC_ {P : Program} {ops : Array Oper} {Q : Exit → Act → World → Prop} {oi : Oper} {N : Option Tmp} {a : Act} {w : World} {K : Act → World → Prop} {f : FuncId} {fn : Func} {t : Tmp} {as_ : Array Operand} {ts : Array TypeId} (hf : P.funcs[f]? = some fn) (hname : (fn.name == "runtime.NumGoroutine") = false) (hb : fn.body.isSome = true) (caps args : Array Value)
    (hw : Region.wanted oi (yielded ops a.tmps) = true) (hN : oi.dst = N) (hop : oi.op = .call { callee := .value (.tmp t), args := as_, argTypes := ts }) (hv : a.eval (.tmp t) = .func (.func f) #[] caps) (hargs : as_.map a.eval ++ caps = args)
    (h : Calls P f args w fun e w' => ∃ v, e = .returned v ∧ K (a.put N v) w') : if Region.wanted oi (yielded ops a.tmps) = true then Oper.wp P oi a w K Q else K (a.put N undef) w := by
  refine call_ f args hw hN ?_ h
  have he := enters_ hf hname hb args w
  unfold execOp
  simp [hop, resolve, Deferred.ofValue, invoke, hv, hargs, he]
def dirT : Bool × List (List Nat × List Nat) := (true, [([], []), ([], []), ([1], [1]), ([2], [2]), ([], []), ([4], [4]), ([5], [5]), ([6], [6]), ([0, 3, 7, 6], [0, 3, 7])])
def dirB : List Nat := [0, 0, 2, 6, 0, 16, 48, 112, 255]
theorem dir_bits : waitsOk dirT.2 dirB = true := by kernel_rfl
theorem dir_tab11 : rtab .any (opsOf Tryd.f8 11) = dirT := by kernel_rfl
theorem dir_tab12 : rtab .any (opsOf Tryd.f8 12) = dirT := by kernel_rfl
theorem dir_tab13 : rtab .any (opsOf Tryd.f8 13) = dirT := by kernel_rfl
theorem dir_tab14 : rtab .any (opsOf Tryd.f8 14) = dirT := by kernel_rfl
set_option maxHeartbeats 8000000 in
set_option maxRecDepth 100000 in
theorem impl_DirsText.calls (b0 b1 b2 b3 b4 b5 : Bool) (n6 n7 n8 n9 : Int) (r : ByteArray) (w : World) (ht : Tab10 w) (h : impl_DirsText.f b0 b1 b2 b3 b4 b5 n6 n7 n8 n9 = some r) :
    Calls Tryd.prog 8 #[.agg #[.bool b0, .bool b1, .bool b2, .bool b3, .bool b4, .bool b5, .int .i64 n6, .int .i64 n7, .int .i64 n8, .int .i64 n9]] w fun e w' => e = .returned (.string r) ∧ Below w.heap.size w w' := by
  have hu25 := Tryd.underlying25
  have HT := Aside0.mk ht
  clear ht
  obtain ⟨ok, A10, H⟩ := Option.bind_eq_some_iff.mp h
  have A1 := Aside0.mk A10
  clear h A10
  go_enter Tryd.func8, Tryd.ntmps8
  have hc0 := blk_new w (Obj.cells (dirBox b0 b1 b2 b3 b4 b5 n6 n7 n8 n9) 25)
  go_wp2_with fail
  refine (impl_DirsOk.calls b0 b1 b2 b3 b4 b5 n6 n7 n8 n9 ok _ A1.out).mono ?_
  rintro e w2 ⟨rfl, hb⟩
  dsimp only
  have hb0 : Below (w.alloc (.cells (dirBox b0 b1 b2 b3 b4 b5 n6 n7 n8 n9) 25)).heap.size (w.alloc (.cells (dirBox b0 b1 b2 b3 b4 b5 n6 n7 n8 n9) 25)) w2 := hb
  have hsz : (w.alloc (.cells (dirBox b0 b1 b2 b3 b4 b5 n6 n7 n8 n9) 25)).heap.size = w.heap.size + 1 := by simp
  have HB2 := Aside0.mk hb0
  clear hb hb0 hc0
  cases ok with
  | false =>
    obtain rfl : ⟨#[]⟩ = r := by simpa using H
    clear H
    go_wp2
    go_ret
    exact ⟨rfl, below_step (below_alloc (Below.refl _ _) _) HB2.out⟩
  | true =>
    rw [if_pos rfl] at H
    by_cases hq : (joinL (dl9 b0 b1 b2 b3 b4 b5 n6 n7 n8 n9)).length ≤ 140737488355328 ∧ ((decT n6).size ≤ 1000 ∧ (decT n7).size ≤ 1000 ∧ (decT n8).size ≤ 1000 ∧ (decT n9).size ≤ 1000)
    case neg => rw [if_neg hq] at H; cases H
    rw [if_pos hq] at H
    obtain rfl := Option.some.inj H
    clear H
    have Q := Aside0.mk hq
    clear hq
    have hd0 : w2.heap[w.heap.size]? = some (.cells (dirBox b0 b1 b2 b3 b4 b5 n6 n7 n8 n9) 25 (0, 0)) := (HB2.out.block w.heap.size (by rw [hsz]; exact Nat.lt_succ_self _)).trans (blk_new w _)
    have hs2 : w.heap.size + 1 ≤ w2.heap.size := by have := HB2.out.size; omega
    have I : TInv w w2.heap.size (dirBox b0 b1 b2 b3 b4 b5 n6 n7 n8 n9) [] (.slice none 0 0) (w2.alloc (.cells #[.slice none 0 0] 43)) :=
      ⟨blk_below hd0 (below_alloc (Below.refl _ _) _), blk_new w2 _, Kd.R_nil _ _ _ _ _, (hsz ▸ HB2.out).alloc hs2 _, hs2, HT.out⟩
    have I := Aside0.mk I
    have hc : (w2.alloc (.cells #[.slice none 0 0] 43)).cell? ⟨w.heap.size, 0, none⟩ = some (.bool b0) := I.out.cell 0
    go_wp2_with fail
    refine (I.out.flag b0 (⟨#[110, 111, 45, 115, 116, 111, 114, 101]⟩ : ByteArray) (Nat.le_trans (Nat.le_refl 0) (by decide))).mono ?_
    rintro e x0 ⟨v0, rfl, hi⟩
    dsimp only
    clear hc
    have I := Aside0.mk hi
    clear hi
    have hc : x0.cell? ⟨w.heap.size, 1, none⟩ = some (.bool b1) := I.out.cell 1
    go_wp2_with fail
    refine (I.out.flag b1 (⟨#[110, 111, 45, 99, 97, 99, 104, 101]⟩ : ByteArray) (Nat.le_trans (dl0_length b0 b1 b2 b3 b4 b5 n6 n7 n8 n9) (by decide))).mono ?_
    rintro e x1 ⟨v1, rfl, hi⟩
    dsimp only
    clear hc
    have I := Aside0.mk hi
    clear hi
    have hc : x1.cell? ⟨w.heap.size, 2, none⟩ = some (.bool b2) := I.out.cell 2
    go_wp2_with fail
    refine (I.out.flag b2 (⟨#[112, 114, 105, 118, 97, 116, 101]⟩ : ByteArray) (Nat.le_trans (dl1_length b0 b1 b2 b3 b4 b5 n6 n7 n8 n9) (by decide))).mono ?_
    rintro e x2 ⟨v2, rfl, hi⟩
    dsimp only
    clear hc
    have I := Aside0.mk hi
    clear hi
    have hc : x2.cell? ⟨w.heap.size, 3, none⟩ = some (.bool b3) := I.out.cell 3
    go_wp2_with fail
    refine (I.out.flag b3 (⟨#[112, 117, 98, 108, 105, 99]⟩ : ByteArray) (Nat.le_trans (dl2_length b0 b1 b2 b3 b4 b5 n6 n7 n8 n9) (by decide))).mono ?_
    rintro e x3 ⟨v3, rfl, hi⟩
    dsimp only
    clear hc
    have I := Aside0.mk hi
    clear hi
    have hc : x3.cell? ⟨w.heap.size, 4, none⟩ = some (.bool b4) := I.out.cell 4
    go_wp2_with fail
    refine (I.out.flag b4 (⟨#[109, 117, 115, 116, 45, 114, 101, 118, 97, 108, 105, 100, 97, 116, 101]⟩ : ByteArray) (Nat.le_trans (dl3_length b0 b1 b2 b3 b4 b5 n6 n7 n8 n9) (by decide))).mono ?_
    rintro e x4 ⟨v4, rfl, hi⟩
    dsimp only
    clear hc
    have I := Aside0.mk hi
    clear hi
    have hc : x4.cell? ⟨w.heap.size, 5, none⟩ = some (.bool b5) := I.out.cell 5
    go_wp2_with fail
    refine (I.out.flag b5 (⟨#[111, 110, 108, 121, 45, 105, 102, 45, 99, 97, 99, 104, 101, 100]⟩ : ByteArray) (Nat.le_trans (dl4_length b0 b1 b2 b3 b4 b5 n6 n7 n8 n9) (by decide))).mono ?_
    rintro e x5 ⟨v5, rfl, hi⟩
    dsimp only
    clear hc
    have I := Aside0.mk hi
    clear hi
    go_wp2_with fail
    have hc : x5.cell? ⟨w.heap.size, 6, none⟩ = some (.int .i64 n6) := I.out.cell 6
    refine start_ (n := 9) (S := fun w' => w'.cell? ⟨w.heap.size, 6, none⟩ = some (.int .i64 n6)) (ds := []) #[false, false, false, false, false, false, false, false, false] (by kernel_rfl) rfl rfl hc (fun hHeld => ?_); refine with_tabW dir_tab11 dir_bits (fun HT_ HW_ => ?_)
    clear hc
    have J := Aside0.mk (show TInv w w2.heap.size _ _ _ x5.drew from I.out.below (below_drew (Below.refl _ _)))
    clear I
    generalize x5.drew = y6 at J hHeld ⊢
    refine pure_ (i := 0) (N := some 33) (v := ?_) (a' := ?_) #[true, false, false, false, false, false, false, false, false] rfl rfl (any_of HT_.out (by kernel_rfl)) (fun _ _ _ h => h) (Or.inl ⟨by rfl, ?_⟩) ?_ ?_
    rotate_left
    · intro w'
      go_simp
      with_reducible rfl
    rotate_left
    · simp only [Act.put, List.setIfInBounds_toArray, List.set_cons_zero, List.set_cons_succ, i64_w, i32_w]
      rfl
    refine pure_ (i := 1) (N := some 34) (v := ?_) (a' := ?_) #[true, true, false, false, false, false, false, false, false] rfl rfl (any_of HT_.out (by kernel_rfl)) (fun _ _ _ h => h) (Or.inl ⟨by rfl, ?_⟩) ?_ ?_
    rotate_left
    · intro w'
      go_simp
      with_reducible rfl
    rotate_left
    · simp only [Act.put, List.setIfInBounds_toArray, List.set_cons_zero, List.set_cons_succ, i64_w, i32_w]
      rfl
    refine take_ (i := 2) (N := some 35) (v := ?_) (a' := ?_) #[true, true, true, false, false, false, false, false, false] rfl rfl (take_ofW HT_.out HW_.out (by kernel_rfl)) (fun _ _ _ h => h) (Or.inl ⟨by rfl, ?_⟩) hHeld ?_ ?_
    rotate_left
    · rintro w' s0
      go_simp
      with_reducible rfl
    rotate_left
    · simp only [Act.put, List.setIfInBounds_toArray, List.set_cons_zero, List.set_cons_succ, i64_w, i32_w]
      rfl
    refine pure_ (i := 3) (N := some 36) (v := ?_) (a' := ?_) #[true, true, true, true, false, false, false, false, false] rfl rfl (any_of HT_.out (by kernel_rfl)) (fun _ _ _ h => h) (Or.inl ⟨by rfl, ?_⟩) ?_ ?_
    rotate_left
    · intro w'
      go_simp
      with_reducible rfl
    rotate_left
    · simp only [Act.put, List.setIfInBounds_toArray, List.set_cons_zero, List.set_cons_succ, i64_w, i32_w]
      rfl
    refine pure_ (i := 4) (N := some 37) (v := ?_) (a' := ?_) #[true, true, true, true, true, false, false, false, false] rfl rfl (any_of HT_.out (by kernel_rfl)) (fun _ _ _ h => h) (Or.inl ⟨by rfl, ?_⟩) ?_ ?_
    rotate_left
    · intro w'
      go_simp
      with_reducible rfl
    rotate_left
    · simp only [Act.put, List.setIfInBounds_toArray, List.set_cons_zero, List.set_cons_succ, i64_w, i32_w]
      rfl
    refine take_ (i := 5) (N := some 38) (v := ?_) (a' := ?_) #[true, true, true, true, true, true, false, false, false] rfl rfl (take_ofW HT_.out HW_.out (by kernel_rfl)) (fun _ _ _ h => h) (Or.inl ⟨by rfl, ?_⟩) hHeld ?_ ?_
    rotate_left
    · rintro w' s0
      go_simp
      with_reducible rfl
    rotate_left
    · simp only [Act.put, List.setIfInBounds_toArray, List.set_cons_zero, List.set_cons_succ, i64_w, i32_w]
      rfl
    refine one_ (i := 6) (N := some 39) #[true, true, true, true, true, true, true, false, false] rfl rfl (one_of HT_.out (by kernel_rfl)) (by decide) (fun K hK => ?_)
    refine goes_ Tryd.func21 (by kernel_rfl) rfl #[.int .i64 n6] (by rfl) rfl rfl (by (try simp only [List.map_toArray, List.map_cons, List.map_nil]); first | done | rfl) ?_
    refine (decT_calls n6 _ J.out.tabs).mono ?_
    rintro e z6 ⟨rfl, hb⟩
    refine ⟨_, rfl, ?_⟩
    have I := Aside0.mk (J.out.below hb)
    clear J hb hHeld
    refine hK.out _ _ (I.out.cell 6) (fun hHeld => ?_)
    clear hK K
    refine norm_ (a' := ?_) ?_ ?_
    rotate_left
    · show Act.put _ (some 39) _ = _
      simp only [Act.put, List.setIfInBounds_toArray, List.set_cons_zero, List.set_cons_succ, i64_w, i32_w]
      rfl
    have hsz : (9223372036854775807 < 8 + (decT n6).size) = False := eq_false (by have h1 := Q.out.2; omega)
    refine pure_ (i := 7) (N := some 40) (v := ?_) (a' := ?_) #[true, true, true, true, true, true, true, true, false] rfl rfl (any_of HT_.out (by kernel_rfl)) (fun _ _ _ h => h) (Or.inl ⟨by rfl, ?_⟩) ?_ ?_
    rotate_left
    · intro w'
      go_simp
      with_reducible rfl
    rotate_left
    · simp only [Act.put, List.setIfInBounds_toArray, List.set_cons_zero, List.set_cons_succ, i64_w, i32_w]
      rfl
    refine one_ (i := 8) (N := some 41) #[true, true, true, true, true, true, true, true, true] rfl rfl (one_of HT_.out (by kernel_rfl)) (by decide) (fun K hK => ?_)
    refine goesC_ Tryd.func20 (by kernel_rfl) rfl #[.pointer (some ⟨w2.heap.size, 0, none⟩)] #[.bool (decide (0 ≤ n6)), .string ((⟨#[109, 97, 120, 45, 97, 103, 101, 61]⟩ : ByteArray) ++ decT n6), .pointer (some ⟨w2.heap.size, 0, none⟩)] (by rfl) rfl rfl rfl (by (try simp only [List.map_toArray, List.map_cons, List.map_nil]); first | done | rfl) ?_
    refine (I.out.flag _ _ (Nat.le_trans (dl5_length b0 b1 b2 b3 b4 b5 n6 n7 n8 n9) (by decide))).mono ?_
    rintro e x6 ⟨v6, rfl, hi⟩
    refine ⟨_, rfl, ?_⟩
    have J := Aside0.mk hi
    clear I hi hHeld hsz
    refine hK.out _ _ (J.out.cell 6) (fun hHeld => ?_)
    clear hK K
    refine norm_ (a' := ?_) ?_ ?_
    rotate_left
    · show Act.put _ (some 41) _ = _
      simp only [Act.put, List.setIfInBounds_toArray, List.set_cons_zero, List.set_cons_succ, i64_w, i32_w]
      rfl
    refine done_ (done_of HT_.out (by kernel_rfl)) ?_
    clear HT_ HW_ hHeld
    have I := J
    clear J
    go_wp2_with fail
    have hc : x6.cell? ⟨w.heap.size, 7, none⟩ = some (.int .i64 n7) := I.out.cell 7
    refine start_ (n := 9) (S := fun w' => w'.cell? ⟨w.heap.size, 7, none⟩ = some (.int .i64 n7)) (ds := []) #[false, false, false, false, false, false, false, false, false] (by kernel_rfl) rfl rfl hc (fun hHeld => ?_); refine with_tabW dir_tab12 dir_bits (fun HT_ HW_ => ?_)
    clear hc
    have J := Aside0.mk (show TInv w w2.heap.size _ _ _ x6.drew from I.out.below (below_drew (Below.refl _ _)))
    clear I
    generalize x6.drew = y7 at J hHeld ⊢
    refine pure_ (i := 0) (N := some 42) (v := ?_) (a' := ?_) #[true, false, false, false, false, false, false, false, false] rfl rfl (any_of HT_.out (by kernel_rfl)) (fun _ _ _ h => h) (Or.inl ⟨by rfl, ?_⟩) ?_ ?_
    rotate_left
    · intro w'
      go_simp
      with_reducible rfl
    rotate_left
    · simp only [Act.put, List.setIfInBounds_toArray, List.set_cons_zero, List.set_cons_succ, i64_w, i32_w]
      rfl
    refine pure_ (i := 1) (N := some 43) (v := ?_) (a' := ?_) #[true, true, false, false, false, false, false, false, false] rfl rfl (any_of HT_.out (by kernel_rfl)) (fun _ _ _ h => h) (Or.inl ⟨by rfl, ?_⟩) ?_ ?_
    rotate_left
    · intro w'
      go_simp
      with_reducible rfl
    rotate_left
    · simp only [Act.put, List.setIfInBounds_toArray, List.set_cons_zero, List.set_cons_succ, i64_w, i32_w]
      rfl
    refine take_ (i := 2) (N := some 44) (v := ?_) (a' := ?_) #[true, true, true, false, false, false, false, false, false] rfl rfl (take_ofW HT_.out HW_.out (by kernel_rfl)) (fun _ _ _ h => h) (Or.inl ⟨by rfl, ?_⟩) hHeld ?_ ?_
    rotate_left
    · rintro w' s0
      go_simp
      with_reducible rfl
    rotate_left
    · simp only [Act.put, List.setIfInBounds_toArray, List.set_cons_zero, List.set_cons_succ, i64_w, i32_w]
      rfl
    refine pure_ (i := 3) (N := some 45) (v := ?_) (a' := ?_) #[true, true, true, true, false, false, false, false, false] rfl rfl (any_of HT_.out (by kernel_rfl)) (fun _ _ _ h => h) (Or.inl ⟨by rfl, ?_⟩) ?_ ?_
    rotate_left
    · intro w'
      go_simp
      with_reducible rfl
    rotate_left
    · simp only [Act.put, List.setIfInBounds_toArray, List.set_cons_zero, List.set_cons_succ, i64_w, i32_w]
      rfl
    refine pure_ (i := 4) (N := some 46) (v := ?_) (a' := ?_) #[true, true, true, true, true, false, false, false, false] rfl rfl (any_of HT_.out (by kernel_rfl)) (fun _ _ _ h => h) (Or.inl ⟨by rfl, ?_⟩) ?_ ?_
    rotate_left
    · intro w'
      go_simp
      with_reducible rfl
    rotate_left
    · simp only [Act.put, List.setIfInBounds_toArray, List.set_cons_zero, List.set_cons_succ, i64_w, i32_w]
      rfl
    refine take_ (i := 5) (N := some 47) (v := ?_) (a' := ?_) #[true, true, true, true, true, true, false, false, false] rfl rfl (take_ofW HT_.out HW_.out (by kernel_rfl)) (fun _ _ _ h => h) (Or.inl ⟨by rfl, ?_⟩) hHeld ?_ ?_
    rotate_left
    · rintro w' s0
      go_simp
      with_reducible rfl
    rotate_left
    · simp only [Act.put, List.setIfInBounds_toArray, List.set_cons_zero, List.set_cons_succ, i64_w, i32_w]
      rfl
    refine one_ (i := 6) (N := some 48) #[true, true, true, true, true, true, true, false, false] rfl rfl (one_of HT_.out (by kernel_rfl)) (by decide) (fun K hK => ?_)
    refine goes_ Tryd.func21 (by kernel_rfl) rfl #[.int .i64 n7] (by rfl) rfl rfl (by (try simp only [List.map_toArray, List.map_cons, List.map_nil]); first | done | rfl) ?_
    refine (decT_calls n7 _ J.out.tabs).mono ?_
    rintro e z7 ⟨rfl, hb⟩
    refine ⟨_, rfl, ?_⟩
    have I := Aside0.mk (J.out.below hb)
    clear J hb hHeld
    refine hK.out _ _ (I.out.cell 7) (fun hHeld => ?_)
    clear hK K
    refine norm_ (a' := ?_) ?_ ?_
    rotate_left
    · show Act.put _ (some 48) _ = _
      simp only [Act.put, List.setIfInBounds_toArray, List.set_cons_zero, List.set_cons_succ, i64_w, i32_w]
      rfl
    have hsz : (9223372036854775807 < 9 + (decT n7).size) = False := eq_false (by have h1 := Q.out.2; omega)
    refine pure_ (i := 7) (N := some 49) (v := ?_) (a' := ?_) #[true, true, true, true, true, true, true, true, false] rfl rfl (any_of HT_.out (by kernel_rfl)) (fun _ _ _ h => h) (Or.inl ⟨by rfl, ?_⟩) ?_ ?_
    rotate_left
    · intro w'
      go_simp
      with_reducible rfl
    rotate_left
    · simp only [Act.put, List.setIfInBounds_toArray, List.set_cons_zero, List.set_cons_succ, i64_w, i32_w]
      rfl
    refine one_ (i := 8) (N := some 50) #[true, true, true, true, true, true, true, true, true] rfl rfl (one_of HT_.out (by kernel_rfl)) (by decide) (fun K hK => ?_)
    refine goesC_ Tryd.func20 (by kernel_rfl) rfl #[.pointer (some ⟨w2.heap.size, 0, none⟩)] #[.bool (decide (0 ≤ n7)), .string ((⟨#[115, 45, 109, 97, 120, 97, 103, 101, 61]⟩ : ByteArray) ++ decT n7), .pointer (some ⟨w2.heap.size, 0, none⟩)] (by rfl) rfl rfl rfl (by (try simp only [List.map_toArray, List.map_cons, List.map_nil]); first | done | rfl) ?_
    refine (I.out.flag _ _ (Nat.le_trans (dl6_length b0 b1 b2 b3 b4 b5 n6 n7 n8 n9) (by decide))).mono ?_
    rintro e x7 ⟨v7, rfl, hi⟩
    refine ⟨_, rfl, ?_⟩
    have J := Aside0.mk hi
    clear I hi hHeld hsz
    refine hK.out _ _ (J.out.cell 7) (fun hHeld => ?_)
    clear hK K
    refine norm_ (a' := ?_) ?_ ?_
    rotate_left
    · show Act.put _ (some 50) _ = _
      simp only [Act.put, List.setIfInBounds_toArray, List.set_cons_zero, List.set_cons_succ, i64_w, i32_w]
      rfl
    refine done_ (done_of HT_.out (by kernel_rfl)) ?_
    clear HT_ HW_ hHeld
    have I := J
    clear J
    go_wp2_with fail
    have hc : x7.cell? ⟨w.heap.size, 8, none⟩ = some (.int .i64 n8) := I.out.cell 8
    refine start_ (n := 9) (S := fun w' => w'.cell? ⟨w.heap.size, 8, none⟩ = some (.int .i64 n8)) (ds := []) #[false, false, false, false, false, false, false, false, false] (by kernel_rfl) rfl rfl hc (fun hHeld => ?_); refine with_tabW dir_tab13 dir_bits (fun HT_ HW_ => ?_)
    clear hc
    have J := Aside0.mk (show TInv w w2.heap.size _ _ _ x7.drew from I.out.below (below_drew (Below.refl _ _)))
    clear I
    generalize x7.drew = y8 at J hHeld ⊢
    refine pure_ (i := 0) (N := some 51) (v := ?_) (a' := ?_) #[true, false, false, false, false, false, false, false, false] rfl rfl (any_of HT_.out (by kernel_rfl)) (fun _ _ _ h => h) (Or.inl ⟨by rfl, ?_⟩) ?_ ?_
    rotate_left
    · intro w'
      go_simp
      with_reducible rfl
    rotate_left
    · simp only [Act.put, List.setIfInBounds_toArray, List.set_cons_zero, List.set_cons_succ, i64_w, i32_w]
      rfl
    refine pure_ (i := 1) (N := some 52) (v := ?_) (a' := ?_) #[true, true, false, false, false, false, false, false, false] rfl rfl (any_of HT_.out (by kernel_rfl)) (fun _ _ _ h => h) (Or.inl ⟨by rfl, ?_⟩) ?_ ?_
    rotate_left
    · intro w'
      go_simp
      with_reducible rfl
    rotate_left
    · simp only [Act.put, List.setIfInBounds_toArray, List.set_cons_zero, List.set_cons_succ, i64_w, i32_w]
      rfl
    refine take_ (i := 2) (N := some 53) (v := ?_) (a' := ?_) #[true, true, true, false, false, false, false, false, false] rfl rfl (take_ofW HT_.out HW_.out (by kernel_rfl)) (fun _ _ _ h => h) (Or.inl ⟨by rfl, ?_⟩) hHeld ?_ ?_
    rotate_left
    · rintro w' s0
      go_simp
      with_reducible rfl
    rotate_left
    · simp only [Act.put, List.setIfInBounds_toArray, List.set_cons_zero, List.set_cons_succ, i64_w, i32_w]
      rfl
    refine pure_ (i := 3) (N := some 54) (v := ?_) (a' := ?_) #[true, true, true, true, false, false, false, false, false] rfl rfl (any_of HT_.out (by kernel_rfl)) (fun _ _ _ h => h) (Or.inl ⟨by rfl, ?_⟩) ?_ ?_
    rotate_left
    · intro w'
      go_simp
      with_reducible rfl
    rotate_left
    · simp only [Act.put, List.setIfInBounds_toArray, List.set_cons_zero, List.set_cons_succ, i64_w, i32_w]
      rfl
    refine pure_ (i := 4) (N := some 55) (v := ?_) (a' := ?_) #[true, true, true, true, true, false, false, false, false] rfl rfl (any_of HT_.out (by kernel_rfl)) (fun _ _ _ h => h) (Or.inl ⟨by rfl, ?_⟩) ?_ ?_
    rotate_left
    · intro w'
      go_simp
      with_reducible rfl
    rotate_left
    · simp only [Act.put, List.setIfInBounds_toArray, List.set_cons_zero, List.set_cons_succ, i64_w, i32_w]
      rfl
    refine take_ (i := 5) (N := some 56) (v := ?_) (a' := ?_) #[true, true, true, true, true, true, false, false, false] rfl rfl (take_ofW HT_.out HW_.out (by kernel_rfl)) (fun _ _ _ h => h) (Or.inl ⟨by rfl, ?_⟩) hHeld ?_ ?_
    rotate_left
    · rintro w' s0
      go_simp
      with_reducible rfl
    rotate_left
    · simp only [Act.put, List.setIfInBounds_toArray, List.set_cons_zero, List.set_cons_succ, i64_w, i32_w]
      rfl
    refine one_ (i := 6) (N := some 57) #[true, true, true, true, true, true, true, false, false] rfl rfl (one_of HT_.out (by kernel_rfl)) (by decide) (fun K hK => ?_)
    refine goes_ Tryd.func21 (by kernel_rfl) rfl #[.int .i64 n8] (by rfl) rfl rfl (by (try simp only [List.map_toArray, List.map_cons, List.map_nil]); first | done | rfl) ?_
    refine (decT_calls n8 _ J.out.tabs).mono ?_
    rintro e z8 ⟨rfl, hb⟩
    refine ⟨_, rfl, ?_⟩
    have I := Aside0.mk (J.out.below hb)
    clear J hb hHeld
    refine hK.out _ _ (I.out.cell 8) (fun hHeld => ?_)
    clear hK K
    refine norm_ (a' := ?_) ?_ ?_
    rotate_left
    · show Act.put _ (some 57) _ = _
      simp only [Act.put, List.setIfInBounds_toArray, List.set_cons_zero, List.set_cons_succ, i64_w, i32_w]
      rfl
    have hsz : (9223372036854775807 < 10 + (decT n8).size) = False := eq_false (by have h1 := Q.out.2; omega)
    refine pure_ (i := 7) (N := some 58) (v := ?_) (a' := ?_) #[true, true, true, true, true, true, true, true, false] rfl rfl (any_of HT_.out (by kernel_rfl)) (fun _ _ _ h => h) (Or.inl ⟨by rfl, ?_⟩) ?_ ?_
    rotate_left
    · intro w'
      go_simp
      with_reducible rfl
    rotate_left
    · simp only [Act.put, List.setIfInBounds_toArray, List.set_cons_zero, List.set_cons_succ, i64_w, i32_w]
      rfl
    refine one_ (i := 8) (N := some 59) #[true, true, true, true, true, true, true, true, true] rfl rfl (one_of HT_.out (by kernel_rfl)) (by decide) (fun K hK => ?_)
    refine goesC_ Tryd.func20 (by kernel_rfl) rfl #[.pointer (some ⟨w2.heap.size, 0, none⟩)] #[.bool (decide (0 ≤ n8)), .string ((⟨#[109, 97, 120, 45, 115, 116, 97, 108, 101, 61]⟩ : ByteArray) ++ decT n8), .pointer (some ⟨w2.heap.size, 0, none⟩)] (by rfl) rfl rfl rfl (by (try simp only [List.map_toArray, List.map_cons, List.map_nil]); first | done | rfl) ?_
    refine (I.out.flag _ _ (Nat.le_trans (dl7_length b0 b1 b2 b3 b4 b5 n6 n7 n8 n9) (by decide))).mono ?_
    rintro e x8 ⟨v8, rfl, hi⟩
    refine ⟨_, rfl, ?_⟩
    have J := Aside0.mk hi
    clear I hi hHeld hsz
    refine hK.out _ _ (J.out.cell 8) (fun hHeld => ?_)
    clear hK K
    refine norm_ (a' := ?_) ?_ ?_
    rotate_left
    · show Act.put _ (some 59) _ = _
      simp only [Act.put, List.setIfInBounds_toArray, List.set_cons_zero, List.set_cons_succ, i64_w, i32_w]
      rfl
    refine done_ (done_of HT_.out (by kernel_rfl)) ?_
    clear HT_ HW_ hHeld
    have I := J
    clear J
    go_wp2_with fail
    have hc : x8.cell? ⟨w.heap.size, 9, none⟩ = some (.int .i64 n9) := I.out.cell 9
    refine start_ (n := 9) (S := fun w' => w'.cell? ⟨w.heap.size, 9, none⟩ = some (.int .i64 n9)) (ds := []) #[false, false, false, false, false, false, false, false, false] (by kernel_rfl) rfl rfl hc (fun hHeld => ?_); refine with_tabW dir_tab14 dir_bits (fun HT_ HW_ => ?_)
    clear hc
    have J := Aside0.mk (show TInv w w2.heap.size _ _ _ x8.drew from I.out.below (below_drew (Below.refl _ _)))
    clear I
    generalize x8.drew = y9 at J hHeld ⊢
    refine pure_ (i := 0) (N := some 60) (v := ?_) (a' := ?_) #[true, false, false, false, false, false, false, false, false] rfl rfl (any_of HT_.out (by kernel_rfl)) (fun _ _ _ h => h) (Or.inl ⟨by rfl, ?_⟩) ?_ ?_
    rotate_left
    · intro w'
      go_simp
      with_reducible rfl
    rotate_left
    · simp only [Act.put, List.setIfInBounds_toArray, List.set_cons_zero, List.set_cons_succ, i64_w, i32_w]
      rfl
    refine pure_ (i := 1) (N := some 61) (v := ?_) (a' := ?_) #[true, true, false, false, false, false, false, false, false] rfl rfl (any_of HT_.out (by kernel_rfl)) (fun _ _ _ h => h) (Or.inl ⟨by rfl, ?_⟩) ?_ ?_
    rotate_left
    · intro w'
      go_simp
      with_reducible rfl
    rotate_left
    · simp only [Act.put, List.setIfInBounds_toArray, List.set_cons_zero, List.set_cons_succ, i64_w, i32_w]
      rfl
    refine take_ (i := 2) (N := some 62) (v := ?_) (a' := ?_) #[true, true, true, false, false, false, false, false, false] rfl rfl (take_ofW HT_.out HW_.out (by kernel_rfl)) (fun _ _ _ h => h) (Or.inl ⟨by rfl, ?_⟩) hHeld ?_ ?_
    rotate_left
    · rintro w' s0
      go_simp
      with_reducible rfl
    rotate_left
    · simp only [Act.put, List.setIfInBounds_toArray, List.set_cons_zero, List.set_cons_succ, i64_w, i32_w]
      rfl
    refine pure_ (i := 3) (N := some 63) (v := ?_) (a' := ?_) #[true, true, true, true, false, false, false, false, false] rfl rfl (any_of HT_.out (by kernel_rfl)) (fun _ _ _ h => h) (Or.inl ⟨by rfl, ?_⟩) ?_ ?_
    rotate_left
    · intro w'
      go_simp
      with_reducible rfl
    rotate_left
    · simp only [Act.put, List.setIfInBounds_toArray, List.set_cons_zero, List.set_cons_succ, i64_w, i32_w]
      rfl
    refine pure_ (i := 4) (N := some 64) (v := ?_) (a' := ?_) #[true, true, true, true, true, false, false, false, false] rfl rfl (any_of HT_.out (by kernel_rfl)) (fun _ _ _ h => h) (Or.inl ⟨by rfl, ?_⟩) ?_ ?_
    rotate_left
    · intro w'
      go_simp
      with_reducible rfl
    rotate_left
    · simp only [Act.put, List.setIfInBounds_toArray, List.set_cons_zero, List.set_cons_succ, i64_w, i32_w]
      rfl
    refine take_ (i := 5) (N := some 65) (v := ?_) (a' := ?_) #[true, true, true, true, true, true, false, false, false] rfl rfl (take_ofW HT_.out HW_.out (by kernel_rfl)) (fun _ _ _ h => h) (Or.inl ⟨by rfl, ?_⟩) hHeld ?_ ?_
    rotate_left
    · rintro w' s0
      go_simp
      with_reducible rfl
    rotate_left
    · simp only [Act.put, List.setIfInBounds_toArray, List.set_cons_zero, List.set_cons_succ, i64_w, i32_w]
      rfl
    refine one_ (i := 6) (N := some 66) #[true, true, true, true, true, true, true, false, false] rfl rfl (one_of HT_.out (by kernel_rfl)) (by decide) (fun K hK => ?_)
    refine goes_ Tryd.func21 (by kernel_rfl) rfl #[.int .i64 n9] (by rfl) rfl rfl (by (try simp only [List.map_toArray, List.map_cons, List.map_nil]); first | done | rfl) ?_
    refine (decT_calls n9 _ J.out.tabs).mono ?_
    rintro e z9 ⟨rfl, hb⟩
    refine ⟨_, rfl, ?_⟩
    have I := Aside0.mk (J.out.below hb)
    clear J hb hHeld
    refine hK.out _ _ (I.out.cell 9) (fun hHeld => ?_)
    clear hK K
    refine norm_ (a' := ?_) ?_ ?_
    rotate_left
    · show Act.put _ (some 66) _ = _
      simp only [Act.put, List.setIfInBounds_toArray, List.set_cons_zero, List.set_cons_succ, i64_w, i32_w]
      rfl
    have hsz : (9223372036854775807 < 10 + (decT n9).size) = False := eq_false (by have h1 := Q.out.2; omega)
    refine pure_ (i := 7) (N := some 67) (v := ?_) (a' := ?_) #[true, true, true, true, true, true, true, true, false] rfl rfl (any_of HT_.out (by kernel_rfl)) (fun _ _ _ h => h) (Or.inl ⟨by rfl, ?_⟩) ?_ ?_
    rotate_left
    · intro w'
      go_simp
      with_reducible rfl
    rotate_left
    · simp only [Act.put, List.setIfInBounds_toArray, List.set_cons_zero, List.set_cons_succ, i64_w, i32_w]
      rfl
    refine one_ (i := 8) (N := some 68) #[true, true, true, true, true, true, true, true, true] rfl rfl (one_of HT_.out (by kernel_rfl)) (by decide) (fun K hK => ?_)
    refine goesC_ Tryd.func20 (by kernel_rfl) rfl #[.pointer (some ⟨w2.heap.size, 0, none⟩)] #[.bool (decide (0 ≤ n9)), .string ((⟨#[109, 105, 110, 45, 102, 114, 101, 115, 104, 61]⟩ : ByteArray) ++ decT n9), .pointer (some ⟨w2.heap.size, 0, none⟩)] (by rfl) rfl rfl rfl (by (try simp only [List.map_toArray, List.map_cons, List.map_nil]); first | done | rfl) ?_
    refine (I.out.flag _ _ (Nat.le_trans (dl8_length b0 b1 b2 b3 b4 b5 n6 n7 n8 n9) (by decide))).mono ?_
    rintro e x9 ⟨v9, rfl, hi⟩
    refine ⟨_, rfl, ?_⟩
    have J := Aside0.mk hi
    clear I hi hHeld hsz
    refine hK.out _ _ (J.out.cell 9) (fun hHeld => ?_)
    clear hK K
    refine norm_ (a' := ?_) ?_ ?_
    rotate_left
    · show Act.put _ (some 68) _ = _
      simp only [Act.put, List.setIfInBounds_toArray, List.set_cons_zero, List.set_cons_succ, i64_w, i32_w]
      rfl
    refine done_ (done_of HT_.out (by kernel_rfl)) ?_
    clear HT_ HW_ hHeld
    have I := J
    clear J
    obtain ⟨A9, c9, rfl⟩ := R_slice I.out.rows
    have hc := blk_cell I.out.box 0
    have hc : x9.cell? ⟨w2.heap.size, 0, none⟩ = some (.slice A9 _ c9) := hc
    go_wp2_with fail
    refine (join_R I.out.rows (Nat.le_trans (dl9_length b0 b1 b2 b3 b4 b5 n6 n7 n8 n9) (by decide)) Q.out.1).mono ?_
    rintro e x10 ⟨rfl, hb⟩
    dsimp only
    clear hc
    have HF := Aside0.mk (I.out.below hb).bel
    clear I hb
    go_wp2
    go_ret
    exact ⟨rfl, below_step (below_alloc (Below.refl _ _) _) (hsz.symm ▸ HF.out)⟩
end Go.Proofs.YtahgiblifkchaaaDoor.P
end
section
/- Plain laws of our own (Within): about numbers and lists alone; no condition beyond those written. -/
namespace Go.Proofs.YtahgiblifkchaaaDoor.P
open Go.RowKit Go.Proofs.YtahgiblifkchaaaDoorW.PrintWords Go.Proofs.YtahgiblifkchaaaDoorW.PrintLast Go.Proofs.YtahgiblifkchaaaDoorW.PrintMore
set_option linter.unusedVariables false
set_option linter.unusedSimpArgs false
set_option maxHeartbeats 2000000
theorem within_eq (a b c : Int) : impl_within.f a b c = some (decide (b ≤ a ∧ a ≤ c)) := by
  unfold impl_within.f
  by_cases h : b ≤ a
  · rw [if_pos h]; simp [h]
  · rw [if_neg h]; simp [h]

end Go.Proofs.YtahgiblifkchaaaDoor.P
end
section
/- Plain laws of our own (DirsOk): about numbers and lists alone; no condition beyond those written. -/
namespace Go.Proofs.YtahgiblifkchaaaDoor.P
open Go.RowKit Go.Proofs.YtahgiblifkchaaaDoorW.PrintWords Go.Proofs.YtahgiblifkchaaaDoorW.PrintLast Go.Proofs.YtahgiblifkchaaaDoorW.PrintMore
set_option linter.unusedVariables false
set_option linter.unusedSimpArgs false
set_option maxHeartbeats 2000000
def dOk (n : Int) : Bool := decide (-1 ≤ n) && decide (n ≤ 2147483648)
theorem said_eq (n : Int) : spec_l12said.f n = some (dOk n) := by
  unfold spec_l12said.f dOk
  by_cases h : n ≥ -1
  · rw [if_pos h]; simp [h]
  · rw [if_neg h]; simp [h]
theorem isDelta_eq (n : Int) : impl_isDelta.f n = some (dOk n) := by
  unfold impl_isDelta.f
  rw [within_eq, Option.bind_some]
  unfold dOk
  rw [Bool.decide_and]
def dirsOkOf (a b c d : Int) : Bool := dOk a && (dOk b && (dOk c && dOk d))
theorem spec_DirsOk_eq (b0 b1 b2 b3 b4 b5 : Bool) (a b c d : Int) : spec_DirsOk.f b0 b1 b2 b3 b4 b5 a b c d = some (dirsOkOf a b c d) := by
  unfold spec_DirsOk.f dirsOkOf
  simp only [said_eq, Option.bind_some]
  cases dOk a <;> cases dOk b <;> cases dOk c <;> cases dOk d <;> rfl
theorem impl_DirsOk_eq (b0 b1 b2 b3 b4 b5 : Bool) (a b c d : Int) : impl_DirsOk.f b0 b1 b2 b3 b4 b5 a b c d = some (dirsOkOf a b c d) := by
  unfold impl_DirsOk.f dirsOkOf
  simp only [isDelta_eq, Option.bind_some]
  cases dOk a <;> cases dOk b <;> cases dOk c <;> cases dOk d <;> rfl

end Go.Proofs.YtahgiblifkchaaaDoor.P
end
section
/- The program's DirsText and the reference's make the same text, whatever the directives: plain laws; no condition beyond those written. -/
namespace Go.Proofs.YtahgiblifkchaaaDoor.P
open Go.RowKit Go.Proofs.YtahgiblifkchaaaDoorW.PrintWords Go.Proofs.YtahgiblifkchaaaDoorW.PrintLast Go.Proofs.YtahgiblifkchaaaDoorW.PrintMore
set_option linter.unusedVariables false
set_option linter.unusedSimpArgs false
set_option maxHeartbeats 2000000
theorem wrap_id2 {x : Int} (h : -9223372036854775808 ≤ x) (h' : x ≤ 9223372036854775807) : wrap64 x = x := by unfold wrap64; omega
def txt (xs : List ByteArray) : ByteArray := ⟨(joinL xs).toArray⟩
theorem txt_size (xs : List ByteArray) : (txt xs).size = (joinL xs).length := by simp [txt, ByteArray.size]
theorem joinL_snoc_nil (y : ByteArray) : joinL [y] = y.data.toList := by unfold joinL; exact Go.Lib.join_one _ _
theorem joinL_snoc (x : ByteArray) (r : List ByteArray) (y : ByteArray) : joinL ((x :: r) ++ [y]) = joinL (x :: r) ++ ([44, 32] ++ y.data.toList) := by
  unfold joinL
  simp only [List.cons_append, List.map_cons, List.map_append, List.map_nil]
  rw [Go.Lib.join_cons, Go.Lib.join_cons]
  simp [Go.Lib.joinTail]
structure Good (xs : List ByteArray) (m : Nat) : Prop where
  ne : ∀ x ∈ xs, x.size ≠ 0
  le : (joinL xs).length ≤ m
theorem good_nil : Good [] 0 := ⟨(fun x h => absurd h List.not_mem_nil), (by simp [joinL, Go.Lib.join_nil])⟩
theorem good_add {xs : List ByteArray} {m : Nat} (h : Good xs m) (b : Bool) (nm : ByteArray) (h0 : nm.size ≠ 0) (h1 : nm.size ≤ 1100) : Good (addF xs b nm) (m + 1200) := by
  unfold addF
  have hl : nm.data.toList.length = nm.size := data_length nm
  cases b with
  | false => rw [if_neg (by decide)]; exact ⟨h.ne, by have := h.le; omega⟩
  | true =>
    rw [if_pos rfl]
    refine ⟨fun x hx => ?_, ?_⟩
    · rcases List.mem_append.mp hx with h2 | h2
      · exact h.ne x h2
      · rw [List.mem_singleton.mp h2]; exact h0
    · have h3 := h.le
      cases xs with
      | nil => rw [List.nil_append, joinL_snoc_nil]; omega
      | cons x r => rw [joinL_snoc]; simp; omega
theorem spec_word_eq {xs : List ByteArray} {m : Nat} (h : Good xs m) (hm : m ≤ 100000) (b : Bool) (nm : ByteArray) (h1 : nm.size ≤ 1100) : spec_l12word.f (txt xs) b nm = some (txt (addF xs b nm)) := by
  have hs := txt_size xs
  have hle := h.le
  unfold spec_l12word.f addF
  cases b with
  | false => rw [if_neg (by decide), if_neg (by decide)]
  | true =>
    rw [if_pos rfl, if_pos rfl]
    cases xs with
    | nil =>
      have e0 : (txt []).toList = ([] : List UInt8) := by rw [ByteArray.toList_eq]; simp [txt, joinL, Go.Lib.join_nil]
      rw [if_pos e0, if_pos (by omega), List.nil_append]
      congr 1
      unfold txt
      rw [joinL_snoc_nil]
      apply ByteArray.ext
      simp [joinL, Go.Lib.join_nil]
    | cons x r =>
      have hx := h.ne x (List.mem_cons_self ..)
      have hlx : x.data.toList.length = x.size := data_length x
      have hne : joinL (x :: r) ≠ [] := by
        unfold joinL
        rw [List.map_cons, Go.Lib.join_cons]
        intro e
        have := congrArg List.length e
        rw [List.length_append, List.length_nil] at this
        omega
      have e0 : ¬ (txt (x :: r)).toList = ([] : List UInt8) := by rw [ByteArray.toList_eq]; simpa [txt] using hne
      have hz : (txt (x :: r) ++ (⟨#[44, 32]⟩ : ByteArray)).size = (joinL (x :: r)).length + 2 := by rw [ByteArray.size_append, hs]; rfl
      rw [if_neg e0, if_pos (by omega), if_pos (by omega)]
      congr 1
      unfold txt
      rw [joinL_snoc]
      apply ByteArray.ext
      simp
theorem one_byte (x : Nat) (hx : x < 10) : strOfNums [(wrap64 (48 + (x : Int))) % 256] = (⟨#[UInt8.ofNat (48 + x)]⟩ : ByteArray) := by
  rw [wrap_id2 (by omega) (by omega)]
  unfold strOfNums
  have e : ((48 + (x : Int)) % 256).toNat = 48 + x := by omega
  simp [e]
theorem spec_dec : ∀ (d u : Nat), u < 10 ^ (d + 1) → u ≤ 999999999999999 → d ≤ 20 → ∀ k, 2 * d + 2 ≤ k → spec_DecText.f k (u : Int) = some ⟨(Lib.decDigits u).toArray⟩ := by
  intro d
  induction d with
  | zero =>
    intro u hu hu2 hd k hk
    obtain ⟨k, rfl⟩ : ∃ m, k = m + 2 := ⟨k - 2, by omega⟩
    have h10 : u < 10 := by simpa using hu
    rw [spec_DecText.f.eq_def]
    dsimp only
    rw [if_neg (by omega), decide_eq_false (by omega), spec_DecText.j0.eq_def]
    dsimp only
    rw [if_neg (by decide), if_pos (by omega), one_byte u h10, Lib.decDigits_one h10]
  | succ d ih =>
    intro u hu hu2 hd k hk
    obtain ⟨k, rfl⟩ : ∃ m, k = m + 2 := ⟨k - 2, by omega⟩
    rw [spec_DecText.f.eq_def]
    dsimp only
    rw [if_neg (by omega), decide_eq_false (by omega), spec_DecText.j0.eq_def]
    dsimp only
    rw [if_neg (by decide)]
    by_cases h10 : u < 10
    · rw [if_pos (by omega), one_byte u h10, Lib.decDigits_one h10]
    · have e1 : wrap64 (Int.tdiv (u : Int) 10) = ((u / 10 : Nat) : Int) := by
        have : Int.tdiv (u : Int) 10 = ((u / 10 : Nat) : Int) := rfl
        rw [this, wrap_id2 (by omega) (by omega)]
      have e2 : Int.tmod (u : Int) 10 = ((u % 10 : Nat) : Int) := rfl
      have hq : u / 10 < 10 ^ (d + 1) := by
        rw [Nat.pow_succ] at hu
        omega
      rw [if_neg (by omega), e1, ih (u / 10) hq (by omega) (by omega) k (by omega), Option.bind_some, Option.bind_some, e2, one_byte (u % 10) (by omega)]
      have hl : (Lib.decDigits (u / 10)).length ≤ 21 := by
        have h1 := Lib.itoa_length_le ((u / 10 : Nat) : Int) (by omega) (by omega)
        unfold Lib.itoa at h1
        rw [if_neg (by omega), Int.toNat_natCast] at h1
        exact h1
      have hs1 : (⟨(Lib.decDigits (u / 10)).toArray⟩ : ByteArray).size ≤ 21 := by simpa [ByteArray.size] using hl
      have hs2 : (⟨#[UInt8.ofNat (48 + u % 10)]⟩ : ByteArray).size = 1 := rfl
      have e3 : Lib.decDigits u = Lib.decDigits (u / 10) ++ [UInt8.ofNat (48 + u % 10)] := by rw [Lib.decDigits, dif_neg h10]
      rw [if_pos (by omega), e3]
      congr 1
theorem spec_DecText_eq (n : Int) (k : Nat) (hk : 100 ≤ k) : spec_DecText.f k n = some (decT n) := by
  unfold decT
  by_cases h : 0 ≤ n ∧ n ≤ 999999999999999
  · obtain ⟨u, rfl⟩ := Int.eq_ofNat_of_zero_le h.1
    rw [if_pos h, spec_dec 15 u (by have := h.2; omega) (by have := h.2; omega) (by decide) k (by omega)]
    unfold Lib.itoa
    rw [if_neg (by omega), Int.toNat_natCast]
  · rw [if_neg h]
    obtain ⟨k, rfl⟩ : ∃ m, k = m + 2 := ⟨k - 2, by omega⟩
    rw [spec_DecText.f.eq_def]
    dsimp only
    by_cases h0 : n < 0
    · rw [if_pos h0, spec_DecText.j0.eq_def]
      dsimp only
      rw [if_pos rfl]
    · rw [if_neg h0, decide_eq_true (by omega), spec_DecText.j0.eq_def]
      dsimp only
      rw [if_pos rfl]
theorem decT_size (n : Int) : (decT n).size ≤ 21 := by
  unfold decT
  by_cases h : 0 ≤ n ∧ n ≤ 999999999999999
  · rw [if_pos h]
    have := Lib.itoa_length_le n (by omega) (by omega)
    simpa [ByteArray.size] using this
  · rw [if_neg h]; exact Nat.zero_le _
theorem pre_size (p : ByteArray) (n : Int) : (p ++ decT n).size = p.size + (decT n).size := ByteArray.size_append
theorem DirsText_same (b0 b1 b2 b3 b4 b5 : Bool) (n6 n7 n8 n9 : Int) : ∃ (k : Nat) (t : ByteArray), spec_DirsText.f k b0 b1 b2 b3 b4 b5 n6 n7 n8 n9 = some t ∧ impl_DirsText.f b0 b1 b2 b3 b4 b5 n6 n7 n8 n9 = some t := by
  refine ⟨100, if dirsOkOf n6 n7 n8 n9 = true then txt (dl9 b0 b1 b2 b3 b4 b5 n6 n7 n8 n9) else ⟨#[]⟩, ?_, ?_⟩
  all_goals
    have s6 := decT_size n6
    have s7 := decT_size n7
    have s8 := decT_size n8
    have s9 := decT_size n9
    have g0 : Good (dl0 b0 b1 b2 b3 b4 b5 n6 n7 n8 n9) 1200 := good_add good_nil _ _ (by decide) (by decide)
    have g1 : Good (dl1 b0 b1 b2 b3 b4 b5 n6 n7 n8 n9) 2400 := good_add g0 _ _ (by decide) (by decide)
    have g2 : Good (dl2 b0 b1 b2 b3 b4 b5 n6 n7 n8 n9) 3600 := good_add g1 _ _ (by decide) (by decide)
    have g3 : Good (dl3 b0 b1 b2 b3 b4 b5 n6 n7 n8 n9) 4800 := good_add g2 _ _ (by decide) (by decide)
    have g4 : Good (dl4 b0 b1 b2 b3 b4 b5 n6 n7 n8 n9) 6000 := good_add g3 _ _ (by decide) (by decide)
    have g5 : Good (dl5 b0 b1 b2 b3 b4 b5 n6 n7 n8 n9) 7200 := good_add g4 _ _ (by decide) (by decide)
    have z6 : ((⟨#[109, 97, 120, 45, 97, 103, 101, 61]⟩ : ByteArray) ++ decT n6).size = 8 + (decT n6).size := pre_size _ _
    have z7 : ((⟨#[115, 45, 109, 97, 120, 97, 103, 101, 61]⟩ : ByteArray) ++ decT n7).size = 9 + (decT n7).size := pre_size _ _
    have z8 : ((⟨#[109, 97, 120, 45, 115, 116, 97, 108, 101, 61]⟩ : ByteArray) ++ decT n8).size = 10 + (decT n8).size := pre_size _ _
    have z9 : ((⟨#[109, 105, 110, 45, 102, 114, 101, 115, 104, 61]⟩ : ByteArray) ++ decT n9).size = 10 + (decT n9).size := pre_size _ _
    have g6 : Good (dl6 b0 b1 b2 b3 b4 b5 n6 n7 n8 n9) 8400 := good_add g5 _ _ (by omega) (by omega)
    have g7 : Good (dl7 b0 b1 b2 b3 b4 b5 n6 n7 n8 n9) 9600 := good_add g6 _ _ (by omega) (by omega)
    have g8 : Good (dl8 b0 b1 b2 b3 b4 b5 n6 n7 n8 n9) 10800 := good_add g7 _ _ (by omega) (by omega)
    have g9 : Good (dl9 b0 b1 b2 b3 b4 b5 n6 n7 n8 n9) 12000 := good_add g8 _ _ (by omega) (by omega)
  · unfold spec_DirsText.f
    rw [spec_DirsOk_eq, Option.bind_some]
    by_cases hok : dirsOkOf n6 n7 n8 n9 = true
    · rw [if_pos hok, if_pos hok]
      have w0 : spec_l12word.f (⟨#[]⟩ : ByteArray) b0 (⟨#[110, 111, 45, 115, 116, 111, 114, 101]⟩ : ByteArray) = some (txt (dl0 b0 b1 b2 b3 b4 b5 n6 n7 n8 n9)) := spec_word_eq good_nil (by decide) b0 _ (by decide)
      rw [w0, Option.bind_some]
      have w1 : spec_l12word.f (txt (dl0 b0 b1 b2 b3 b4 b5 n6 n7 n8 n9)) b1 _ = some (txt (dl1 b0 b1 b2 b3 b4 b5 n6 n7 n8 n9)) := spec_word_eq g0 (by decide) b1 _ (by decide)
      rw [w1, Option.bind_some]
      have w2 : spec_l12word.f (txt (dl1 b0 b1 b2 b3 b4 b5 n6 n7 n8 n9)) b2 _ = some (txt (dl2 b0 b1 b2 b3 b4 b5 n6 n7 n8 n9)) := spec_word_eq g1 (by decide) b2 _ (by decide)
      rw [w2, Option.bind_some]
      have w3 : spec_l12word.f (txt (dl2 b0 b1 b2 b3 b4 b5 n6 n7 n8 n9)) b3 _ = some (txt (dl3 b0 b1 b2 b3 b4 b5 n6 n7 n8 n9)) := spec_word_eq g2 (by decide) b3 _ (by decide)
      rw [w3, Option.bind_some]
      have w4 : spec_l12word.f (txt (dl3 b0 b1 b2 b3 b4 b5 n6 n7 n8 n9)) b4 _ = some (txt (dl4 b0 b1 b2 b3 b4 b5 n6 n7 n8 n9)) := spec_word_eq g3 (by decide) b4 _ (by decide)
      rw [w4, Option.bind_some]
      have w5 : spec_l12word.f (txt (dl4 b0 b1 b2 b3 b4 b5 n6 n7 n8 n9)) b5 _ = some (txt (dl5 b0 b1 b2 b3 b4 b5 n6 n7 n8 n9)) := spec_word_eq g4 (by decide) b5 _ (by decide)
      rw [w5, Option.bind_some, spec_DecText_eq n6 100 (by decide), Option.bind_some, if_pos (by omega)]
      have w6 : spec_l12word.f (txt (dl5 b0 b1 b2 b3 b4 b5 n6 n7 n8 n9)) (decide (n6 ≥ 0)) ((⟨#[109, 97, 120, 45, 97, 103, 101, 61]⟩ : ByteArray) ++ decT n6) = some (txt (dl6 b0 b1 b2 b3 b4 b5 n6 n7 n8 n9)) := spec_word_eq g5 (by decide) _ _ (by omega)
      rw [w6, Option.bind_some, spec_DecText_eq n7 100 (by decide), Option.bind_some, if_pos (by omega)]
      have w7 : spec_l12word.f (txt (dl6 b0 b1 b2 b3 b4 b5 n6 n7 n8 n9)) (decide (n7 ≥ 0)) ((⟨#[115, 45, 109, 97, 120, 97, 103, 101, 61]⟩ : ByteArray) ++ decT n7) = some (txt (dl7 b0 b1 b2 b3 b4 b5 n6 n7 n8 n9)) := spec_word_eq g6 (by decide) _ _ (by omega)
      rw [w7, Option.bind_some, spec_DecText_eq n8 100 (by decide), Option.bind_some, if_pos (by omega)]
      have w8 : spec_l12word.f (txt (dl7 b0 b1 b2 b3 b4 b5 n6 n7 n8 n9)) (decide (n8 ≥ 0)) ((⟨#[109, 97, 120, 45, 115, 116, 97, 108, 101, 61]⟩ : ByteArray) ++ decT n8) = some (txt (dl8 b0 b1 b2 b3 b4 b5 n6 n7 n8 n9)) := spec_word_eq g7 (by decide) _ _ (by omega)
      rw [w8, Option.bind_some, spec_DecText_eq n9 100 (by decide), Option.bind_some, if_pos (by omega)]
      have w9 : spec_l12word.f (txt (dl8 b0 b1 b2 b3 b4 b5 n6 n7 n8 n9)) (decide (n9 ≥ 0)) ((⟨#[109, 105, 110, 45, 102, 114, 101, 115, 104, 61]⟩ : ByteArray) ++ decT n9) = some (txt (dl9 b0 b1 b2 b3 b4 b5 n6 n7 n8 n9)) := spec_word_eq g8 (by decide) _ _ (by omega)
      rw [w9, Option.bind_some]
    · rw [if_neg hok, if_neg hok]
  · unfold impl_DirsText.f
    rw [impl_DirsOk_eq, Option.bind_some]
    by_cases hok : dirsOkOf n6 n7 n8 n9 = true
    · have := g9.le
      rw [if_pos hok, if_pos hok, if_pos ⟨by omega, by omega, by omega, by omega, by omega⟩]
      rfl
    · rw [if_neg hok, if_neg hok]
end Go.Proofs.YtahgiblifkchaaaDoor.P
end
section
/- What the laws draw: the draws answer, whatever the code; plain laws; no condition beyond those written. -/
namespace Go.Proofs.YtahgiblifkchaaaDoor.P
open Go.RowKit Go.Proofs.YtahgiblifkchaaaDoorW.PrintWords Go.Proofs.YtahgiblifkchaaaDoorW.PrintLast Go.Proofs.YtahgiblifkchaaaDoorW.PrintMore
set_option linter.unusedVariables false
set_option linter.unusedSimpArgs false
set_option maxHeartbeats 2000000
theorem and255 (n : Int) : Go.bits .and .i64 n 255 = n % 256 := by
  have h255 : (BitVec.ofInt 64 255).toNat = 2 ^ 8 - 1 := by decide
  have key : (BitVec.ofInt 64 n &&& BitVec.ofInt 64 255).toNat = (n % ((2 ^ 64 : Nat) : Int)).toNat % 2 ^ 8 := by
    rw [BitVec.toNat_and, BitVec.toNat_ofInt, h255, Nat.and_two_pow_sub_one_eq_mod]
  show IntKind.i64.wrap ((BitVec.ofInt 64 n &&& BitVec.ofInt 64 255).toNat : Nat) = n % 256
  rw [key, IntKind.wrap_i64]
  omega
theorem l1Byte_ok (c : List Int) (i h : Int) (hi : 0 ≤ i) (hi2 : i ≤ 1000000000000) : ∃ x i' h', spec_l1Byte.f c i h = some (x, i', h') ∧ 0 ≤ x ∧ x ≤ 255 ∧ 0 ≤ i' ∧ i' ≤ i + 1 := by
  unfold spec_l1Byte.f
  simp only [and255]
  by_cases h1 : i < (c.length : Int)
  · rw [if_pos h1, if_pos hi, wrap_id (x := i + 1) (by omega) (by omega)]
    exact ⟨_, _, _, rfl, by omega, by omega, by omega, by omega⟩
  · rw [if_neg h1]
    exact ⟨_, _, _, rfl, by omega, by omega, by omega, by omega⟩
theorem l1Below_ok (c : List Int) (i h n : Int) (hi : 0 ≤ i) (hi2 : i ≤ 1000000000000) (h1 : 0 < n) (h2 : n ≤ 256) : ∃ x i' h', spec_l1Below.f c i h n = some (x, i', h') ∧ 0 ≤ x ∧ x < n ∧ 0 ≤ i' ∧ i' ≤ i + 1 := by
  obtain ⟨x, i', h', e, a1, a2, a3, a4⟩ := l1Byte_ok c i h hi hi2
  unfold spec_l1Below.f
  rw [if_neg (by omega), if_pos (by omega), e, Option.bind_some, if_neg (by omega)]
  exact ⟨_, _, _, rfl, Int.tmod_nonneg _ a1, Int.tmod_lt_of_pos _ h1, a3, a4⟩
theorem l1Once_ok (c : List Int) (i h n : Int) (hi : 0 ≤ i) (hi2 : i ≤ 1000000000000) (h1 : 0 < n) (h2 : n ≤ 256) : ∃ b i' h', spec_l1Once.f c i h n = some (b, i', h') ∧ 0 ≤ i' ∧ i' ≤ i + 1 := by
  obtain ⟨x, i', h', e, a1, a2, a3, a4⟩ := l1Below_ok c i h n hi hi2 h1 h2
  unfold spec_l1Once.f
  rw [e, Option.bind_some]
  exact ⟨_, _, _, rfl, a3, a4⟩
theorem l1PickText_ok (c : List Int) (i h : Int) (l : List ByteArray) (hi : 0 ≤ i) (hi2 : i ≤ 1000000000000) (h1 : 0 < l.length) (h2 : l.length ≤ 256) : ∃ x i' h', spec_l1PickText.f c i h l = some (rdOf ByteArray.empty l x, i', h') ∧ 0 ≤ x ∧ x < (l.length : Int) ∧ 0 ≤ i' ∧ i' ≤ i + 1 := by
  obtain ⟨x, i', h', e, a1, a2, a3, a4⟩ := l1Below_ok c i h l.length hi hi2 (by omega) (by omega)
  unfold spec_l1PickText.f
  rw [e, Option.bind_some, if_pos a1, if_pos a2]
  exact ⟨_, _, _, rfl, a1, a2, a3, a4⟩
theorem l1PickInt_ok (c : List Int) (i h : Int) (l : List Int) (hi : 0 ≤ i) (hi2 : i ≤ 1000000000000) (h1 : 0 < l.length) (h2 : l.length ≤ 256) : ∃ v i' h', spec_l1PickInt.f c i h l = some (v, i', h') ∧ 0 ≤ i' ∧ i' ≤ i + 1 := by
  obtain ⟨x, i', h', e, a1, a2, a3, a4⟩ := l1Below_ok c i h l.length hi hi2 (by omega) (by omega)
  unfold spec_l1PickInt.f
  rw [e, Option.bind_some, if_pos a1, if_pos a2]
  exact ⟨_, _, _, rfl, a3, a4⟩
theorem l1New_l (l : List Int) : ∀ (d k : Nat) (x i : Int), 0 ≤ i → i ≤ 4000 → 4000 - i = d → d < k → ∃ h, spec_l1New.l0 k l x i = some (l, 0, h) := by
  intro d
  induction d with
  | zero =>
    intro k x i h0 h1 hd hk
    obtain ⟨k, rfl⟩ : ∃ m, k = m + 1 := ⟨k - 1, by omega⟩
    simp only [spec_l1New.l0]
    by_cases c : i < (l.length : Int)
    · rw [if_pos c, if_neg (by omega)]; exact ⟨_, rfl⟩
    · rw [if_neg c]; exact ⟨_, rfl⟩
  | succ d ih =>
    intro k x i h0 h1 hd hk
    obtain ⟨k, rfl⟩ : ∃ m, k = m + 1 := ⟨k - 1, by omega⟩
    simp only [spec_l1New.l0]
    by_cases c : i < (l.length : Int)
    · rw [if_pos c, if_pos (by omega), if_pos h0, wrap_id (x := i + 1) (by omega) (by omega)]
      exact ih k _ (i + 1) (by omega) (by omega) (by omega) (by omega)
    · rw [if_neg c]; exact ⟨_, rfl⟩
theorem l1New_ok (l : List Int) (k : Nat) (hk : 4001 ≤ k) : ∃ h, spec_l1New.f k l = some (l, 0, h) := l1New_l l 4000 k _ 0 (by omega) (by omega) (by omega) (by omega)
theorem l1of_ok (c : List Int) (n : Int) (a : ByteArray) (ha1 : 0 < a.size) (ha2 : a.size ≤ 256) (hn : n ≤ 1000) : ∀ (d k : Nat) (out : List Int) (j i h : Int), 0 ≤ j → out.length = j → n - j ≤ d → j ≤ 2000 → d < k → 0 ≤ i → i + d ≤ 1000000000 →
    ∃ s i' h', spec_l1of.l0 k n a out j c i h = some (s, i', h') ∧ s.size ≤ out.length + d := by
  intro d
  induction d with
  | zero =>
    intro k out j i h hj ho hd hj2 hk hi hi2
    obtain ⟨k, rfl⟩ : ∃ m, k = m + 1 := ⟨k - 1, by omega⟩
    simp only [spec_l1of.l0]
    rw [if_neg (by omega)]
    exact ⟨_, _, _, rfl, by rw [strOfNums_size]; omega⟩
  | succ d ih =>
    intro k out j i h hj ho hd hj2 hk hi hi2
    obtain ⟨k, rfl⟩ : ∃ m, k = m + 1 := ⟨k - 1, by omega⟩
    simp only [spec_l1of.l0]
    by_cases cj : j < n
    · obtain ⟨x, i', h', e, a1, a2, a3, a4⟩ := l1Below_ok c i h a.size hi (by omega) (by omega) (by omega)
      rw [if_pos cj, e, Option.bind_some, if_pos a1, if_pos a2, if_pos (by omega), wrap_id (x := j + 1) (by omega) (by omega)]
      obtain ⟨s, i2, h2, e2, b1⟩ := ih k (out ++ [bt a x]) (j + 1) i' h' (by omega) (by simp; omega) (by omega) (by omega) (by omega) a3 (by omega)
      exact ⟨s, i2, h2, e2, by simp at b1; omega⟩
    · rw [if_neg cj]
      exact ⟨_, _, _, rfl, by rw [strOfNums_size]; omega⟩
theorem DrawDelta_ok (l : List Int) (k : Nat) (hk : 6000 ≤ k) : ∃ s, spec_DrawDelta.f k l = some s ∧ s.size ≤ 30 := by
  obtain ⟨h, e0⟩ := l1New_ok l k (by omega)
  obtain ⟨b, i1, h1, e1, a1, a2⟩ := l1Once_ok l 0 h 3 (by omega) (by omega) (by omega) (by omega)
  unfold spec_DrawDelta.f
  rw [e0, Option.bind_some]
  dsimp only
  rw [e1, Option.bind_some]
  cases b with
  | true =>
    rw [if_pos rfl]
    obtain ⟨x, i2, h2, e2, b1, b2, b3, b4⟩ := l1PickText_ok l i1 h1 [(⟨#[]⟩ : ByteArray), (⟨#[50, 49, 52, 55, 52, 56, 51, 54, 52, 56]⟩ : ByteArray), (⟨#[50, 49, 52, 55, 52, 56, 51, 54, 52, 57]⟩ : ByteArray), (⟨#[50, 49, 52, 55, 52, 56, 51, 54, 52, 55]⟩ : ByteArray), (⟨#[48, 48, 55]⟩ : ByteArray), (⟨#[57, 57, 57, 57, 57, 57, 57, 57, 57, 57, 57, 57, 57, 57, 57, 57, 57, 57, 57, 57, 57, 57, 57, 57, 57]⟩ : ByteArray), (⟨#[45, 49]⟩ : ByteArray), (⟨#[49, 32]⟩ : ByteArray)] a1 (by omega) (by decide) (by decide)
    rw [e2, Option.bind_some]
    refine ⟨_, rfl, ?_⟩
    have b2' : x < 8 := b2
    obtain ⟨m, rfl⟩ := Int.eq_ofNat_of_zero_le b1
    have hm : m < 8 := by omega
    unfold rdOf
    rw [Int.toNat_natCast]
    have hall : ∀ m : Fin 8, (([(⟨#[]⟩ : ByteArray), (⟨#[50, 49, 52, 55, 52, 56, 51, 54, 52, 56]⟩ : ByteArray), (⟨#[50, 49, 52, 55, 52, 56, 51, 54, 52, 57]⟩ : ByteArray), (⟨#[50, 49, 52, 55, 52, 56, 51, 54, 52, 55]⟩ : ByteArray), (⟨#[48, 48, 55]⟩ : ByteArray), (⟨#[57, 57, 57, 57, 57, 57, 57, 57, 57, 57, 57, 57, 57, 57, 57, 57, 57, 57, 57, 57, 57, 57, 57, 57, 57]⟩ : ByteArray), (⟨#[45, 49]⟩ : ByteArray), (⟨#[49, 32]⟩ : ByteArray)] : List ByteArray).getD m.val ByteArray.empty).size ≤ 30 := by decide
    exact hall ⟨m, hm⟩
  | false =>
    rw [if_neg (show ¬ ((false, i1, h1) : Bool × Int × Int).1 = true from fun q => by cases q)]
    obtain ⟨x, i2, h2, e2, b1, b2, b3, b4⟩ := l1Below_ok l i1 h1 12 a1 (by omega) (by omega) (by omega)
    rw [e2, Option.bind_some]
    dsimp only
    unfold spec_l1of.f
    obtain ⟨s, i3, h3, e3, d1⟩ := l1of_ok l x (⟨#[48, 49, 50, 51, 52, 53, 54, 55, 56, 57]⟩ : ByteArray) (by decide) (by decide) (by omega) 12 k [] 0 i2 h2 (by omega) rfl (by omega) (by omega) (by omega) b3 (by omega)
    rw [e3, Option.bind_some]
    exact ⟨s, rfl, by simp at d1; omega⟩
theorem l12delta_ok (c : List Int) (i h : Int) (hi : 0 ≤ i) (hi2 : i ≤ 1000000000000) : ∃ v i' h', spec_l12delta.f c i h = some (v, i', h') ∧ 0 ≤ i' ∧ i' ≤ i + 1 := by
  obtain ⟨v, i', h', e, a1, a2⟩ := l1PickInt_ok c i h [(-1), (-1), (-1), 0, 1, 5, 10, 60, 3600, 2147483648] hi hi2 (by decide) (by decide)
  unfold spec_l12delta.f
  rw [e, Option.bind_some]
  exact ⟨_, _, _, rfl, a1, a2⟩
theorem l12draw_ok (c : List Int) (h : Int) : ∃ (b0 b1 b2 b3 b4 b5 : Bool) (n6 n7 n8 n9 i' h' : Int), spec_l12draw.f c 0 h = some (b0, b1, b2, b3, b4, b5, n6, n7, n8, n9, i', h') ∧ 0 ≤ i' ∧ i' ≤ 10 := by
  obtain ⟨b0, i0, h0, e0, p0, q0⟩ := l1Once_ok c 0 h 8 (by omega) (by omega) (by omega) (by omega)
  obtain ⟨b1, i1, h1, e1, p1, q1⟩ := l1Once_ok c i0 h0 6 p0 (by omega) (by omega) (by omega)
  obtain ⟨b2, i2, h2, e2, p2, q2⟩ := l1Once_ok c i1 h1 8 p1 (by omega) (by omega) (by omega)
  obtain ⟨b3, i3, h3, e3, p3, q3⟩ := l1Once_ok c i2 h2 4 p2 (by omega) (by omega) (by omega)
  obtain ⟨b4, i4, h4, e4, p4, q4⟩ := l1Once_ok c i3 h3 4 p3 (by omega) (by omega) (by omega)
  obtain ⟨b5, i5, h5, e5, p5, q5⟩ := l1Once_ok c i4 h4 8 p4 (by omega) (by omega) (by omega)
  obtain ⟨n6, i6, h6, e6, p6, q6⟩ := l12delta_ok c i5 h5 p5 (by omega)
  obtain ⟨n7, i7, h7, e7, p7, q7⟩ := l12delta_ok c i6 h6 p6 (by omega)
  obtain ⟨n8, i8, h8, e8, p8, q8⟩ := l12delta_ok c i7 h7 p7 (by omega)
  obtain ⟨n9, i9, h9, e9, p9, q9⟩ := l12delta_ok c i8 h8 p8 (by omega)
  refine ⟨b0, b1, b2, b3, b4, b5, n6, n7, n8, n9, i9, h9, ?_, by omega, by omega⟩
  unfold spec_l12draw.f
  rw [e0, Option.bind_some]
  dsimp only
  rw [e1, Option.bind_some]
  dsimp only
  rw [e2, Option.bind_some]
  dsimp only
  rw [e3, Option.bind_some]
  dsimp only
  rw [e4, Option.bind_some]
  dsimp only
  rw [e5, Option.bind_some]
  dsimp only
  rw [e6, Option.bind_some]
  dsimp only
  rw [e7, Option.bind_some]
  dsimp only
  rw [e8, Option.bind_some]
  dsimp only
  rw [e9, Option.bind_some]
theorem DrawDirsText_ok (l : List Int) (k : Nat) (hk : 6000 ≤ k) : ∃ (b0 b1 b2 b3 b4 b5 : Bool) (n6 n7 n8 n9 : Int), spec_DrawDirsText.f k l = some (b0, b1, b2, b3, b4, b5, n6, n7, n8, n9) := by
  obtain ⟨h, e0⟩ := l1New_ok l k (by omega)
  obtain ⟨b0, b1, b2, b3, b4, b5, n6, n7, n8, n9, i1, h1, e1, p1, q1⟩ := l12draw_ok l h
  obtain ⟨x, i2, h2, e2, a1, a2, a3, a4⟩ := l1Below_ok l i1 h1 8 p1 (by omega) (by omega) (by omega)
  obtain ⟨v, i3, h3, e3, _⟩ := l1PickInt_ok l i2 h2 [(-2), 2147483649] a3 (by omega) (by decide) (by decide)
  unfold spec_DrawDirsText.f spec_DrawDirsOk.f
  rw [e0, Option.bind_some]
  dsimp only
  rw [e1, Option.bind_some]
  dsimp only
  rw [e2, Option.bind_some]
  dsimp only
  rw [e3]
  simp only [Option.bind_some]
  by_cases c0 : x = 0
  · simp only [if_pos c0, Option.bind_some]; exact ⟨_, _, _, _, _, _, _, _, _, _, rfl⟩
  · simp only [if_neg c0]
    by_cases c1 : x = 1
    · simp only [if_pos c1, Option.bind_some]; exact ⟨_, _, _, _, _, _, _, _, _, _, rfl⟩
    · simp only [if_neg c1]
      by_cases c2 : x = 2
      · simp only [if_pos c2, Option.bind_some]; exact ⟨_, _, _, _, _, _, _, _, _, _, rfl⟩
      · simp only [if_neg c2]
        by_cases c3 : x = 3
        · simp only [if_pos c3, Option.bind_some]; exact ⟨_, _, _, _, _, _, _, _, _, _, rfl⟩
        · simp only [if_neg c3, Option.bind_some]; exact ⟨_, _, _, _, _, _, _, _, _, _, rfl⟩
def digsL (l : List UInt8) : Bool := l.all fun c => dig (c.toNat : Int)
def dvalL (l : List UInt8) (n : Int) : Int := l.foldl (fun n c => min 2147483648 (10 * n + ((c.toNat : Int) - 48))) n
theorem bt_list (s : ByteArray) (i : Nat) (h : i < s.data.toList.length) : bt s (i : Int) = ((s.data.toList[i]).toNat : Int) := by
  have hl : s.data.toList.length = s.size := data_length s
  unfold bt
  rw [dif_pos (show ((i : Int)).toNat < s.size by rw [Int.toNat_natCast]; omega)]
  simp only [Int.toNat_natCast, Array.getElem_toList]
  rfl
theorem digs_list (s : ByteArray) : ∀ d i : Nat, i + d = s.size → digs s d (i : Int) = digsL (s.data.toList.drop i) := by
  have hl : s.data.toList.length = s.size := data_length s
  intro d
  induction d with
  | zero => intro i h; rw [List.drop_eq_nil_of_le (by omega)]; rfl
  | succ d ih =>
    intro i h
    have hi : i < s.data.toList.length := by omega
    have e := ih (i + 1) (by omega)
    rw [List.drop_eq_getElem_cons hi]
    simp only [digs, digsL, List.all_cons]
    rw [bt_list s i hi, show (i : Int) + 1 = ((i + 1 : Nat) : Int) by omega, e]
    rfl
theorem dval_list (s : ByteArray) : ∀ (d i : Nat) (n : Int), i + d = s.size → dval s d n (i : Int) = dvalL (s.data.toList.drop i) n := by
  have hl : s.data.toList.length = s.size := data_length s
  intro d
  induction d with
  | zero => intro i n h; rw [List.drop_eq_nil_of_le (by omega)]; rfl
  | succ d ih =>
    intro i n h
    have hi : i < s.data.toList.length := by omega
    rw [List.drop_eq_getElem_cons hi]
    simp only [dval, dvalL, List.foldl_cons]
    rw [bt_list s i hi, show (i : Int) + 1 = ((i + 1 : Nat) : Int) by omega, ih (i + 1) _ (by omega)]
    rfl
theorem deltaOf_list (s : ByteArray) : deltaOf s = if s.data.toList = [] then (0, false) else if digsL s.data.toList = true then (dvalL s.data.toList 0, true) else (0, false) := by
  unfold deltaOf
  rw [ByteArray.toList_eq]
  have e1 := digs_list s s.size 0 (by omega)
  have e2 := dval_list s s.size 0 0 (by omega)
  rw [show ((0 : Nat) : Int) = 0 from rfl] at e1 e2
  rw [e1, e2, List.drop_zero]
theorem dvalL_range : ∀ (l : List UInt8) (n : Int), digsL l = true → 0 ≤ n → n ≤ 2147483648 → 0 ≤ dvalL l n ∧ dvalL l n ≤ 2147483648
  | [], n, _, h0, h1 => ⟨h0, h1⟩
  | c :: l, n, hd, h0, h1 => by
    simp only [digsL, List.all_cons, Bool.and_eq_true] at hd
    have hr : 48 ≤ (c.toNat : Int) ∧ (c.toNat : Int) ≤ 57 := by simpa [dig] using hd.1
    simp only [dvalL, List.foldl_cons]
    exact dvalL_range l _ hd.2 (by omega) (by omega)
theorem deltaOf_range (s : ByteArray) : 0 ≤ (deltaOf s).1 ∧ (deltaOf s).1 ≤ 2147483648 := by
  rw [deltaOf_list]
  split
  · exact ⟨Int.le_refl _, by decide⟩
  · split
    · rename_i h; exact dvalL_range _ 0 h (Int.le_refl _) (by decide)
    · exact ⟨Int.le_refl _, by decide⟩
theorem zeros_delta (s : ByteArray) (h : (deltaOf s).2 = true) : deltaOf ((⟨#[48, 48]⟩ : ByteArray) ++ s) = deltaOf s := by
  rw [deltaOf_list] at h
  rw [deltaOf_list s]
  by_cases h1 : s.data.toList = []
  · rw [if_pos h1] at h; cases h
  · rw [if_neg h1] at h
    by_cases h2 : digsL s.data.toList = true
    · rw [if_neg h1, if_pos h2, deltaOf_list]
      have e : ((⟨#[48, 48]⟩ : ByteArray) ++ s).data.toList = 48 :: 48 :: s.data.toList := by simp
      have e2 : digsL (48 :: 48 :: s.data.toList) = true := by
        simp only [digsL, List.all_cons] at h2 ⊢
        rw [h2]; rfl
      have e3 : dvalL (48 :: 48 :: s.data.toList) 0 = dvalL s.data.toList 0 := rfl
      rw [e, if_neg (by simp), if_pos e2, e3]
    · rw [if_neg h2] at h; cases h
theorem digit_toNat (x : Nat) (h : x < 10) : (UInt8.ofNat (48 + x)).toNat = 48 + x := by
  rw [UInt8.toNat_ofNat']
  omega
theorem dec_list (u : Nat) : digsL (Lib.decDigits u) = true ∧ dvalL (Lib.decDigits u) 0 = min 2147483648 (u : Int) ∧ Lib.decDigits u ≠ [] := by
  induction u using Nat.strongRecOn with
  | _ u ih =>
    by_cases h : u < 10
    · rw [Lib.decDigits_one h]
      have e := digit_toNat u h
      refine ⟨?_, ?_, by simp⟩
      · simp only [digsL, List.all_cons, List.all_nil, Bool.and_true, e, dig]
        rw [decide_eq_true (by omega), decide_eq_true (by omega)]; rfl
      · simp only [dvalL, List.foldl_cons, List.foldl_nil, e]
        omega
    · obtain ⟨i1, i2, i3⟩ := ih (u / 10) (by omega)
      have e3 : Lib.decDigits u = Lib.decDigits (u / 10) ++ [UInt8.ofNat (48 + u % 10)] := by rw [Lib.decDigits, dif_neg h]
      have e := digit_toNat (u % 10) (by omega)
      rw [e3]
      refine ⟨?_, ?_, by simp⟩
      · simp only [digsL] at i1 ⊢
        rw [List.all_append, i1]
        simp only [List.all_cons, List.all_nil, Bool.and_true, Bool.true_and, e, dig]
        rw [decide_eq_true (by omega), decide_eq_true (by omega)]; rfl
      · simp only [dvalL] at i2 ⊢
        rw [List.foldl_append, i2]
        simp only [List.foldl_cons, List.foldl_nil, e]
        omega
theorem delta_dec (n : Int) (h0 : 0 ≤ n) (h1 : n ≤ 999999999999999) : deltaOf (decT n) = (min 2147483648 n, true) := by
  obtain ⟨u, rfl⟩ := Int.eq_ofNat_of_zero_le h0
  obtain ⟨i1, i2, i3⟩ := dec_list u
  unfold decT Lib.itoa
  rw [if_pos ⟨h0, h1⟩, if_neg (by omega), Int.toNat_natCast, deltaOf_list]
  have e : (⟨(Lib.decDigits u).toArray⟩ : ByteArray).data.toList = Lib.decDigits u := by simp
  exact (if_neg i3).trans ((if_pos i1).trans (by rw [i2]))
end Go.Proofs.YtahgiblifkchaaaDoor.P
end
section
/- Plain laws of our own (Trim): about numbers and lists alone; no condition beyond those written. -/
namespace Go.Proofs.YtahgiblifkchaaaDoor.P
open Go.RowKit Go.Proofs.YtahgiblifkchaaaDoorW.PrintWords Go.Proofs.YtahgiblifkchaaaDoorW.PrintLast Go.Proofs.YtahgiblifkchaaaDoorW.PrintMore
set_option linter.unusedVariables false
set_option linter.unusedSimpArgs false
set_option maxHeartbeats 2000000
theorem toList_nil (s : ByteArray) : s.toList = ([] : List UInt8) ↔ s.size = 0 := by
  rw [ByteArray.toList_eq]
  constructor
  · intro h
    have := congrArg List.length h
    rw [data_length] at this
    simpa using this
  · intro h
    apply List.eq_nil_of_length_eq_zero
    rw [data_length]; exact h
def ws (c : Int) : Bool := decide (c = 32) || decide (c = 9)
theorem isSpace_eq (c : Int) : impl_isSpace.f c = some (ws c) := by
  unfold impl_isSpace.f ws
  by_cases h : c = 32
  · rw [if_pos h]; simp [h]
  · rw [if_neg h]
    by_cases h2 : c = 9 <;> simp [h, h2]
def lead (s : ByteArray) : Nat → Nat → Nat
  | 0, i => i
  | d + 1, i => if ws (bt s (i : Int)) = true then lead s d (i + 1) else i
def back (s : ByteArray) : Nat → Nat → Nat
  | 0, j => j
  | d + 1, j => if ws (bt s ((j - 1 : Nat) : Int)) = true then back s d (j - 1) else j
theorem lead_le (s : ByteArray) : ∀ d i, i ≤ lead s d i ∧ lead s d i ≤ i + d := by
  intro d
  induction d with
  | zero => intro i; simp [lead]
  | succ d ih =>
    intro i
    simp only [lead]
    split
    · have := ih (i + 1); omega
    · omega
theorem back_le (s : ByteArray) : ∀ d j, back s d j ≤ j ∧ j ≤ back s d j + d := by
  intro d
  induction d with
  | zero => intro i; simp [back]
  | succ d ih =>
    intro j
    simp only [back]
    split
    · have := ih (j - 1); omega
    · omega
def trimS (s : ByteArray) : ByteArray := s.extract (lead s s.size 0) (back s (s.size - lead s s.size 0) s.size)
theorem trimS_size (s : ByteArray) : (trimS s).size ≤ s.size := by
  unfold trimS
  rw [size_extract]
  omega
theorem impl_trim_l1 (s : ByteArray) (hs : s.size ≤ 140737488351232) : ∀ (d k a j : Nat), a ≤ j → j ≤ s.size → j - a = d → d < k → impl_Trim.l1 k (s.extract a j) = some (s.extract a (back s d j)) := by
  intro d
  induction d with
  | zero =>
    intro k a j h1 h2 hd hk
    obtain ⟨k, rfl⟩ : ∃ m, k = m + 1 := ⟨k - 1, by omega⟩
    simp only [impl_Trim.l1]
    rw [if_pos ((toList_nil _).2 (by rw [size_extract]; omega))]
    rfl
  | succ d ih =>
    intro k a j h1 h2 hd hk
    obtain ⟨k, rfl⟩ : ∃ m, k = m + 1 := ⟨k - 1, by omega⟩
    have hz : (s.extract a j).size = d + 1 := by rw [size_extract]; omega
    simp only [impl_Trim.l1]
    have hw : wrap64 (((s.extract a j).size : Int) - 1) = ((d : Nat) : Int) := by rw [hz, wrap_id (by omega) (by omega)]; omega
    have hb0 : bt (s.extract a j) ((d : Nat) : Int) = bt s ((j - 1 : Nat) : Int) := by
      rw [bt_extract s a j _ (by omega) (by omega) h2]
      congr 1; omega
    rw [if_neg (fun h => by have := (toList_nil _).1 h; omega), hw, if_pos (by omega), if_pos (by omega), isSpace_eq, Option.bind_some, Int.toNat_natCast, ByteArray.extract_extract, hb0]
    simp only [back]
    have he : s.extract (a + 0) (min (a + d) j) = s.extract a (j - 1) := by congr 1; omega
    by_cases hb : ws (bt s ((j - 1 : Nat) : Int)) = true
    · rw [if_pos hb, if_pos hb, if_pos (by omega), he]
      exact ih k a (j - 1) (by omega) (by omega) (by omega) (by omega)
    · rw [if_neg hb, if_neg hb]
theorem impl_trim_l0 (s : ByteArray) (hs : s.size ≤ 140737488351232) : ∀ (d k i : Nat), i ≤ s.size → s.size - i = d → d + s.size + 3 < k → impl_Trim.l0 k (s.extract i s.size) = some (s.extract (lead s d i) (back s (s.size - lead s d i) s.size)) := by
  intro d
  induction d with
  | zero =>
    intro k i h1 hd hk
    obtain ⟨k, rfl⟩ : ∃ m, k = m + 2 := ⟨k - 2, by omega⟩
    rw [impl_Trim.l0.eq_def]
    dsimp only
    rw [if_pos ((toList_nil _).2 (by rw [size_extract]; omega))]
    simp only [impl_Trim.j1, lead]
    exact impl_trim_l1 s hs _ k i s.size h1 (Nat.le_refl _) rfl (by omega)
  | succ d ih =>
    intro k i h1 hd hk
    obtain ⟨k, rfl⟩ : ∃ m, k = m + 2 := ⟨k - 2, by omega⟩
    have hz : (s.extract i s.size).size = d + 1 := by rw [size_extract]; omega
    rw [impl_Trim.l0.eq_def]
    dsimp only
    have hb0 : bt (s.extract i s.size) 0 = bt s (i : Int) := by
      rw [bt_extract s i s.size 0 (by omega) (by omega) (Nat.le_refl _)]
      congr 1
    have he : (s.extract i s.size).extract 1 (s.extract i s.size).size = s.extract (i + 1) s.size := by
      rw [ByteArray.extract_extract, hz]; congr 1; omega
    rw [if_neg (fun h => by have := (toList_nil _).1 h; omega), if_pos (by omega), isSpace_eq, Option.bind_some, hb0, he]
    simp only [lead]
    by_cases hb : ws (bt s (i : Int)) = true
    · rw [if_pos hb, if_pos hb, if_pos (by omega)]
      exact ih (k + 1) (i + 1) (by omega) (by omega) (by omega)
    · rw [if_neg hb, if_neg hb]
      simp only [impl_Trim.j1]
      exact impl_trim_l1 s hs _ k i s.size h1 (Nat.le_refl _) rfl (by omega)
theorem impl_Trim_eq (s : ByteArray) (hs : s.size ≤ 140737488351232) (k : Nat) (hk : 2 * s.size + 3 < k) : impl_Trim.f k s = some (trimS s) := by
  unfold impl_Trim.f trimS
  have h := impl_trim_l0 s hs s.size k 0 (Nat.zero_le _) (by omega) (by omega)
  rw [ByteArray.extract_zero_size] at h
  exact h

end Go.Proofs.YtahgiblifkchaaaDoor.P
end
section
/- Plain laws of our own (Elements): about numbers and lists alone; no condition beyond those written. -/
namespace Go.Proofs.YtahgiblifkchaaaDoor.P
open Go.RowKit Go.Proofs.YtahgiblifkchaaaDoorW.PrintWords Go.Proofs.YtahgiblifkchaaaDoorW.PrintLast Go.Proofs.YtahgiblifkchaaaDoorW.PrintMore
set_option linter.unusedVariables false
set_option linter.unusedSimpArgs false
set_option maxHeartbeats 2000000
def fin (s : ByteArray) (out : List ByteArray) (a : Nat) : List ByteArray := addS out (trimS (s.extract a s.size))
def elS (s : ByteArray) : Nat → List ByteArray → Nat → Bool → Nat → List ByteArray
  | 0, out, a, _, _ => fin s out a
  | d + 1, out, a, q, i =>
    if bt s (i : Int) = 34 then elS s d out a (!q) (i + 1)
    else if q = true ∧ bt s (i : Int) = 92 then (match d with | 0 => fin s out a | e + 1 => elS s e out a q (i + 2))
    else if q = false ∧ bt s (i : Int) = 44 then elS s d (addS out (trimS (s.extract a i))) (i + 1) q (i + 1)
    else elS s d out a q (i + 1)
theorem elS_succ (s : ByteArray) (d : Nat) (out : List ByteArray) (a : Nat) (q : Bool) (i : Nat) : elS s (d + 1) out a q i =
    if bt s (i : Int) = 34 then elS s d out a (!q) (i + 1)
    else if q = true ∧ bt s (i : Int) = 92 then (match d with | 0 => fin s out a | e + 1 => elS s e out a q (i + 2))
    else if q = false ∧ bt s (i : Int) = 44 then elS s d (addS out (trimS (s.extract a i))) (i + 1) q (i + 1)
    else elS s d out a q (i + 1) := by
  rw [elS.eq_def]
theorem addS_length (out : List ByteArray) (t : ByteArray) : (addS out t).length ≤ out.length + 1 := by
  unfold addS
  split
  · omega
  · simp
theorem impl_el_end (s : ByteArray) (hs : s.size ≤ 4000) (k : Nat) (hk : 2 * s.size + 3 < k) (out : List ByteArray) (hl : out.length ≤ 5000) (a : Nat) (ha : a ≤ s.size) (q : Bool) (i : Int) (hi : (s.size : Int) ≤ i) :
    impl_Elements.l0 (k + 1) s out (a : Int) q i = some (fin s out a) := by
  have hz : (s.extract a s.size).size ≤ s.size := by rw [size_extract]; omega
  simp only [impl_Elements.l0]
  rw [if_neg (by omega), if_pos (by omega), if_pos (by omega), if_pos (by omega), Int.toNat_natCast, impl_Trim_eq _ (by omega) k (by omega)]
  rfl
theorem impl_el (s : ByteArray) (hs : s.size ≤ 4000) : ∀ (n d : Nat), d ≤ n → ∀ (k : Nat) (out : List ByteArray) (a : Nat) (q : Bool) (i : Nat), i ≤ s.size → s.size - i = d → a ≤ i → out.length ≤ i → d + 2 * s.size + 5 < k →
    impl_Elements.l0 k s out (a : Int) q (i : Int) = some (elS s d out a q i) := by
  intro n
  induction n with
  | zero =>
    intro d hdn k out a q i hi hd ha hl hk
    obtain rfl : d = 0 := by omega
    obtain ⟨k, rfl⟩ : ∃ m, k = m + 1 := ⟨k - 1, by omega⟩
    exact impl_el_end s hs k (by omega) out (by omega) a (by omega) q i (by omega)
  | succ n ih =>
    intro d hdn k out a q i hi hd ha hl hk
    obtain ⟨k, rfl⟩ : ∃ m, k = m + 1 := ⟨k - 1, by omega⟩
    cases d with
    | zero => exact impl_el_end s hs k (by omega) out (by omega) a (by omega) q i (by omega)
    | succ d =>
      have hw : wrap64 ((i : Int) + 1) = ((i + 1 : Nat) : Int) := by rw [wrap_id (by omega) (by omega)]; omega
      have hw2 : wrap64 (((i + 1 : Nat) : Int) + 1) = ((i + 2 : Nat) : Int) := by rw [wrap_id (by omega) (by omega)]; omega
      simp only [impl_Elements.l0]
      rw [elS_succ]
      rw [if_pos (by omega), if_pos (by omega), hw, hw2]
      by_cases c1 : bt s (i : Int) = 34
      · rw [if_pos c1, if_pos c1]
        exact ih d (by omega) k out a (!q) (i + 1) (by omega) (by omega) (by omega) (by omega) (by omega)
      · rw [if_neg c1, if_neg c1]
        by_cases c2 : q = true ∧ bt s (i : Int) = 92
        · rw [if_pos c2, if_pos c2]
          cases d with
          | zero =>
            obtain ⟨k, rfl⟩ : ∃ m, k = m + 1 := ⟨k - 1, by omega⟩
            exact impl_el_end s hs k (by omega) out (by omega) a (by omega) q _ (by omega)
          | succ e => exact ih e (by omega) k out a q (i + 2) (by omega) (by omega) (by omega) (by omega) (by omega)
        · rw [if_neg c2, if_neg c2]
          by_cases c3 : q = false ∧ bt s (i : Int) = 44
          · have hz : (s.extract a i).size ≤ s.size := by rw [size_extract]; omega
            rw [if_pos c3, if_pos c3, if_pos (by omega), if_pos (by omega), if_pos (by omega), Int.toNat_natCast, Int.toNat_natCast, impl_Trim_eq _ (by omega) k (by omega), Option.bind_some]
            exact ih d (by omega) k _ (i + 1) q (i + 1) (by omega) (by omega) (by omega) (by have := addS_length out (trimS (s.extract a i)); omega) (by omega)
          · rw [if_neg c3, if_neg c3]
            exact ih d (by omega) k out a q (i + 1) (by omega) (by omega) (by omega) (by omega) (by omega)
def elementsOf (s : ByteArray) : List ByteArray := if (s.size : Int) > 4000 then [] else elS s s.size [] 0 false 0
theorem impl_Elements_eq (s : ByteArray) (k : Nat) (hk : 20000 < k) : impl_Elements.f k s = some (elementsOf s) := by
  unfold impl_Elements.f elementsOf
  by_cases h : (s.size : Int) > 4000
  · rw [if_pos h, if_pos h]
  · rw [if_neg h, if_neg h]
    exact impl_el s (by omega) s.size s.size (Nat.le_refl _) k [] 0 false 0 (Nat.zero_le _) (by omega) (Nat.le_refl _) (Nat.le_refl _) (by omega)
theorem elS_length (s : ByteArray) : ∀ (n d : Nat), d ≤ n → ∀ (out : List ByteArray) (a : Nat) (q : Bool) (i : Nat), (elS s d out a q i).length ≤ out.length + d + 1 := by
  intro n
  induction n with
  | zero =>
    intro d hdn out a q i
    obtain rfl : d = 0 := by omega
    exact addS_length _ _
  | succ n ih =>
    intro d hdn out a q i
    cases d with
    | zero => exact addS_length _ _
    | succ d =>
      rw [elS_succ]
      split
      · have := ih d (by omega) out a (!q) (i + 1); omega
      · split
        · cases d with
          | zero => have := addS_length out (trimS (s.extract a s.size)); exact Nat.le_trans this (by omega)
          | succ e => have := ih e (by omega) out a q (i + 2); exact Nat.le_trans this (by omega)
        · split
          · have := ih d (by omega) (addS out (trimS (s.extract a i))) (i + 1) q (i + 1)
            have := addS_length out (trimS (s.extract a i))
            omega
          · have := ih d (by omega) out a q (i + 1); omega
theorem elementsOf_length (s : ByteArray) : (elementsOf s).length ≤ 4001 := by
  unfold elementsOf
  by_cases h : (s.size : Int) > 4000
  · rw [if_pos h]; exact Nat.zero_le _
  · rw [if_neg h]
    have := elS_length s s.size s.size (Nat.le_refl _) [] 0 false 0
    simp at this
    omega

end Go.Proofs.YtahgiblifkchaaaDoor.P
end
section
/- Plain laws of our own (AllB): about numbers and lists alone; no condition beyond those written. -/
namespace Go.Proofs.YtahgiblifkchaaaDoor.P
open Go.RowKit Go.Proofs.YtahgiblifkchaaaDoorW.PrintWords Go.Proofs.YtahgiblifkchaaaDoorW.PrintLast Go.Proofs.YtahgiblifkchaaaDoorW.PrintMore
set_option linter.unusedVariables false
set_option linter.unusedSimpArgs false
set_option maxHeartbeats 2000000
def allB (p : Int → Bool) : Nat → Int → Bool
  | 0, _ => true
  | d + 1, i => p i && allB p d (i + 1)
theorem all_loop (F : Nat → Int → Option Bool) (n : Nat) (p : Int → Bool) (K0 : Nat) (stop : ∀ k (i : Int), (n : Int) ≤ i → F (k + 1) i = some true)
    (step : ∀ k (i : Int), 0 ≤ i → i < n → K0 ≤ k → F (k + 1) i = if p i = true then F k (i + 1) else some false) :
    ∀ (d k : Nat) (i : Int), 0 ≤ i → (n : Int) - i = d → d + K0 < k → F k i = some (allB p d i) := by
  intro d
  induction d with
  | zero =>
    intro k i h0 hd hk
    obtain ⟨k, rfl⟩ : ∃ m, k = m + 1 := ⟨k - 1, by omega⟩
    rw [stop k i (by omega)]
    rfl
  | succ d ih =>
    intro k i h0 hd hk
    obtain ⟨k, rfl⟩ : ∃ m, k = m + 1 := ⟨k - 1, by omega⟩
    rw [step k i h0 (by omega) (by omega), ih k (i + 1) (by omega) (by omega) (by omega)]
    simp only [allB]
    cases p i <;> simp
theorem all_from (F : Nat → Int → Option Bool) (n : Nat) (p : Int → Bool) (K0 : Nat) (stop : ∀ k (i : Int), (n : Int) ≤ i → F (k + 1) i = some true)
    (step : ∀ k (i : Int), 0 ≤ i → i < n → K0 ≤ k → F (k + 1) i = if p i = true then F k (i + 1) else some false) (k : Nat) (hk : n + K0 < k) : F k 0 = some (allB p n 0) :=
  all_loop F n p K0 stop step n k 0 (by omega) (by omega) hk

end Go.Proofs.YtahgiblifkchaaaDoor.P
end
section
/- Plain laws of our own (Token): about numbers and lists alone; no condition beyond those written. -/
namespace Go.Proofs.YtahgiblifkchaaaDoor.P
open Go.RowKit Go.Proofs.YtahgiblifkchaaaDoorW.PrintWords Go.Proofs.YtahgiblifkchaaaDoorW.PrintLast Go.Proofs.YtahgiblifkchaaaDoorW.PrintMore
set_option linter.unusedVariables false
set_option linter.unusedSimpArgs false
set_option maxHeartbeats 2000000
def tchB (c : Int) : Bool := (impl_isTokenByte.f c).getD false
theorem token_bytesI : ∀ n : Fin 256, impl_isTokenByte.f (n.val : Int) = some (tchB (n.val : Int)) := by decide +kernel
theorem isTokenByte_eq (c : Int) (h0 : 0 ≤ c) (h1 : c ≤ 255) : impl_isTokenByte.f c = some (tchB c) := by
  obtain ⟨n, rfl⟩ := Int.eq_ofNat_of_zero_le h0
  exact token_bytesI ⟨n, by omega⟩
def tokB (s : ByteArray) : Bool := decide (1 ≤ s.size ∧ s.size ≤ 4000) && allB (fun i => tchB (bt s i)) s.size 0
theorem impl_Token_eq (s : ByteArray) (k : Nat) (hk : 5000 < k) : impl_Token.f k s = some (tokB s) := by
  unfold impl_Token.f tokB
  rw [within_eq, Option.bind_some]
  by_cases h : 1 ≤ s.size ∧ s.size ≤ 4000
  · rw [if_pos (decide_eq_true (by omega)), decide_eq_true h, Bool.true_and]
    unfold impl_all__impl_isTokenByte.f
    rw [all_from (fun k i => impl_all__impl_isTokenByte.l0 k s i) s.size (fun i => tchB (bt s i)) 0 (fun k i hi => by simp only [impl_all__impl_isTokenByte.l0]; rw [if_neg (by omega)])
      (fun k i h0 h1 _ => by
        have hb := bt_range s i
        simp only [impl_all__impl_isTokenByte.l0]
        rw [if_pos h1, if_pos h0, isTokenByte_eq _ hb.1 hb.2, Option.bind_some, wrap_id (by omega) (by omega)]) k (by omega)]
    rfl
  · rw [if_neg (by simp; omega), decide_eq_false h, Bool.false_and]
def plB (c : Int) : Bool := decide (c = 9) || (decide (32 ≤ c) && decide (c ≠ 127))
theorem isPlain_eq (c : Int) : impl_isPlain.f c = some (plB c) := by
  unfold impl_isPlain.f plB
  by_cases h : c = 9
  · rw [if_pos h]; simp [h]
  · rw [if_neg h]
    by_cases h2 : c ≥ 32
    · rw [if_pos h2]
      by_cases h3 : c = 127 <;> simp [h, h2, h3]
    · rw [if_neg h2]; simp [h, h2]
def plainB (s : ByteArray) : Bool := allB (fun i => plB (bt s i)) s.size 0
theorem impl_plain_eq (s : ByteArray) (hs : s.size ≤ 140737488351232) (k : Nat) (hk : s.size < k) : impl_all__impl_isPlain.f k s = some (plainB s) := by
  unfold impl_all__impl_isPlain.f plainB
  exact all_from (fun k i => impl_all__impl_isPlain.l0 k s i) s.size (fun i => plB (bt s i)) 0 (fun k i hi => by simp only [impl_all__impl_isPlain.l0]; rw [if_neg (by omega)])
    (fun k i h0 h1 _ => by
      simp only [impl_all__impl_isPlain.l0]
      rw [if_pos h1, if_pos h0, isPlain_eq, Option.bind_some, wrap_id (by omega) (by omega)]) k (by omega)
end Go.Proofs.YtahgiblifkchaaaDoor.P
end
section
/- Plain laws of our own (Fields): about numbers and lists alone; no condition beyond those written. -/
namespace Go.Proofs.YtahgiblifkchaaaDoor.P
open Go.RowKit Go.Proofs.YtahgiblifkchaaaDoorW.PrintWords Go.Proofs.YtahgiblifkchaaaDoorW.PrintLast Go.Proofs.YtahgiblifkchaaaDoorW.PrintMore
set_option linter.unusedVariables false
set_option linter.unusedSimpArgs false
set_option maxHeartbeats 2000000
def fieldOkB (n v : ByteArray) : Bool := decide (n.size ≤ 40) && (tokB n && (decide (v.size ≤ 190) && (plainB v && ((trimS v).toList == v.toList))))
theorem impl_FieldOk_eq (n v : ByteArray) (k : Nat) (hk : 5000 < k) : impl_FieldOk.f k n v = some (fieldOkB n v) := by
  unfold impl_FieldOk.f fieldOkB
  rw [impl_Token_eq n k hk, Option.bind_some]
  by_cases h1 : tokB n = true
  · rw [if_pos h1, h1, Bool.true_and]
    by_cases h2 : n.size ≤ 40
    · rw [if_pos (by omega), decide_eq_true h2, Bool.true_and]
      by_cases h3 : v.size ≤ 190
      · rw [if_pos (by omega), decide_eq_true h3, Bool.true_and, impl_plain_eq v (by omega) k (by omega), Option.bind_some]
        by_cases h4 : plainB v = true
        · rw [if_pos h4, h4, Bool.true_and, impl_Trim_eq v (by omega) k (by omega)]; rfl
        · rw [if_neg h4]; simp [h4]
      · rw [if_neg (by omega), decide_eq_false h3, Bool.false_and]
    · rw [if_neg (by omega), decide_eq_false h2, Bool.false_and]
  · rw [if_neg h1]; simp [h1]
abbrev FieldT := S34
def fieldsOkB (l : List FieldT) : Bool := decide (l.length ≤ 20) && allB (fun i => fieldOkB (rd_T34 l i).f0 (rd_T34 l i).f1) l.length 0
theorem impl_FieldsOk_eq (l : List FieldT) (k : Nat) (hk : 6000 < k) : impl_FieldsOk.f k l = some (fieldsOkB l) := by
  unfold impl_FieldsOk.f fieldsOkB
  by_cases h : l.length ≤ 20
  · rw [if_neg (by omega), decide_eq_true h, Bool.true_and]
    exact all_from (fun k i => impl_FieldsOk.l0 k l (l.length : Int) i) l.length _ 5001 (fun k i hi => by simp only [impl_FieldsOk.l0]; rw [if_neg (by omega)])
      (fun k i h0 h1 hk => by
        simp only [impl_FieldsOk.l0]
        rw [if_pos h1, if_pos h0, if_pos h1, impl_FieldOk_eq _ _ k (by omega), Option.bind_some, wrap_id (by omega) (by omega)]) k (by omega)
  · rw [if_pos (by omega), decide_eq_false h, Bool.false_and]
theorem fieldsOk_short {l : List FieldT} (h : fieldsOkB l = true) : l.length ≤ 20 := by
  unfold fieldsOkB at h
  have := (Bool.and_eq_true_iff.1 h).1
  exact of_decide_eq_true this
theorem allB_at {p : Int → Bool} : ∀ (d : Nat) (i : Int), allB p d i = true → ∀ j : Nat, j < d → p (i + j) = true := by
  intro d
  induction d with
  | zero => intro i _ j hj; omega
  | succ d ih =>
    intro i h j hj
    simp only [allB, Bool.and_eq_true] at h
    cases j with
    | zero => simpa using h.1
    | succ j =>
      have := ih (i + 1) h.2 j (by omega)
      rw [show i + ((j + 1 : Nat) : Int) = i + 1 + (j : Int) by omega]
      exact this
theorem fieldsOk_name {l : List FieldT} (h : fieldsOkB l = true) (j : Nat) (hj : j < l.length) : (rd_T34 l (j : Int)).f0.size ≤ 40 ∧ (rd_T34 l (j : Int)).f1.size ≤ 190 := by
  unfold fieldsOkB at h
  have h2 := allB_at _ _ (Bool.and_eq_true_iff.1 h).2 j hj
  rw [Int.zero_add] at h2
  unfold fieldOkB at h2
  simp only [Bool.and_eq_true] at h2
  exact ⟨of_decide_eq_true h2.1, of_decide_eq_true h2.2.2.1⟩
def sameB (a b : ByteArray) : Bool := (foldS a).toList == (foldS b).toList
theorem impl_SameFold_eq (a b : ByteArray) (ha : a.size ≤ 9223372036854775807) (hb : b.size ≤ 9223372036854775807) : impl_SameFold.f a b = some (sameB a b) := by
  unfold impl_SameFold.f impl_Fold.f sameB
  rw [if_pos ha, Option.bind_some, if_pos hb, Option.bind_some]
end Go.Proofs.YtahgiblifkchaaaDoor.P
end
section
/- Plain laws of our own (Values): about numbers and lists alone; no condition beyond those written. -/
namespace Go.Proofs.YtahgiblifkchaaaDoor.P
open Go.RowKit Go.Proofs.YtahgiblifkchaaaDoorW.PrintWords Go.Proofs.YtahgiblifkchaaaDoorW.PrintLast Go.Proofs.YtahgiblifkchaaaDoorW.PrintMore
set_option linter.unusedVariables false
set_option linter.unusedSimpArgs false
set_option maxHeartbeats 2000000
def valsFrom (l : List FieldT) (a : ByteArray) : Nat → Nat → List ByteArray → List ByteArray
  | 0, _, out => out
  | d + 1, i, out => valsFrom l a d (i + 1) (if sameB (rd_T34 l (i : Int)).f0 a = true then out ++ [(rd_T34 l (i : Int)).f1] else out)
theorem valsFrom_length (l : List FieldT) (a : ByteArray) : ∀ d i out, (valsFrom l a d i out).length ≤ out.length + d := by
  intro d
  induction d with
  | zero => intro i out; simp [valsFrom]
  | succ d ih =>
    intro i out
    simp only [valsFrom]
    split
    · have := ih (i + 1) (out ++ [(rd_T34 l (i : Int)).f1])
      simp at this; omega
    · have := ih (i + 1) out; omega
theorem impl_vals (l : List FieldT) (a : ByteArray) (ha : a.size ≤ 140737488351232) (hok : fieldsOkB l = true) : ∀ (d k i : Nat) (out : List ByteArray), i ≤ l.length → l.length - i = d → out.length ≤ i → d < k →
    impl_Values.l0 k a out l (l.length : Int) (i : Int) = some (valsFrom l a d i out) := by
  have hl := fieldsOk_short hok
  intro d
  induction d with
  | zero =>
    intro k i out h1 hd ho hk
    obtain ⟨k, rfl⟩ : ∃ m, k = m + 1 := ⟨k - 1, by omega⟩
    simp only [impl_Values.l0]
    rw [if_neg (by omega)]
    rfl
  | succ d ih =>
    intro k i out h1 hd ho hk
    obtain ⟨k, rfl⟩ : ∃ m, k = m + 1 := ⟨k - 1, by omega⟩
    have hn := fieldsOk_name hok i (by omega)
    have hw : wrap64 ((i : Int) + 1) = ((i + 1 : Nat) : Int) := by rw [wrap_id (by omega) (by omega)]; omega
    simp only [impl_Values.l0, valsFrom]
    rw [if_pos (by omega), if_pos (by omega), if_pos (by omega), impl_SameFold_eq _ a (by omega) (by omega), Option.bind_some, hw]
    by_cases hb : sameB (rd_T34 l (i : Int)).f0 a = true
    · rw [if_pos hb, if_pos hb, if_pos (by omega)]
      exact ih k (i + 1) _ (by omega) (by omega) (by simp; omega) (by omega)
    · rw [if_neg hb, if_neg hb]
      exact ih k (i + 1) out (by omega) (by omega) (by omega) (by omega)
def valuesOf (l : List FieldT) (a : ByteArray) : List ByteArray := if fieldsOkB l = true then valsFrom l a l.length 0 [] else []
theorem valuesOf_length (l : List FieldT) (a : ByteArray) : (valuesOf l a).length ≤ 20 := by
  unfold valuesOf
  split
  · rename_i h
    have h1 := fieldsOk_short h
    have h2 := valsFrom_length l a l.length 0 []
    simp at h2; omega
  · exact Nat.zero_le _
theorem impl_Values_eq (l : List FieldT) (a : ByteArray) (ha : a.size ≤ 140737488351232) (k : Nat) (hk : 6000 < k) : impl_Values.f k l a = some (valuesOf l a) := by
  unfold impl_Values.f valuesOf
  rw [impl_FieldsOk_eq l k hk, Option.bind_some]
  by_cases h : fieldsOkB l = true
  · have := fieldsOk_short h
    rw [if_pos h, if_pos h]
    exact impl_vals l a ha h l.length k 0 [] (Nat.zero_le _) (by omega) (Nat.le_refl _) (by omega)
  · rw [if_neg h, if_neg h]
end Go.Proofs.YtahgiblifkchaaaDoor.P
end
section
/- Plain laws of our own (Joined): about numbers and lists alone; no condition beyond those written. -/
namespace Go.Proofs.YtahgiblifkchaaaDoor.P
open Go.RowKit Go.Proofs.YtahgiblifkchaaaDoorW.PrintWords Go.Proofs.YtahgiblifkchaaaDoorW.PrintLast Go.Proofs.YtahgiblifkchaaaDoorW.PrintMore
set_option linter.unusedVariables false
set_option linter.unusedSimpArgs false
set_option maxHeartbeats 2000000
def tailB (acc : ByteArray) : List ByteArray → ByteArray
  | [] => acc
  | x :: r => tailB ((acc ++ (⟨#[44, 32]⟩ : ByteArray)) ++ x) r
theorem tailB_toList : ∀ (r : List ByteArray) (acc : ByteArray), (tailB acc r).data.toList = acc.data.toList ++ Go.Lib.joinTail [44, 32] (r.map fun x => x.data.toList) := by
  intro r
  induction r with
  | nil => intro acc; simp [tailB, Go.Lib.joinTail]
  | cons x r ih =>
    intro acc
    simp only [tailB]
    rw [ih]
    simp [Go.Lib.joinTail]
theorem joinB_eq {x : ByteArray} {r : List ByteArray} {acc : ByteArray} (h : acc.data.toList = x.data.toList) : tailB acc r = ⟨(joinL (x :: r)).toArray⟩ := by
  have e : (tailB acc r).data.toList = joinL (x :: r) := by
    rw [tailB_toList, h]
    unfold joinL
    rw [List.map_cons, Go.Lib.join_cons]
  have e2 : (tailB acc r).data = (joinL (x :: r)).toArray := by
    rw [← e, Array.toArray_toList]
  rw [← e2]
theorem valsFrom_small (l : List FieldT) (a : ByteArray) (hok : fieldsOkB l = true) : ∀ d i out, i + d ≤ l.length → (∀ x ∈ out, x.size ≤ 190) → ∀ x ∈ valsFrom l a d i out, x.size ≤ 190 := by
  intro d
  induction d with
  | zero => intro i out _ h; exact h
  | succ d ih =>
    intro i out hi h
    simp only [valsFrom]
    refine ih (i + 1) _ (by omega) ?_
    split
    · intro x hx
      rcases List.mem_append.mp hx with h1 | h1
      · exact h x h1
      · obtain rfl := List.mem_singleton.mp h1
        exact (fieldsOk_name hok i (by omega)).2
    · exact h
theorem valuesOf_small (l : List FieldT) (a : ByteArray) : ∀ x ∈ valuesOf l a, x.size ≤ 190 := by
  unfold valuesOf
  split
  · rename_i h
    exact valsFrom_small l a h l.length 0 [] (by omega) (fun x hx => by cases hx)
  · intro x hx; cases hx
theorem lens_small : ∀ (vs : List ByteArray), (∀ x ∈ vs, x.size ≤ 190) → Go.Lib.lens (vs.map fun x => x.data.toList) ≤ 190 * vs.length := by
  intro vs
  induction vs with
  | nil => intro _; simp [Go.Lib.lens]
  | cons x r ih =>
    intro h
    have h1 := h x (List.mem_cons_self ..)
    have h2 := ih (fun y hy => h y (List.mem_cons_of_mem _ hy))
    have h3 : x.data.toList.length = x.size := by rw [Array.length_toList]; rfl
    simp only [Go.Lib.lens, List.map_cons, List.sum_cons, List.length_cons] at h2 ⊢
    omega
theorem joinL_length (vs : List ByteArray) (hn : vs.length ≤ 20) (hs : ∀ x ∈ vs, x.size ≤ 190) : (joinL vs).length ≤ 5000 := by
  unfold joinL
  cases vs with
  | nil => simp [Go.Lib.join_nil]
  | cons x r =>
    have h := lens_small (x :: r) hs
    simp only [List.map_cons] at h ⊢
    rw [Go.Lib.join_length]
    simp only [List.length_cons, List.length_nil, List.length_map] at h hn ⊢
    omega
def joinedOf (l : List FieldT) (a : ByteArray) : ByteArray := ⟨(joinL (valuesOf l a)).toArray⟩
theorem impl_Joined_eq (l : List FieldT) (a : ByteArray) (ha : a.size ≤ 140737488351232) (k : Nat) (hk : 6000 < k) : impl_Joined.f k l a = some (joinedOf l a) := by
  have h1 := valuesOf_length l a
  have h2 := joinL_length (valuesOf l a) h1 (valuesOf_small l a)
  unfold impl_Joined.f joinedOf
  rw [impl_Values_eq l a ha k hk, Option.bind_some, if_pos ⟨by omega, by omega⟩]
end Go.Proofs.YtahgiblifkchaaaDoor.P
end
section
/- Plain laws of our own (Unquote): about numbers and lists alone; no condition beyond those written. -/
namespace Go.Proofs.YtahgiblifkchaaaDoor.P
open Go.RowKit Go.Proofs.YtahgiblifkchaaaDoorW.PrintWords Go.Proofs.YtahgiblifkchaaaDoorW.PrintLast Go.Proofs.YtahgiblifkchaaaDoorW.PrintMore
set_option linter.unusedVariables false
set_option linter.unusedSimpArgs false
set_option maxHeartbeats 2000000
def unqR (x : ByteArray) : Nat → List Int → Nat → Option (List Int)
  | 0, out, _ => some out
  | d + 1, out, i =>
    if bt x (i : Int) = 34 then none
    else if bt x (i : Int) = 92 then (match d with | 0 => none | e + 1 => if plB (bt x ((i + 1 : Nat) : Int)) = true then unqR x e (out ++ [bt x ((i + 1 : Nat) : Int)]) (i + 2) else none)
    else if plB (bt x (i : Int)) = true then unqR x d (out ++ [bt x (i : Int)]) (i + 1) else none
theorem unqR_succ (x : ByteArray) (d : Nat) (out : List Int) (i : Nat) : unqR x (d + 1) out i =
    if bt x (i : Int) = 34 then none
    else if bt x (i : Int) = 92 then (match d with | 0 => none | e + 1 => if plB (bt x ((i + 1 : Nat) : Int)) = true then unqR x e (out ++ [bt x ((i + 1 : Nat) : Int)]) (i + 2) else none)
    else if plB (bt x (i : Int)) = true then unqR x d (out ++ [bt x (i : Int)]) (i + 1) else none := by
  rw [unqR.eq_def]
def unqE : Option (List Int) → ByteArray × Bool
  | none => ((⟨#[]⟩ : ByteArray), false)
  | some out => if (out.length : Int) > 4000 then ((⟨#[]⟩ : ByteArray), false) else (strOfNums out, true)
theorem unqE_size (o : Option (List Int)) : (unqE o).1.size ≤ 4000 := by
  unfold unqE
  split
  · exact Nat.zero_le _
  · split
    · exact Nat.zero_le _
    · show (strOfNums _).size ≤ 4000
      rw [strOfNums_size]
      omega
theorem impl_unq (x : ByteArray) (hx : x.size ≤ 100000) : ∀ (n d : Nat), d ≤ n → ∀ (k : Nat) (out : List Int) (i : Nat), i ≤ x.size → x.size - i = d → out.length ≤ i → d < k →
    impl_Unquote.l0 k x out (i : Int) = some (unqE (unqR x d out i)) := by
  intro n
  induction n with
  | zero =>
    intro d hdn k out i hi hd ho hk
    obtain rfl : d = 0 := by omega
    obtain ⟨k, rfl⟩ : ∃ m, k = m + 1 := ⟨k - 1, by omega⟩
    simp only [impl_Unquote.l0]
    rw [if_neg (by omega)]
    simp only [unqR, unqE]
    split <;> rfl
  | succ n ih =>
    intro d hdn k out i hi hd ho hk
    obtain ⟨k, rfl⟩ : ∃ m, k = m + 1 := ⟨k - 1, by omega⟩
    cases d with
    | zero =>
      simp only [impl_Unquote.l0]
      rw [if_neg (by omega)]
      simp only [unqR, unqE]
      split <;> rfl
    | succ d =>
      have hw : wrap64 ((i : Int) + 1) = ((i + 1 : Nat) : Int) := by rw [wrap_id (by omega) (by omega)]; omega
      have hw2 : wrap64 (((i + 1 : Nat) : Int) + 1) = ((i + 2 : Nat) : Int) := by rw [wrap_id (by omega) (by omega)]; omega
      simp only [impl_Unquote.l0]
      rw [unqR_succ, if_pos (by omega), if_pos (by omega), hw, hw2]
      by_cases c1 : bt x (i : Int) = 34
      · rw [if_pos c1, if_pos c1]; rfl
      · rw [if_neg c1, if_neg c1]
        by_cases c2 : bt x (i : Int) = 92
        · rw [if_pos c2, if_pos c2]
          cases d with
          | zero => rw [if_pos (by omega)]; rfl
          | succ e =>
            rw [if_neg (by omega), if_pos (by omega), if_pos (by omega), isPlain_eq, Option.bind_some]
            by_cases c3 : plB (bt x ((i + 1 : Nat) : Int)) = true
            · dsimp only
              rw [if_pos c3, if_pos c3, if_pos (by omega)]
              exact ih e (by omega) k _ (i + 2) (by omega) (by omega) (by simp; omega) (by omega)
            · dsimp only
              rw [if_neg c3, if_neg c3]; rfl
        · rw [if_neg c2, if_neg c2, if_neg (by omega), isPlain_eq, Option.bind_some]
          by_cases c3 : plB (bt x (i : Int)) = true
          · rw [if_pos c3, if_pos c3, if_pos (by omega)]
            exact ih d (by omega) k _ (i + 1) (by omega) (by omega) (by simp; omega) (by omega)
          · rw [if_neg c3, if_neg c3]; rfl
def unq (s : ByteArray) : ByteArray × Bool := if s.size < 2 ∨ bt s 0 ≠ 34 ∨ bt s ((s.size - 1 : Nat) : Int) ≠ 34 then ((⟨#[]⟩ : ByteArray), false) else unqE (unqR (s.extract 1 (s.size - 1)) (s.size - 2) [] 0)
theorem unq_size (s : ByteArray) : (unq s).1.size ≤ 4000 := by
  unfold unq
  split
  · exact Nat.zero_le _
  · exact unqE_size _
theorem impl_Unquote_eq (s : ByteArray) (hs : s.size ≤ 8000) (k : Nat) (hk : s.size + 3 < k) : impl_Unquote.f k s = some (unq s) := by
  obtain ⟨k, rfl⟩ : ∃ m, k = m + 1 := ⟨k - 1, by omega⟩
  unfold impl_Unquote.f unq
  by_cases h1 : s.size < 2
  · rw [if_pos (by omega), if_pos (Or.inl h1)]
    simp [impl_Unquote.j0]
  · have hw : wrap64 ((s.size : Int) - 1) = ((s.size - 1 : Nat) : Int) := by rw [wrap_id (by omega) (by omega)]; omega
    rw [if_neg (by omega), if_pos (by omega), hw]
    by_cases h2 : bt s 0 = 34
    · rw [if_pos h2, if_pos (by omega), if_pos (by omega)]
      simp only [impl_Unquote.j0]
      by_cases h3 : bt s ((s.size - 1 : Nat) : Int) = 34
      · rw [if_neg (by simp [h3]), hw, if_pos (by omega), if_pos (by omega), if_neg (by simp [h2, h3]; omega), Int.toNat_natCast]
        have hz : (s.extract 1 (s.size - 1)).size = s.size - 2 := by rw [size_extract]; omega
        exact impl_unq _ (by omega) _ _ (Nat.le_refl _) k [] 0 (Nat.zero_le _) (by omega) (Nat.le_refl _) (by omega)
      · rw [if_pos (by simpa using h3), if_pos (Or.inr (Or.inr h3))]
    · rw [if_neg h2, if_pos (Or.inr (Or.inl h2))]
      simp [impl_Unquote.j0]
end Go.Proofs.YtahgiblifkchaaaDoor.P
end
section
/- Plain laws of our own (Words): about numbers and lists alone; no condition beyond those written. -/
namespace Go.Proofs.YtahgiblifkchaaaDoor.P
open Go.RowKit Go.Proofs.YtahgiblifkchaaaDoorW.PrintWords Go.Proofs.YtahgiblifkchaaaDoorW.PrintLast Go.Proofs.YtahgiblifkchaaaDoorW.PrintMore
set_option linter.unusedVariables false
set_option linter.unusedSimpArgs false
set_option maxHeartbeats 2000000
def wordsOf (l : List FieldT) (a : ByteArray) : List ByteArray := elementsOf (joinedOf l a)
theorem wordsOf_length (l : List FieldT) (a : ByteArray) : (wordsOf l a).length ≤ 4001 := elementsOf_length _
theorem impl_Words_eq (l : List FieldT) (a : ByteArray) (ha : a.size ≤ 140737488351232) (k : Nat) (hk : 20000 < k) : impl_Words.f k l a = some (wordsOf l a) := by
  unfold impl_Words.f wordsOf
  rw [impl_Joined_eq l a ha k (by omega), Option.bind_some, impl_Elements_eq _ k hk, Option.bind_some]
end Go.Proofs.YtahgiblifkchaaaDoor.P
end
section
/- Plain laws of our own (ReadDirs): about numbers and lists alone; no condition beyond those written. -/
namespace Go.Proofs.YtahgiblifkchaaaDoor.P
open Go.RowKit Go.Proofs.YtahgiblifkchaaaDoorW.PrintWords Go.Proofs.YtahgiblifkchaaaDoorW.PrintLast Go.Proofs.YtahgiblifkchaaaDoorW.PrintMore
set_option linter.unusedVariables false
set_option linter.unusedSimpArgs false
set_option maxHeartbeats 2000000
theorem at_drop2 {l : List ByteArray} {i : Nat} {y : ByteArray} {r : List ByteArray} (h : l.drop i = y :: r) : i < l.length ∧ rdOf ByteArray.empty l (i : Int) = y ∧ l.drop (i + 1) = r := by
  have hi : i < l.length := by
    by_cases hq : i < l.length
    · exact hq
    · rw [List.drop_eq_nil_iff.mpr (by omega)] at h; cases h
  rw [List.drop_eq_getElem_cons hi] at h
  injection h with h2 h3
  refine ⟨hi, ?_, h3⟩
  unfold rdOf
  simp only [Int.toNat_natCast, List.getD_eq_getElem?_getD, List.getElem?_eq_getElem hi, Option.getD_some]
  exact h2
theorem bt_iff (s : ByteArray) (m : Nat) (h : m < s.size) : s.data.toList[m]? = some 61 ↔ bt s (m : Int) = 61 := by
  have hl : m < s.data.toList.length := by rw [data_length]; exact h
  rw [List.getElem?_eq_getElem hl]
  unfold bt
  rw [dif_pos (show ((m : Int)).toNat < s.size by simpa using h)]
  have e : s[((m : Int)).toNat]'(by simpa using h) = s.data.toList[m] := by
    simp only [Int.toNat_natCast, Array.getElem_toList]
    rfl
  rw [e, Option.some.injEq]
  constructor
  · intro q; rw [q]; rfl
  · intro q
    have q2 : (s.data.toList[m]).toNat = 61 := by omega
    exact UInt8.toNat_inj.mp (by simpa using q2)
theorem idx_list (c : UInt8) : ∀ l : List UInt8, (Lib.indexByte l c = -1 ∧ ∀ k : Nat, l[k]? ≠ some c) ∨ ∃ o : Nat, Lib.indexByte l c = (o : Int) ∧ l[o]? = some c ∧ ∀ k : Nat, k < o → l[k]? ≠ some c
  | [] => .inl ⟨rfl, fun k => by simp⟩
  | b :: l => by
    by_cases hb : b = c
    · refine .inr ⟨0, ?_, ?_, fun k hk => absurd hk (Nat.not_lt_zero _)⟩
      · unfold Lib.indexByte; rw [if_pos (beq_iff_eq.mpr hb)]; rfl
      · simp [hb]
    · have hb' : ¬ (b == c) = true := fun h => hb (beq_iff_eq.mp h)
      rcases idx_list c l with ⟨h1, h2⟩ | ⟨o, h1, h2, h3⟩
      · refine .inl ⟨?_, fun k => ?_⟩
        · unfold Lib.indexByte; rw [if_neg hb', if_pos (beq_iff_eq.mpr h1)]
        · cases k with
          | zero => simpa using hb
          | succ k => simpa using h2 k
      · refine .inr ⟨o + 1, ?_, by simpa using h2, fun k hk => ?_⟩
        · unfold Lib.indexByte
          rw [if_neg hb', if_neg (fun h => by have := beq_iff_eq.mp h; omega), h1]
          omega
        · cases k with
          | zero => simpa using hb
          | succ k => simpa using h3 k (by omega)
def eqAt (s : ByteArray) : Nat → Nat → Nat
  | 0, i => i
  | d + 1, i => if bt s (i : Int) = 61 then i else eqAt s d (i + 1)
theorem eqAt_spec (s : ByteArray) : ∀ d i, i ≤ eqAt s d i ∧ eqAt s d i ≤ i + d ∧ (∀ m, i ≤ m → m < eqAt s d i → bt s (m : Int) ≠ 61) ∧ (eqAt s d i < i + d → bt s ((eqAt s d i : Nat) : Int) = 61)
  | 0, i => ⟨Nat.le_refl _, Nat.le_refl _, fun m h1 h2 => by simp only [eqAt] at h2; omega, fun h => by simp only [eqAt] at h; omega⟩
  | d + 1, i => by
    simp only [eqAt]
    by_cases h : bt s (i : Int) = 61
    · rw [if_pos h]
      exact ⟨Nat.le_refl _, by omega, fun m h1 h2 => by omega, fun _ => h⟩
    · rw [if_neg h]
      obtain ⟨h1, h2, h3, h4⟩ := eqAt_spec s d (i + 1)
      refine ⟨by omega, by omega, fun m q1 q2 => ?_, fun q => h4 (by omega)⟩
      by_cases e : m = i
      · rw [e]; exact h
      · exact h3 m (by omega) q2
def eqI (s : ByteArray) : Nat := eqAt s s.size 0
theorem eqI_le (s : ByteArray) : eqI s ≤ s.size := by
  have := (eqAt_spec s s.size 0).2.1
  unfold eqI; omega
theorem index_eq (s : ByteArray) : Lib.indexByte s.data.toList 61 = if eqI s = s.size then -1 else (eqI s : Int) := by
  obtain ⟨h1, h2, h3, h4⟩ := eqAt_spec s s.size 0
  have hle := eqI_le s
  change eqAt s s.size 0 < 0 + s.size → _ at h4
  have hlen : s.data.toList.length = s.size := data_length s
  rcases idx_list 61 s.data.toList with ⟨q1, q2⟩ | ⟨o, q1, q2, q3⟩
  · rw [q1]
    by_cases e : eqI s = s.size
    · rw [if_pos e]
    · exact absurd ((bt_iff s (eqI s) (by omega)).mpr (h4 (by unfold eqI at e hle; omega))) (q2 _)
  · have ho : o < s.size := by
      by_cases hq : o < s.size
      · exact hq
      · rw [List.getElem?_eq_none (by omega)] at q2; cases q2
    have hb := (bt_iff s o ho).mp q2
    have e1 : ¬ o < eqI s := fun h => h3 o (Nat.zero_le _) h hb
    have e2 : ¬ eqI s < o := fun h => q3 _ h ((bt_iff s (eqI s) (by omega)).mpr (h4 (by unfold eqI at h; omega)))
    have e3 : eqI s = o := by omega
    rw [q1, if_neg (by omega), e3]
theorem extract_whole (s : ByteArray) : s.extract 0 s.size = s := by simp
def partN (w : ByteArray) : ByteArray := foldS (trimS (w.extract 0 (eqI w)))
def partV (w : ByteArray) : ByteArray := if eqI w = w.size then (⟨#[]⟩ : ByteArray) else if (unq (trimS (w.extract (eqI w + 1) w.size))).2 = true then (unq (trimS (w.extract (eqI w + 1) w.size))).1 else trimS (w.extract (eqI w + 1) w.size)
theorem partV_size (w : ByteArray) (hw : w.size ≤ 4000) : (partV w).size ≤ 4000 := by
  unfold partV
  have h1 := trimS_size (w.extract (eqI w + 1) w.size)
  have h2 : (w.extract (eqI w + 1) w.size).size ≤ w.size := by rw [size_extract]; omega
  split
  · exact Nat.zero_le _
  · split
    · exact unq_size _
    · omega
def dval0 (v : ByteArray) (o : Int) : Int := if (deltaOf v).2 = true then (deltaOf v).1 else o
theorem dval_nonneg (s : ByteArray) : ∀ d n i, 0 ≤ n → digs s d i = true → 0 ≤ dval s d n i := by
  intro d
  induction d with
  | zero => intro n i h _; exact h
  | succ d ih =>
    intro n i h hd
    simp only [digs, Bool.and_eq_true] at hd
    have hr : 48 ≤ bt s i ∧ bt s i ≤ 57 := by simpa [dig] using hd.1
    simp only [dval]
    exact ih _ _ (by omega) hd.2
theorem deltaOf_nonneg (v : ByteArray) : 0 ≤ (deltaOf v).1 := by
  unfold deltaOf
  split
  · exact Int.le_refl _
  · split
    · rename_i h; exact dval_nonneg v _ 0 0 (Int.le_refl _) h
    · exact Int.le_refl _
theorem dval0_nonneg (v : ByteArray) (o : Int) (ho : 0 ≤ o) : 0 ≤ dval0 v o := by
  unfold dval0
  split
  · exact deltaOf_nonneg v
  · exact ho
theorem impl_deltaOr_eq (v : ByteArray) (o : Int) (hv : v.size ≤ 4000) (k : Nat) (hk : 9000 < k) : impl_deltaOr.f k v o = some (dval0 v o) := by
  unfold impl_deltaOr.f dval0
  rw [impl_Delta_eq v (by omega) k (by omega), Option.bind_some]
  split <;> rfl
def keyedP (d : DirD) (n v : ByteArray) : DirD :=
  if n.toList = ([110, 111, 45, 115, 116, 111, 114, 101] : List UInt8) then { d with b0 := true }
  else if n.toList = ([110, 111, 45, 99, 97, 99, 104, 101] : List UInt8) then { d with b1 := true }
  else if n.toList = ([112, 114, 105, 118, 97, 116, 101] : List UInt8) then { d with b2 := true }
  else if n.toList = ([112, 117, 98, 108, 105, 99] : List UInt8) then { d with b3 := true }
  else if n.toList = ([111, 110, 108, 121, 45, 105, 102, 45, 99, 97, 99, 104, 101, 100] : List UInt8) then { d with b5 := true }
  else if n.toList = ([109, 117, 115, 116, 45, 114, 101, 118, 97, 108, 105, 100, 97, 116, 101] : List UInt8) then { d with b4 := true }
  else if n.toList = ([112, 114, 111, 120, 121, 45, 114, 101, 118, 97, 108, 105, 100, 97, 116, 101] : List UInt8) then { d with b4 := true }
  else if n.toList = ([109, 97, 120, 45, 97, 103, 101] : List UInt8) then { d with n6 := setN d.n6 (dval0 v 0) }
  else if n.toList = ([115, 45, 109, 97, 120, 97, 103, 101] : List UInt8) then { d with n7 := setN d.n7 (dval0 v 0) }
  else if n.toList = ([109, 97, 120, 45, 115, 116, 97, 108, 101] : List UInt8) then { d with n8 := setN d.n8 (if v.toList = ([] : List UInt8) then 2147483648 else dval0 v 0) }
  else if n.toList = ([109, 105, 110, 45, 102, 114, 101, 115, 104] : List UInt8) then { d with n9 := setN d.n9 (dval0 v 2147483648) }
  else d
theorem keyed_eq (k : Nat) (hk : 9000 < k) (d : DirD) (n v : ByteArray) (hv : v.size ≤ 4000) : keyed k d n v = some (keyedP d n v) := by
  unfold keyed keyedP
  rw [impl_deltaOr_eq v 0 hv k hk, impl_deltaOr_eq v 2147483648 hv k hk]
  simp only [Option.bind_some]
  by_cases h0 : n.toList = ([110, 111, 45, 115, 116, 111, 114, 101] : List UInt8)
  · rw [if_pos h0, if_pos h0]
  rw [if_neg h0, if_neg h0]
  by_cases h1 : n.toList = ([110, 111, 45, 99, 97, 99, 104, 101] : List UInt8)
  · rw [if_pos h1, if_pos h1]
  rw [if_neg h1, if_neg h1]
  by_cases h2 : n.toList = ([112, 114, 105, 118, 97, 116, 101] : List UInt8)
  · rw [if_pos h2, if_pos h2]
  rw [if_neg h2, if_neg h2]
  by_cases h3 : n.toList = ([112, 117, 98, 108, 105, 99] : List UInt8)
  · rw [if_pos h3, if_pos h3]
  rw [if_neg h3, if_neg h3]
  by_cases h4 : n.toList = ([111, 110, 108, 121, 45, 105, 102, 45, 99, 97, 99, 104, 101, 100] : List UInt8)
  · rw [if_pos h4, if_pos h4]
  rw [if_neg h4, if_neg h4]
  by_cases h5 : n.toList = ([109, 117, 115, 116, 45, 114, 101, 118, 97, 108, 105, 100, 97, 116, 101] : List UInt8)
  · rw [if_pos h5, if_pos h5]
  rw [if_neg h5, if_neg h5]
  by_cases h6 : n.toList = ([112, 114, 111, 120, 121, 45, 114, 101, 118, 97, 108, 105, 100, 97, 116, 101] : List UInt8)
  · rw [if_pos h6, if_pos h6]
  rw [if_neg h6, if_neg h6]
  by_cases h7 : n.toList = ([109, 97, 120, 45, 97, 103, 101] : List UInt8)
  · rw [if_pos h7, if_pos h7]
  rw [if_neg h7, if_neg h7]
  by_cases h8 : n.toList = ([115, 45, 109, 97, 120, 97, 103, 101] : List UInt8)
  · rw [if_pos h8, if_pos h8]
  rw [if_neg h8, if_neg h8]
  by_cases h9 : n.toList = ([109, 97, 120, 45, 115, 116, 97, 108, 101] : List UInt8)
  · rw [if_pos h9, if_pos h9]
    by_cases hq : v.toList = ([] : List UInt8)
    · rw [if_pos hq, if_pos hq]
    · rw [if_neg hq, if_neg hq]
  rw [if_neg h9, if_neg h9]
  by_cases h10 : n.toList = ([109, 105, 110, 45, 102, 114, 101, 115, 104] : List UInt8)
  · rw [if_pos h10, if_pos h10]
  rw [if_neg h10, if_neg h10]
def stepP (d : DirD) (w : ByteArray) : DirD := keyedP d (partN w) (partV w)
theorem trim_none : trimS (⟨#[]⟩ : ByteArray) = (⟨#[]⟩ : ByteArray) := by decide
theorem unq_none : unq (⟨#[]⟩ : ByteArray) = ((⟨#[]⟩ : ByteArray), false) := by unfold unq; rw [if_pos (Or.inl (by decide))]
theorem dirWord_eq (d : DirD) (w : ByteArray) (hw : w.size ≤ 4000) (k : Nat) (hk : 9000 < k) : dirWord k d w = some (stepP d w) := by
  have hj := eqI_le w
  have hz : (w.extract 0 (eqI w)).size = eqI w := by rw [size_extract]; omega
  have ht := trimS_size (w.extract 0 (eqI w))
  have hpv := partV_size w hw
  unfold dirWord strings_Cut.f stringslite_Cut.f stringslite_Index.f stepP
  change (((some (Lib.indexByte w.data.toList 61)).bind _).bind _).bind _ = _
  rw [index_eq, Option.bind_some]
  by_cases h : eqI w = w.size
  · have hN : partN w = foldS (trimS w) := by unfold partN; rw [h, extract_whole]
    have hV : partV w = (⟨#[]⟩ : ByteArray) := by unfold partV; rw [if_pos h]
    have htw := trimS_size w
    rw [if_pos h, if_neg (by decide)]
    simp only [Option.bind_some]
    have z0 : (⟨#[]⟩ : ByteArray).size = 0 := rfl
    rw [impl_Trim_eq _ (show ((⟨#[]⟩ : ByteArray)).size ≤ 140737488351232 by decide) k (by omega), Option.bind_some, trim_none, impl_Unquote_eq _ (by decide) k (by omega), Option.bind_some, unq_none, impl_Trim_eq w (by omega) k (by omega), Option.bind_some]
    unfold impl_Fold.f
    rw [if_pos (by omega), Option.bind_some]
    dsimp only
    rw [if_neg (by decide), keyed_eq k hk d _ _ (by decide), hN, hV]
  · have hv : (w.extract (eqI w + 1) w.size).size ≤ w.size := by rw [size_extract]; omega
    have hv2 := trimS_size (w.extract (eqI w + 1) w.size)
    have hw1 : wrap64 ((eqI w : Int) + (((⟨#[61]⟩ : ByteArray).size : Nat) : Int)) = ((eqI w + 1 : Nat) : Int) := by
      rw [show (((⟨#[61]⟩ : ByteArray).size : Nat) : Int) = 1 from rfl, wrap_id (by omega) (by omega)]; omega
    rw [if_neg h, hw1, if_pos (by omega), if_pos (by omega), if_pos (by omega), if_pos (by omega), if_pos (by omega), Int.toNat_natCast, Int.toNat_natCast]
    simp only [Option.bind_some]
    rw [impl_Trim_eq _ (by omega) k (by omega), Option.bind_some, impl_Unquote_eq _ (by omega) k (by omega), Option.bind_some, impl_Trim_eq _ (by omega) k (by omega), Option.bind_some]
    unfold impl_Fold.f
    rw [if_pos (by omega), Option.bind_some]
    have hV : (if (unq (trimS (w.extract (eqI w + 1) w.size))).2 = true then (unq (trimS (w.extract (eqI w + 1) w.size))).1 else trimS (w.extract (eqI w + 1) w.size)) = partV w := by unfold partV; rw [if_neg h]
    rw [hV, keyed_eq k hk d _ _ hpv]
    rfl
theorem dirL0_eq (ws : List ByteArray) (hs : ∀ x ∈ ws, x.size ≤ 4000) (hl : ws.length ≤ 5000) : ∀ (r : List ByteArray) (k i : Nat) (d : DirD), ws.drop i = r → i ≤ ws.length → r.length + 9001 < k → dirL0 k ws d (i : Int) = some (r.foldl stepP d) := by
  intro r
  induction r with
  | nil =>
    intro k i d h hil hk
    obtain ⟨k, rfl⟩ : ∃ m, k = m + 1 := ⟨k - 1, by omega⟩
    have hi := List.drop_eq_nil_iff.mp h
    simp only [dirL0]
    rw [if_neg (by omega)]
    rfl
  | cons w r ih =>
    intro k i d h hil hk
    obtain ⟨k, rfl⟩ : ∃ m, k = m + 1 := ⟨k - 1, by omega⟩
    obtain ⟨hi, e1, h3⟩ := at_drop2 h
    have hw : wrap64 ((i : Int) + 1) = ((i + 1 : Nat) : Int) := by rw [wrap_id (by omega) (by omega)]; omega
    have hm : w ∈ ws := by
      have : w ∈ ws.drop i := by rw [h]; exact List.mem_cons_self ..
      exact List.mem_of_mem_drop this
    simp only [List.length_cons] at hk
    simp only [dirL0]
    rw [if_pos (by omega), if_pos (by omega), e1, dirWord_eq d w (hs w hm) k (by omega), Option.bind_some, hw]
    exact ih k (i + 1) _ h3 (by omega) (by omega)
def nocache : List UInt8 := [110, 111, 45, 99, 97, 99, 104, 101]
theorem dirL1_eq (ws : List ByteArray) (hs : ∀ x ∈ ws, x.size ≤ 4000) (hl : ws.length ≤ 5000) : ∀ (r : List ByteArray) (k i : Nat) (d : DirD), ws.drop i = r → i ≤ ws.length → r.length < k → dirL1 k ws d (i : Int) = some { d with b1 := d.b1 || r.any fun x => decide ((foldS x).toList = nocache) } := by
  intro r
  induction r with
  | nil =>
    intro k i d h hil hk
    obtain ⟨k, rfl⟩ : ∃ m, k = m + 1 := ⟨k - 1, by omega⟩
    have hi := List.drop_eq_nil_iff.mp h
    simp only [dirL1]
    rw [if_neg (by omega)]
    simp
  | cons w r ih =>
    intro k i d h hil hk
    obtain ⟨k, rfl⟩ : ∃ m, k = m + 1 := ⟨k - 1, by omega⟩
    obtain ⟨hi, e1, h3⟩ := at_drop2 h
    have hw : wrap64 ((i : Int) + 1) = ((i + 1 : Nat) : Int) := by rw [wrap_id (by omega) (by omega)]; omega
    have hm : w ∈ ws := by
      have : w ∈ ws.drop i := by rw [h]; exact List.mem_cons_self ..
      exact List.mem_of_mem_drop this
    have hws := hs w hm
    simp only [List.length_cons] at hk
    simp only [dirL1]
    unfold impl_Fold.f
    rw [if_pos (by omega), if_pos (by omega), e1, if_pos (by omega), Option.bind_some, hw, ih k (i + 1) _ h3 (by omega) (by omega)]
    by_cases hf : (foldS w).toList = ([110, 111, 45, 99, 97, 99, 104, 101] : List UInt8)
    · rw [if_pos hf]
      have : (foldS w).toList = nocache := hf
      simp [this]
    · rw [if_neg hf]
      have : ¬ (foldS w).toList = nocache := hf
      simp [this]
def firstP (name : List UInt8) : List ByteArray → ByteArray × Bool
  | [] => ((⟨#[]⟩ : ByteArray), false)
  | w :: r => if (partN w).toList = name then (partV w, true) else firstP name r
theorem firstP_size (name : List UInt8) : ∀ ws : List ByteArray, (∀ x ∈ ws, x.size ≤ 4000) → (firstP name ws).1.size ≤ 4000
  | [], _ => Nat.zero_le _
  | w :: r, h => by
    simp only [firstP]
    split
    · exact partV_size w (h w (List.mem_cons_self ..))
    · exact firstP_size name r fun x hx => h x (List.mem_cons_of_mem _ hx)
def numP (ws : List ByteArray) (name : List UInt8) (a b : Int) : Int := if (firstP name ws).2 = true then (if (deltaOf (firstP name ws).1).2 = true then (deltaOf (firstP name ws).1).1 else if (firstP name ws).1.toList = ([] : List UInt8) then a else b) else -1
theorem flag_fold (get : DirD → Bool) (name : List UInt8) (h : ∀ d n v, get (keyedP d n v) = (get d || decide (n.toList = name))) : ∀ (ws : List ByteArray) (d : DirD), get (ws.foldl stepP d) = (get d || (firstP name ws).2)
  | [], d => by simp [firstP]
  | w :: r, d => by
    simp only [List.foldl_cons, firstP]
    rw [flag_fold get name h r (stepP d w)]
    unfold stepP
    rw [h]
    by_cases hq : (partN w).toList = name
    · rw [if_pos hq]; simp [hq]
    · rw [if_neg hq]; simp [hq]
theorem flag2_fold (get : DirD → Bool) (n1 n2 : List UInt8) (h : ∀ d n v, get (keyedP d n v) = (get d || (decide (n.toList = n1) || decide (n.toList = n2)))) : ∀ (ws : List ByteArray) (d : DirD), get (ws.foldl stepP d) = (get d || ((firstP n1 ws).2 || (firstP n2 ws).2))
  | [], d => by simp [firstP]
  | w :: r, d => by
    simp only [List.foldl_cons, firstP]
    rw [flag2_fold get n1 n2 h r (stepP d w)]
    unfold stepP
    rw [h]
    by_cases hq : (partN w).toList = n1
    · rw [if_pos hq]; simp [hq]
    · rw [if_neg hq]
      by_cases hq2 : (partN w).toList = n2
      · rw [if_pos hq2]; simp [hq, hq2]
      · rw [if_neg hq2]; simp [hq, hq2]
theorem num_fold (get : DirD → Int) (name : List UInt8) (val : ByteArray → Int) (hv : ∀ v, 0 ≤ val v) (h : ∀ d n v, get (keyedP d n v) = if n.toList = name then setN (get d) (val v) else get d) : ∀ (ws : List ByteArray) (d : DirD), get (ws.foldl stepP d) = if get d < 0 then (if (firstP name ws).2 = true then val (firstP name ws).1 else get d) else get d := by
  intro ws
  induction ws with
  | nil => intro d; simp [firstP]
  | cons w r ih =>
    intro d
    have h1 : get (stepP d w) = if (partN w).toList = name then setN (get d) (val (partV w)) else get d := h d (partN w) (partV w)
    rw [List.foldl_cons, ih (stepP d w), h1]
    simp only [firstP]
    have h2 := hv (partV w)
    generalize hm : val (partV w) = m at h2 ⊢
    by_cases hq : (partN w).toList = name
    · rw [if_pos hq]
      simp only [if_pos hq]
      unfold setN
      by_cases hd : get d < 0
      · have e1 : (if get d < 0 then m else get d) = m := if_pos hd
        rw [e1, if_neg (by omega), if_pos hd]
        simp [hm]
      · rw [if_neg hd, if_neg hd, if_neg hd]
    · rw [if_neg hq]
      simp only [if_neg hq]
theorem keyed_b0 (d : DirD) (n v : ByteArray) : (keyedP d n v).b0 = (d.b0 || decide (n.toList = ([110, 111, 45, 115, 116, 111, 114, 101] : List UInt8))) := by
  unfold keyedP
  by_cases h0 : n.toList = ([110, 111, 45, 115, 116, 111, 114, 101] : List UInt8)
  · rw [if_pos h0, decide_eq_true h0, Bool.or_true]
  rw [if_neg h0]
  by_cases h1 : n.toList = ([110, 111, 45, 99, 97, 99, 104, 101] : List UInt8)
  · rw [if_pos h1, h1, decide_eq_false (by decide), Bool.or_false]
  rw [if_neg h1]
  by_cases h2 : n.toList = ([112, 114, 105, 118, 97, 116, 101] : List UInt8)
  · rw [if_pos h2, h2, decide_eq_false (by decide), Bool.or_false]
  rw [if_neg h2]
  by_cases h3 : n.toList = ([112, 117, 98, 108, 105, 99] : List UInt8)
  · rw [if_pos h3, h3, decide_eq_false (by decide), Bool.or_false]
  rw [if_neg h3]
  by_cases h4 : n.toList = ([111, 110, 108, 121, 45, 105, 102, 45, 99, 97, 99, 104, 101, 100] : List UInt8)
  · rw [if_pos h4, h4, decide_eq_false (by decide), Bool.or_false]
  rw [if_neg h4]
  by_cases h5 : n.toList = ([109, 117, 115, 116, 45, 114, 101, 118, 97, 108, 105, 100, 97, 116, 101] : List UInt8)
  · rw [if_pos h5, h5, decide_eq_false (by decide), Bool.or_false]
  rw [if_neg h5]
  by_cases h6 : n.toList = ([112, 114, 111, 120, 121, 45, 114, 101, 118, 97, 108, 105, 100, 97, 116, 101] : List UInt8)
  · rw [if_pos h6, h6, decide_eq_false (by decide), Bool.or_false]
  rw [if_neg h6]
  by_cases h7 : n.toList = ([109, 97, 120, 45, 97, 103, 101] : List UInt8)
  · rw [if_pos h7, h7, decide_eq_false (by decide), Bool.or_false]
  rw [if_neg h7]
  by_cases h8 : n.toList = ([115, 45, 109, 97, 120, 97, 103, 101] : List UInt8)
  · rw [if_pos h8, h8, decide_eq_false (by decide), Bool.or_false]
  rw [if_neg h8]
  by_cases h9 : n.toList = ([109, 97, 120, 45, 115, 116, 97, 108, 101] : List UInt8)
  · rw [if_pos h9, h9, decide_eq_false (by decide), Bool.or_false]
  rw [if_neg h9]
  by_cases h10 : n.toList = ([109, 105, 110, 45, 102, 114, 101, 115, 104] : List UInt8)
  · rw [if_pos h10, h10, decide_eq_false (by decide), Bool.or_false]
  rw [if_neg h10]
  rw [decide_eq_false h0, Bool.or_false]
theorem keyed_b1 (d : DirD) (n v : ByteArray) : (keyedP d n v).b1 = (d.b1 || decide (n.toList = ([110, 111, 45, 99, 97, 99, 104, 101] : List UInt8))) := by
  unfold keyedP
  by_cases h0 : n.toList = ([110, 111, 45, 115, 116, 111, 114, 101] : List UInt8)
  · rw [if_pos h0, h0, decide_eq_false (by decide), Bool.or_false]
  rw [if_neg h0]
  by_cases h1 : n.toList = ([110, 111, 45, 99, 97, 99, 104, 101] : List UInt8)
  · rw [if_pos h1, decide_eq_true h1, Bool.or_true]
  rw [if_neg h1]
  by_cases h2 : n.toList = ([112, 114, 105, 118, 97, 116, 101] : List UInt8)
  · rw [if_pos h2, h2, decide_eq_false (by decide), Bool.or_false]
  rw [if_neg h2]
  by_cases h3 : n.toList = ([112, 117, 98, 108, 105, 99] : List UInt8)
  · rw [if_pos h3, h3, decide_eq_false (by decide), Bool.or_false]
  rw [if_neg h3]
  by_cases h4 : n.toList = ([111, 110, 108, 121, 45, 105, 102, 45, 99, 97, 99, 104, 101, 100] : List UInt8)
  · rw [if_pos h4, h4, decide_eq_false (by decide), Bool.or_false]
  rw [if_neg h4]
  by_cases h5 : n.toList = ([109, 117, 115, 116, 45, 114, 101, 118, 97, 108, 105, 100, 97, 116, 101] : List UInt8)
  · rw [if_pos h5, h5, decide_eq_false (by decide), Bool.or_false]
  rw [if_neg h5]
  by_cases h6 : n.toList = ([112, 114, 111, 120, 121, 45, 114, 101, 118, 97, 108, 105, 100, 97, 116, 101] : List UInt8)
  · rw [if_pos h6, h6, decide_eq_false (by decide), Bool.or_false]
  rw [if_neg h6]
  by_cases h7 : n.toList = ([109, 97, 120, 45, 97, 103, 101] : List UInt8)
  · rw [if_pos h7, h7, decide_eq_false (by decide), Bool.or_false]
  rw [if_neg h7]
  by_cases h8 : n.toList = ([115, 45, 109, 97, 120, 97, 103, 101] : List UInt8)
  · rw [if_pos h8, h8, decide_eq_false (by decide), Bool.or_false]
  rw [if_neg h8]
  by_cases h9 : n.toList = ([109, 97, 120, 45, 115, 116, 97, 108, 101] : List UInt8)
  · rw [if_pos h9, h9, decide_eq_false (by decide), Bool.or_false]
  rw [if_neg h9]
  by_cases h10 : n.toList = ([109, 105, 110, 45, 102, 114, 101, 115, 104] : List UInt8)
  · rw [if_pos h10, h10, decide_eq_false (by decide), Bool.or_false]
  rw [if_neg h10]
  rw [decide_eq_false h1, Bool.or_false]
theorem keyed_b2 (d : DirD) (n v : ByteArray) : (keyedP d n v).b2 = (d.b2 || decide (n.toList = ([112, 114, 105, 118, 97, 116, 101] : List UInt8))) := by
  unfold keyedP
  by_cases h0 : n.toList = ([110, 111, 45, 115, 116, 111, 114, 101] : List UInt8)
  · rw [if_pos h0, h0, decide_eq_false (by decide), Bool.or_false]
  rw [if_neg h0]
  by_cases h1 : n.toList = ([110, 111, 45, 99, 97, 99, 104, 101] : List UInt8)
  · rw [if_pos h1, h1, decide_eq_false (by decide), Bool.or_false]
  rw [if_neg h1]
  by_cases h2 : n.toList = ([112, 114, 105, 118, 97, 116, 101] : List UInt8)
  · rw [if_pos h2, decide_eq_true h2, Bool.or_true]
  rw [if_neg h2]
  by_cases h3 : n.toList = ([112, 117, 98, 108, 105, 99] : List UInt8)
  · rw [if_pos h3, h3, decide_eq_false (by decide), Bool.or_false]
  rw [if_neg h3]
  by_cases h4 : n.toList = ([111, 110, 108, 121, 45, 105, 102, 45, 99, 97, 99, 104, 101, 100] : List UInt8)
  · rw [if_pos h4, h4, decide_eq_false (by decide), Bool.or_false]
  rw [if_neg h4]
  by_cases h5 : n.toList = ([109, 117, 115, 116, 45, 114, 101, 118, 97, 108, 105, 100, 97, 116, 101] : List UInt8)
  · rw [if_pos h5, h5, decide_eq_false (by decide), Bool.or_false]
  rw [if_neg h5]
  by_cases h6 : n.toList = ([112, 114, 111, 120, 121, 45, 114, 101, 118, 97, 108, 105, 100, 97, 116, 101] : List UInt8)
  · rw [if_pos h6, h6, decide_eq_false (by decide), Bool.or_false]
  rw [if_neg h6]
  by_cases h7 : n.toList = ([109, 97, 120, 45, 97, 103, 101] : List UInt8)
  · rw [if_pos h7, h7, decide_eq_false (by decide), Bool.or_false]
  rw [if_neg h7]
  by_cases h8 : n.toList = ([115, 45, 109, 97, 120, 97, 103, 101] : List UInt8)
  · rw [if_pos h8, h8, decide_eq_false (by decide), Bool.or_false]
  rw [if_neg h8]
  by_cases h9 : n.toList = ([109, 97, 120, 45, 115, 116, 97, 108, 101] : List UInt8)
  · rw [if_pos h9, h9, decide_eq_false (by decide), Bool.or_false]
  rw [if_neg h9]
  by_cases h10 : n.toList = ([109, 105, 110, 45, 102, 114, 101, 115, 104] : List UInt8)
  · rw [if_pos h10, h10, decide_eq_false (by decide), Bool.or_false]
  rw [if_neg h10]
  rw [decide_eq_false h2, Bool.or_false]
theorem keyed_b3 (d : DirD) (n v : ByteArray) : (keyedP d n v).b3 = (d.b3 || decide (n.toList = ([112, 117, 98, 108, 105, 99] : List UInt8))) := by
  unfold keyedP
  by_cases h0 : n.toList = ([110, 111, 45, 115, 116, 111, 114, 101] : List UInt8)
  · rw [if_pos h0, h0, decide_eq_false (by decide), Bool.or_false]
  rw [if_neg h0]
  by_cases h1 : n.toList = ([110, 111, 45, 99, 97, 99, 104, 101] : List UInt8)
  · rw [if_pos h1, h1, decide_eq_false (by decide), Bool.or_false]
  rw [if_neg h1]
  by_cases h2 : n.toList = ([112, 114, 105, 118, 97, 116, 101] : List UInt8)
  · rw [if_pos h2, h2, decide_eq_false (by decide), Bool.or_false]
  rw [if_neg h2]
  by_cases h3 : n.toList = ([112, 117, 98, 108, 105, 99] : List UInt8)
  · rw [if_pos h3, decide_eq_true h3, Bool.or_true]
  rw [if_neg h3]
  by_cases h4 : n.toList = ([111, 110, 108, 121, 45, 105, 102, 45, 99, 97, 99, 104, 101, 100] : List UInt8)
  · rw [if_pos h4, h4, decide_eq_false (by decide), Bool.or_false]
  rw [if_neg h4]
  by_cases h5 : n.toList = ([109, 117, 115, 116, 45, 114, 101, 118, 97, 108, 105, 100, 97, 116, 101] : List UInt8)
  · rw [if_pos h5, h5, decide_eq_false (by decide), Bool.or_false]
  rw [if_neg h5]
  by_cases h6 : n.toList = ([112, 114, 111, 120, 121, 45, 114, 101, 118, 97, 108, 105, 100, 97, 116, 101] : List UInt8)
  · rw [if_pos h6, h6, decide_eq_false (by decide), Bool.or_false]
  rw [if_neg h6]
  by_cases h7 : n.toList = ([109, 97, 120, 45, 97, 103, 101] : List UInt8)
  · rw [if_pos h7, h7, decide_eq_false (by decide), Bool.or_false]
  rw [if_neg h7]
  by_cases h8 : n.toList = ([115, 45, 109, 97, 120, 97, 103, 101] : List UInt8)
  · rw [if_pos h8, h8, decide_eq_false (by decide), Bool.or_false]
  rw [if_neg h8]
  by_cases h9 : n.toList = ([109, 97, 120, 45, 115, 116, 97, 108, 101] : List UInt8)
  · rw [if_pos h9, h9, decide_eq_false (by decide), Bool.or_false]
  rw [if_neg h9]
  by_cases h10 : n.toList = ([109, 105, 110, 45, 102, 114, 101, 115, 104] : List UInt8)
  · rw [if_pos h10, h10, decide_eq_false (by decide), Bool.or_false]
  rw [if_neg h10]
  rw [decide_eq_false h3, Bool.or_false]
theorem keyed_b5 (d : DirD) (n v : ByteArray) : (keyedP d n v).b5 = (d.b5 || decide (n.toList = ([111, 110, 108, 121, 45, 105, 102, 45, 99, 97, 99, 104, 101, 100] : List UInt8))) := by
  unfold keyedP
  by_cases h0 : n.toList = ([110, 111, 45, 115, 116, 111, 114, 101] : List UInt8)
  · rw [if_pos h0, h0, decide_eq_false (by decide), Bool.or_false]
  rw [if_neg h0]
  by_cases h1 : n.toList = ([110, 111, 45, 99, 97, 99, 104, 101] : List UInt8)
  · rw [if_pos h1, h1, decide_eq_false (by decide), Bool.or_false]
  rw [if_neg h1]
  by_cases h2 : n.toList = ([112, 114, 105, 118, 97, 116, 101] : List UInt8)
  · rw [if_pos h2, h2, decide_eq_false (by decide), Bool.or_false]
  rw [if_neg h2]
  by_cases h3 : n.toList = ([112, 117, 98, 108, 105, 99] : List UInt8)
  · rw [if_pos h3, h3, decide_eq_false (by decide), Bool.or_false]
  rw [if_neg h3]
  by_cases h4 : n.toList = ([111, 110, 108, 121, 45, 105, 102, 45, 99, 97, 99, 104, 101, 100] : List UInt8)
  · rw [if_pos h4, decide_eq_true h4, Bool.or_true]
  rw [if_neg h4]
  by_cases h5 : n.toList = ([109, 117, 115, 116, 45, 114, 101, 118, 97, 108, 105, 100, 97, 116, 101] : List UInt8)
  · rw [if_pos h5, h5, decide_eq_false (by decide), Bool.or_false]
  rw [if_neg h5]
  by_cases h6 : n.toList = ([112, 114, 111, 120, 121, 45, 114, 101, 118, 97, 108, 105, 100, 97, 116, 101] : List UInt8)
  · rw [if_pos h6, h6, decide_eq_false (by decide), Bool.or_false]
  rw [if_neg h6]
  by_cases h7 : n.toList = ([109, 97, 120, 45, 97, 103, 101] : List UInt8)
  · rw [if_pos h7, h7, decide_eq_false (by decide), Bool.or_false]
  rw [if_neg h7]
  by_cases h8 : n.toList = ([115, 45, 109, 97, 120, 97, 103, 101] : List UInt8)
  · rw [if_pos h8, h8, decide_eq_false (by decide), Bool.or_false]
  rw [if_neg h8]
  by_cases h9 : n.toList = ([109, 97, 120, 45, 115, 116, 97, 108, 101] : List UInt8)
  · rw [if_pos h9, h9, decide_eq_false (by decide), Bool.or_false]
  rw [if_neg h9]
  by_cases h10 : n.toList = ([109, 105, 110, 45, 102, 114, 101, 115, 104] : List UInt8)
  · rw [if_pos h10, h10, decide_eq_false (by decide), Bool.or_false]
  rw [if_neg h10]
  rw [decide_eq_false h4, Bool.or_false]
theorem keyed_b4 (d : DirD) (n v : ByteArray) : (keyedP d n v).b4 = (d.b4 || (decide (n.toList = ([109, 117, 115, 116, 45, 114, 101, 118, 97, 108, 105, 100, 97, 116, 101] : List UInt8)) || decide (n.toList = ([112, 114, 111, 120, 121, 45, 114, 101, 118, 97, 108, 105, 100, 97, 116, 101] : List UInt8)))) := by
  unfold keyedP
  by_cases h0 : n.toList = ([110, 111, 45, 115, 116, 111, 114, 101] : List UInt8)
  · rw [if_pos h0, h0, decide_eq_false (by decide), decide_eq_false (by decide), Bool.or_false, Bool.or_false]
  rw [if_neg h0]
  by_cases h1 : n.toList = ([110, 111, 45, 99, 97, 99, 104, 101] : List UInt8)
  · rw [if_pos h1, h1, decide_eq_false (by decide), decide_eq_false (by decide), Bool.or_false, Bool.or_false]
  rw [if_neg h1]
  by_cases h2 : n.toList = ([112, 114, 105, 118, 97, 116, 101] : List UInt8)
  · rw [if_pos h2, h2, decide_eq_false (by decide), decide_eq_false (by decide), Bool.or_false, Bool.or_false]
  rw [if_neg h2]
  by_cases h3 : n.toList = ([112, 117, 98, 108, 105, 99] : List UInt8)
  · rw [if_pos h3, h3, decide_eq_false (by decide), decide_eq_false (by decide), Bool.or_false, Bool.or_false]
  rw [if_neg h3]
  by_cases h4 : n.toList = ([111, 110, 108, 121, 45, 105, 102, 45, 99, 97, 99, 104, 101, 100] : List UInt8)
  · rw [if_pos h4, h4, decide_eq_false (by decide), decide_eq_false (by decide), Bool.or_false, Bool.or_false]
  rw [if_neg h4]
  by_cases h5 : n.toList = ([109, 117, 115, 116, 45, 114, 101, 118, 97, 108, 105, 100, 97, 116, 101] : List UInt8)
  · rw [if_pos h5, decide_eq_true h5, Bool.true_or, Bool.or_true]
  rw [if_neg h5]
  by_cases h6 : n.toList = ([112, 114, 111, 120, 121, 45, 114, 101, 118, 97, 108, 105, 100, 97, 116, 101] : List UInt8)
  · rw [if_pos h6, decide_eq_true h6, Bool.or_true, Bool.or_true]
  rw [if_neg h6]
  by_cases h7 : n.toList = ([109, 97, 120, 45, 97, 103, 101] : List UInt8)
  · rw [if_pos h7, h7, decide_eq_false (by decide), decide_eq_false (by decide), Bool.or_false, Bool.or_false]
  rw [if_neg h7]
  by_cases h8 : n.toList = ([115, 45, 109, 97, 120, 97, 103, 101] : List UInt8)
  · rw [if_pos h8, h8, decide_eq_false (by decide), decide_eq_false (by decide), Bool.or_false, Bool.or_false]
  rw [if_neg h8]
  by_cases h9 : n.toList = ([109, 97, 120, 45, 115, 116, 97, 108, 101] : List UInt8)
  · rw [if_pos h9, h9, decide_eq_false (by decide), decide_eq_false (by decide), Bool.or_false, Bool.or_false]
  rw [if_neg h9]
  by_cases h10 : n.toList = ([109, 105, 110, 45, 102, 114, 101, 115, 104] : List UInt8)
  · rw [if_pos h10, h10, decide_eq_false (by decide), decide_eq_false (by decide), Bool.or_false, Bool.or_false]
  rw [if_neg h10]
  rw [decide_eq_false h5, decide_eq_false h6, Bool.or_false, Bool.or_false]
theorem keyed_n6 (d : DirD) (n v : ByteArray) : (keyedP d n v).n6 = if n.toList = ([109, 97, 120, 45, 97, 103, 101] : List UInt8) then setN d.n6 (dval0 v 0) else d.n6 := by
  unfold keyedP
  by_cases h0 : n.toList = ([110, 111, 45, 115, 116, 111, 114, 101] : List UInt8)
  · rw [if_pos h0, if_neg (show ¬ n.toList = ([109, 97, 120, 45, 97, 103, 101] : List UInt8) by rw [h0]; decide)]
  rw [if_neg h0]
  by_cases h1 : n.toList = ([110, 111, 45, 99, 97, 99, 104, 101] : List UInt8)
  · rw [if_pos h1, if_neg (show ¬ n.toList = ([109, 97, 120, 45, 97, 103, 101] : List UInt8) by rw [h1]; decide)]
  rw [if_neg h1]
  by_cases h2 : n.toList = ([112, 114, 105, 118, 97, 116, 101] : List UInt8)
  · rw [if_pos h2, if_neg (show ¬ n.toList = ([109, 97, 120, 45, 97, 103, 101] : List UInt8) by rw [h2]; decide)]
  rw [if_neg h2]
  by_cases h3 : n.toList = ([112, 117, 98, 108, 105, 99] : List UInt8)
  · rw [if_pos h3, if_neg (show ¬ n.toList = ([109, 97, 120, 45, 97, 103, 101] : List UInt8) by rw [h3]; decide)]
  rw [if_neg h3]
  by_cases h4 : n.toList = ([111, 110, 108, 121, 45, 105, 102, 45, 99, 97, 99, 104, 101, 100] : List UInt8)
  · rw [if_pos h4, if_neg (show ¬ n.toList = ([109, 97, 120, 45, 97, 103, 101] : List UInt8) by rw [h4]; decide)]
  rw [if_neg h4]
  by_cases h5 : n.toList = ([109, 117, 115, 116, 45, 114, 101, 118, 97, 108, 105, 100, 97, 116, 101] : List UInt8)
  · rw [if_pos h5, if_neg (show ¬ n.toList = ([109, 97, 120, 45, 97, 103, 101] : List UInt8) by rw [h5]; decide)]
  rw [if_neg h5]
  by_cases h6 : n.toList = ([112, 114, 111, 120, 121, 45, 114, 101, 118, 97, 108, 105, 100, 97, 116, 101] : List UInt8)
  · rw [if_pos h6, if_neg (show ¬ n.toList = ([109, 97, 120, 45, 97, 103, 101] : List UInt8) by rw [h6]; decide)]
  rw [if_neg h6]
  by_cases h7 : n.toList = ([109, 97, 120, 45, 97, 103, 101] : List UInt8)
  · rw [if_pos h7, if_pos h7]
  rw [if_neg h7]
  by_cases h8 : n.toList = ([115, 45, 109, 97, 120, 97, 103, 101] : List UInt8)
  · rw [if_pos h8, if_neg (show ¬ n.toList = ([109, 97, 120, 45, 97, 103, 101] : List UInt8) by rw [h8]; decide)]
  rw [if_neg h8]
  by_cases h9 : n.toList = ([109, 97, 120, 45, 115, 116, 97, 108, 101] : List UInt8)
  · rw [if_pos h9, if_neg (show ¬ n.toList = ([109, 97, 120, 45, 97, 103, 101] : List UInt8) by rw [h9]; decide)]
  rw [if_neg h9]
  by_cases h10 : n.toList = ([109, 105, 110, 45, 102, 114, 101, 115, 104] : List UInt8)
  · rw [if_pos h10, if_neg (show ¬ n.toList = ([109, 97, 120, 45, 97, 103, 101] : List UInt8) by rw [h10]; decide)]
  rw [if_neg h10]
  rw [if_neg h7]
theorem keyed_n7 (d : DirD) (n v : ByteArray) : (keyedP d n v).n7 = if n.toList = ([115, 45, 109, 97, 120, 97, 103, 101] : List UInt8) then setN d.n7 (dval0 v 0) else d.n7 := by
  unfold keyedP
  by_cases h0 : n.toList = ([110, 111, 45, 115, 116, 111, 114, 101] : List UInt8)
  · rw [if_pos h0, if_neg (show ¬ n.toList = ([115, 45, 109, 97, 120, 97, 103, 101] : List UInt8) by rw [h0]; decide)]
  rw [if_neg h0]
  by_cases h1 : n.toList = ([110, 111, 45, 99, 97, 99, 104, 101] : List UInt8)
  · rw [if_pos h1, if_neg (show ¬ n.toList = ([115, 45, 109, 97, 120, 97, 103, 101] : List UInt8) by rw [h1]; decide)]
  rw [if_neg h1]
  by_cases h2 : n.toList = ([112, 114, 105, 118, 97, 116, 101] : List UInt8)
  · rw [if_pos h2, if_neg (show ¬ n.toList = ([115, 45, 109, 97, 120, 97, 103, 101] : List UInt8) by rw [h2]; decide)]
  rw [if_neg h2]
  by_cases h3 : n.toList = ([112, 117, 98, 108, 105, 99] : List UInt8)
  · rw [if_pos h3, if_neg (show ¬ n.toList = ([115, 45, 109, 97, 120, 97, 103, 101] : List UInt8) by rw [h3]; decide)]
  rw [if_neg h3]
  by_cases h4 : n.toList = ([111, 110, 108, 121, 45, 105, 102, 45, 99, 97, 99, 104, 101, 100] : List UInt8)
  · rw [if_pos h4, if_neg (show ¬ n.toList = ([115, 45, 109, 97, 120, 97, 103, 101] : List UInt8) by rw [h4]; decide)]
  rw [if_neg h4]
  by_cases h5 : n.toList = ([109, 117, 115, 116, 45, 114, 101, 118, 97, 108, 105, 100, 97, 116, 101] : List UInt8)
  · rw [if_pos h5, if_neg (show ¬ n.toList = ([115, 45, 109, 97, 120, 97, 103, 101] : List UInt8) by rw [h5]; decide)]
  rw [if_neg h5]
  by_cases h6 : n.toList = ([112, 114, 111, 120, 121, 45, 114, 101, 118, 97, 108, 105, 100, 97, 116, 101] : List UInt8)
  · rw [if_pos h6, if_neg (show ¬ n.toList = ([115, 45, 109, 97, 120, 97, 103, 101] : List UInt8) by rw [h6]; decide)]
  rw [if_neg h6]
  by_cases h7 : n.toList = ([109, 97, 120, 45, 97, 103, 101] : List UInt8)
  · rw [if_pos h7, if_neg (show ¬ n.toList = ([115, 45, 109, 97, 120, 97, 103, 101] : List UInt8) by rw [h7]; decide)]
  rw [if_neg h7]
  by_cases h8 : n.toList = ([115, 45, 109, 97, 120, 97, 103, 101] : List UInt8)
  · rw [if_pos h8, if_pos h8]
  rw [if_neg h8]
  by_cases h9 : n.toList = ([109, 97, 120, 45, 115, 116, 97, 108, 101] : List UInt8)
  · rw [if_pos h9, if_neg (show ¬ n.toList = ([115, 45, 109, 97, 120, 97, 103, 101] : List UInt8) by rw [h9]; decide)]
  rw [if_neg h9]
  by_cases h10 : n.toList = ([109, 105, 110, 45, 102, 114, 101, 115, 104] : List UInt8)
  · rw [if_pos h10, if_neg (show ¬ n.toList = ([115, 45, 109, 97, 120, 97, 103, 101] : List UInt8) by rw [h10]; decide)]
  rw [if_neg h10]
  rw [if_neg h8]
theorem keyed_n8 (d : DirD) (n v : ByteArray) : (keyedP d n v).n8 = if n.toList = ([109, 97, 120, 45, 115, 116, 97, 108, 101] : List UInt8) then setN d.n8 (if v.toList = ([] : List UInt8) then 2147483648 else dval0 v 0) else d.n8 := by
  unfold keyedP
  by_cases h0 : n.toList = ([110, 111, 45, 115, 116, 111, 114, 101] : List UInt8)
  · rw [if_pos h0, if_neg (show ¬ n.toList = ([109, 97, 120, 45, 115, 116, 97, 108, 101] : List UInt8) by rw [h0]; decide)]
  rw [if_neg h0]
  by_cases h1 : n.toList = ([110, 111, 45, 99, 97, 99, 104, 101] : List UInt8)
  · rw [if_pos h1, if_neg (show ¬ n.toList = ([109, 97, 120, 45, 115, 116, 97, 108, 101] : List UInt8) by rw [h1]; decide)]
  rw [if_neg h1]
  by_cases h2 : n.toList = ([112, 114, 105, 118, 97, 116, 101] : List UInt8)
  · rw [if_pos h2, if_neg (show ¬ n.toList = ([109, 97, 120, 45, 115, 116, 97, 108, 101] : List UInt8) by rw [h2]; decide)]
  rw [if_neg h2]
  by_cases h3 : n.toList = ([112, 117, 98, 108, 105, 99] : List UInt8)
  · rw [if_pos h3, if_neg (show ¬ n.toList = ([109, 97, 120, 45, 115, 116, 97, 108, 101] : List UInt8) by rw [h3]; decide)]
  rw [if_neg h3]
  by_cases h4 : n.toList = ([111, 110, 108, 121, 45, 105, 102, 45, 99, 97, 99, 104, 101, 100] : List UInt8)
  · rw [if_pos h4, if_neg (show ¬ n.toList = ([109, 97, 120, 45, 115, 116, 97, 108, 101] : List UInt8) by rw [h4]; decide)]
  rw [if_neg h4]
  by_cases h5 : n.toList = ([109, 117, 115, 116, 45, 114, 101, 118, 97, 108, 105, 100, 97, 116, 101] : List UInt8)
  · rw [if_pos h5, if_neg (show ¬ n.toList = ([109, 97, 120, 45, 115, 116, 97, 108, 101] : List UInt8) by rw [h5]; decide)]
  rw [if_neg h5]
  by_cases h6 : n.toList = ([112, 114, 111, 120, 121, 45, 114, 101, 118, 97, 108, 105, 100, 97, 116, 101] : List UInt8)
  · rw [if_pos h6, if_neg (show ¬ n.toList = ([109, 97, 120, 45, 115, 116, 97, 108, 101] : List UInt8) by rw [h6]; decide)]
  rw [if_neg h6]
  by_cases h7 : n.toList = ([109, 97, 120, 45, 97, 103, 101] : List UInt8)
  · rw [if_pos h7, if_neg (show ¬ n.toList = ([109, 97, 120, 45, 115, 116, 97, 108, 101] : List UInt8) by rw [h7]; decide)]
  rw [if_neg h7]
  by_cases h8 : n.toList = ([115, 45, 109, 97, 120, 97, 103, 101] : List UInt8)
  · rw [if_pos h8, if_neg (show ¬ n.toList = ([109, 97, 120, 45, 115, 116, 97, 108, 101] : List UInt8) by rw [h8]; decide)]
  rw [if_neg h8]
  by_cases h9 : n.toList = ([109, 97, 120, 45, 115, 116, 97, 108, 101] : List UInt8)
  · rw [if_pos h9, if_pos h9]
  rw [if_neg h9]
  by_cases h10 : n.toList = ([109, 105, 110, 45, 102, 114, 101, 115, 104] : List UInt8)
  · rw [if_pos h10, if_neg (show ¬ n.toList = ([109, 97, 120, 45, 115, 116, 97, 108, 101] : List UInt8) by rw [h10]; decide)]
  rw [if_neg h10]
  rw [if_neg h9]
theorem keyed_n9 (d : DirD) (n v : ByteArray) : (keyedP d n v).n9 = if n.toList = ([109, 105, 110, 45, 102, 114, 101, 115, 104] : List UInt8) then setN d.n9 (dval0 v 2147483648) else d.n9 := by
  unfold keyedP
  by_cases h0 : n.toList = ([110, 111, 45, 115, 116, 111, 114, 101] : List UInt8)
  · rw [if_pos h0, if_neg (show ¬ n.toList = ([109, 105, 110, 45, 102, 114, 101, 115, 104] : List UInt8) by rw [h0]; decide)]
  rw [if_neg h0]
  by_cases h1 : n.toList = ([110, 111, 45, 99, 97, 99, 104, 101] : List UInt8)
  · rw [if_pos h1, if_neg (show ¬ n.toList = ([109, 105, 110, 45, 102, 114, 101, 115, 104] : List UInt8) by rw [h1]; decide)]
  rw [if_neg h1]
  by_cases h2 : n.toList = ([112, 114, 105, 118, 97, 116, 101] : List UInt8)
  · rw [if_pos h2, if_neg (show ¬ n.toList = ([109, 105, 110, 45, 102, 114, 101, 115, 104] : List UInt8) by rw [h2]; decide)]
  rw [if_neg h2]
  by_cases h3 : n.toList = ([112, 117, 98, 108, 105, 99] : List UInt8)
  · rw [if_pos h3, if_neg (show ¬ n.toList = ([109, 105, 110, 45, 102, 114, 101, 115, 104] : List UInt8) by rw [h3]; decide)]
  rw [if_neg h3]
  by_cases h4 : n.toList = ([111, 110, 108, 121, 45, 105, 102, 45, 99, 97, 99, 104, 101, 100] : List UInt8)
  · rw [if_pos h4, if_neg (show ¬ n.toList = ([109, 105, 110, 45, 102, 114, 101, 115, 104] : List UInt8) by rw [h4]; decide)]
  rw [if_neg h4]
  by_cases h5 : n.toList = ([109, 117, 115, 116, 45, 114, 101, 118, 97, 108, 105, 100, 97, 116, 101] : List UInt8)
  · rw [if_pos h5, if_neg (show ¬ n.toList = ([109, 105, 110, 45, 102, 114, 101, 115, 104] : List UInt8) by rw [h5]; decide)]
  rw [if_neg h5]
  by_cases h6 : n.toList = ([112, 114, 111, 120, 121, 45, 114, 101, 118, 97, 108, 105, 100, 97, 116, 101] : List UInt8)
  · rw [if_pos h6, if_neg (show ¬ n.toList = ([109, 105, 110, 45, 102, 114, 101, 115, 104] : List UInt8) by rw [h6]; decide)]
  rw [if_neg h6]
  by_cases h7 : n.toList = ([109, 97, 120, 45, 97, 103, 101] : List UInt8)
  · rw [if_pos h7, if_neg (show ¬ n.toList = ([109, 105, 110, 45, 102, 114, 101, 115, 104] : List UInt8) by rw [h7]; decide)]
  rw [if_neg h7]
  by_cases h8 : n.toList = ([115, 45, 109, 97, 120, 97, 103, 101] : List UInt8)
  · rw [if_pos h8, if_neg (show ¬ n.toList = ([109, 105, 110, 45, 102, 114, 101, 115, 104] : List UInt8) by rw [h8]; decide)]
  rw [if_neg h8]
  by_cases h9 : n.toList = ([109, 97, 120, 45, 115, 116, 97, 108, 101] : List UInt8)
  · rw [if_pos h9, if_neg (show ¬ n.toList = ([109, 105, 110, 45, 102, 114, 101, 115, 104] : List UInt8) by rw [h9]; decide)]
  rw [if_neg h9]
  by_cases h10 : n.toList = ([109, 105, 110, 45, 102, 114, 101, 115, 104] : List UInt8)
  · rw [if_pos h10, if_pos h10]
  rw [if_neg h10]
  rw [if_neg h10]
def specP (ws : List ByteArray) : DirD :=
  ⟨(firstP [110, 111, 45, 115, 116, 111, 114, 101] ws).2, (firstP [110, 111, 45, 99, 97, 99, 104, 101] ws).2, (firstP [112, 114, 105, 118, 97, 116, 101] ws).2, (firstP [112, 117, 98, 108, 105, 99] ws).2,
   (firstP [109, 117, 115, 116, 45, 114, 101, 118, 97, 108, 105, 100, 97, 116, 101] ws).2 || (firstP [112, 114, 111, 120, 121, 45, 114, 101, 118, 97, 108, 105, 100, 97, 116, 101] ws).2, (firstP [111, 110, 108, 121, 45, 105, 102, 45, 99, 97, 99, 104, 101, 100] ws).2,
   numP ws [109, 97, 120, 45, 97, 103, 101] 0 0, numP ws [115, 45, 109, 97, 120, 97, 103, 101] 0 0, numP ws [109, 97, 120, 45, 115, 116, 97, 108, 101] 2147483648 0, numP ws [109, 105, 110, 45, 102, 114, 101, 115, 104] 2147483648 2147483648⟩
theorem num_none (ws : List ByteArray) (name : List UInt8) (o : Int) : (if (firstP name ws).2 = true then dval0 (firstP name ws).1 o else (-1 : Int)) = numP ws name o o := by
  unfold numP dval0
  repeat' split
  all_goals rfl
theorem DirD.same : ∀ x y : DirD, x.b0 = y.b0 → x.b1 = y.b1 → x.b2 = y.b2 → x.b3 = y.b3 → x.b4 = y.b4 → x.b5 = y.b5 → x.n6 = y.n6 → x.n7 = y.n7 → x.n8 = y.n8 → x.n9 = y.n9 → x = y
  | ⟨_, _, _, _, _, _, _, _, _, _⟩, ⟨_, _, _, _, _, _, _, _, _, _⟩, rfl, rfl, rfl, rfl, rfl, rfl, rfl, rfl, rfl, rfl => rfl
theorem num_stale (ws : List ByteArray) (name : List UInt8) : (if (firstP name ws).2 = true then (if (firstP name ws).1.toList = ([] : List UInt8) then 2147483648 else dval0 (firstP name ws).1 0) else (-1 : Int)) = numP ws name 2147483648 0 := by
  unfold numP dval0 deltaOf
  by_cases q1 : (firstP name ws).2 = true
  · rw [if_pos q1, if_pos q1]
    by_cases q2 : (firstP name ws).1.toList = ([] : List UInt8)
    · simp [q2]
    · simp only [if_neg q2]
  · rw [if_neg q1, if_neg q1]
theorem stale_nonneg (v : ByteArray) : 0 ≤ (if v.toList = ([] : List UInt8) then (2147483648 : Int) else dval0 v 0) := by
  split
  · decide
  · exact dval0_nonneg v 0 (by decide)
theorem fold_specP (ws : List ByteArray) : ws.foldl stepP dir0 = specP ws := by
  have hd : (-1 : Int) < 0 := by decide
  refine DirD.same _ _ ?_ ?_ ?_ ?_ ?_ ?_ ?_ ?_ ?_ ?_
  · exact (flag_fold DirD.b0 _ keyed_b0 ws dir0).trans (Bool.false_or _)
  · exact (flag_fold DirD.b1 _ keyed_b1 ws dir0).trans (Bool.false_or _)
  · exact (flag_fold DirD.b2 _ keyed_b2 ws dir0).trans (Bool.false_or _)
  · exact (flag_fold DirD.b3 _ keyed_b3 ws dir0).trans (Bool.false_or _)
  · exact (flag2_fold DirD.b4 _ _ keyed_b4 ws dir0).trans (Bool.false_or _)
  · exact (flag_fold DirD.b5 _ keyed_b5 ws dir0).trans (Bool.false_or _)
  · exact ((num_fold DirD.n6 _ (fun v => dval0 v 0) (fun v => dval0_nonneg v 0 (by decide)) keyed_n6 ws dir0).trans (if_pos hd)).trans (num_none ws _ 0)
  · exact ((num_fold DirD.n7 _ (fun v => dval0 v 0) (fun v => dval0_nonneg v 0 (by decide)) keyed_n7 ws dir0).trans (if_pos hd)).trans (num_none ws _ 0)
  · exact ((num_fold DirD.n8 _ (fun v => if v.toList = ([] : List UInt8) then 2147483648 else dval0 v 0) stale_nonneg keyed_n8 ws dir0).trans (if_pos hd)).trans (num_stale ws _)
  · exact ((num_fold DirD.n9 _ (fun v => dval0 v 2147483648) (fun v => dval0_nonneg v _ (by decide)) keyed_n9 ws dir0).trans (if_pos hd)).trans (num_none ws _ 2147483648)
theorem elS_small (s : ByteArray) (hs : s.size ≤ 4000) : ∀ (n d : Nat), d ≤ n → ∀ (out : List ByteArray) (a : Nat) (q : Bool) (i : Nat), (∀ x ∈ out, x.size ≤ 4000) → ∀ x ∈ elS s d out a q i, x.size ≤ 4000 := by
  have hadd : ∀ (out : List ByteArray) (a b : Nat), (∀ x ∈ out, x.size ≤ 4000) → ∀ x ∈ addS out (trimS (s.extract a b)), x.size ≤ 4000 := by
    intro out a b h x hx
    unfold addS at hx
    split at hx
    · exact h x hx
    · rcases List.mem_append.mp hx with h1 | h1
      · exact h x h1
      · rw [List.mem_singleton] at h1
        have h2 := trimS_size (s.extract a b)
        have h3 : (s.extract a b).size ≤ s.size := by rw [size_extract]; omega
        rw [h1]; omega
  intro n
  induction n with
  | zero =>
    intro d hdn out a q i h
    obtain rfl : d = 0 := by omega
    exact hadd out a s.size h
  | succ n ih =>
    intro d hdn out a q i h
    cases d with
    | zero => exact hadd out a s.size h
    | succ d =>
      rw [elS_succ]
      split
      · exact ih d (by omega) out a (!q) (i + 1) h
      · split
        · cases d with
          | zero => exact hadd out a s.size h
          | succ e => exact ih e (by omega) out a q (i + 2) h
        · split
          · exact ih d (by omega) _ (i + 1) q (i + 1) (hadd out a i h)
          · exact ih d (by omega) out a q (i + 1) h
theorem elementsOf_small (s : ByteArray) : ∀ x ∈ elementsOf s, x.size ≤ 4000 := by
  unfold elementsOf
  by_cases h : (s.size : Int) > 4000
  · rw [if_pos h]; intro x hx; cases hx
  · rw [if_neg h]
    exact elS_small s (by omega) s.size s.size (Nat.le_refl _) [] 0 false 0 (fun x hx => by cases hx)
theorem wordsOf_small (l : List FieldT) (a : ByteArray) : ∀ x ∈ wordsOf l a, x.size ≤ 4000 := elementsOf_small _
def ccB : ByteArray := (⟨#[99, 97, 99, 104, 101, 45, 99, 111, 110, 116, 114, 111, 108]⟩ : ByteArray)
def prB : ByteArray := (⟨#[112, 114, 97, 103, 109, 97]⟩ : ByteArray)
def dirsOfL (l : List FieldT) : DirD := if (valuesOf l ccB).length = 0 then { specP (wordsOf l ccB) with b1 := (specP (wordsOf l ccB)).b1 || (wordsOf l prB).any fun x => decide ((foldS x).toList = nocache) } else specP (wordsOf l ccB)
theorem none_words (l : List FieldT) (a : ByteArray) (h : fieldsOkB l = false) : wordsOf l a = [] := by
  have e1 : valuesOf l a = [] := by unfold valuesOf; rw [if_neg (by simp [h])]
  have e2 : (⟨(joinL []).toArray⟩ : ByteArray) = ⟨#[]⟩ := by unfold joinL; simp [Go.Lib.join_nil]
  unfold wordsOf joinedOf
  rw [e1, e2]
  unfold elementsOf
  rw [if_neg (by decide)]
  have h1 := trimS_size ((⟨#[]⟩ : ByteArray).extract 0 0)
  have h2 : ((⟨#[]⟩ : ByteArray).extract 0 0).size = 0 := by rw [size_extract]; rfl
  show addS [] (trimS ((⟨#[]⟩ : ByteArray).extract 0 0)) = []
  unfold addS
  rw [if_pos ((toList_nil _).2 (by omega))]
theorem impl_ReadDirs_eq (l : List FieldT) (k : Nat) (hk : 40000 < k) : impl_ReadDirs.f k l = some (dirsOfL l).tup := by
  have hc : ccB.size ≤ 140737488351232 := by decide
  have hp : prB.size ≤ 140737488351232 := by decide
  have hs := wordsOf_small l ccB
  have hl : (wordsOf l ccB).length ≤ 5000 := by have := wordsOf_length l ccB; omega
  have hs2 := wordsOf_small l prB
  have hl2 : (wordsOf l prB).length ≤ 5000 := by have := wordsOf_length l prB; omega
  unfold impl_ReadDirs.f
  change ((impl_Words.f k l ccB).bind _) = _
  rw [impl_Words_eq l ccB hc k (by omega), Option.bind_some]
  have h0 := dirL0_eq (wordsOf l ccB) hs hl (wordsOf l ccB) k 0 dir0 rfl (Nat.zero_le _) (by omega)
  rw [show ((0 : Nat) : Int) = 0 from rfl] at h0
  rw [h0, Option.bind_some, fold_specP, impl_FieldsOk_eq l k (by omega), Option.bind_some]
  cases hf : fieldsOkB l with
  | false =>
    have e1 : valuesOf l ccB = [] := by unfold valuesOf; rw [if_neg (by simp [hf])]
    rw [if_neg (by decide)]
    unfold dirsOfL
    rw [e1, if_pos (show ([] : List ByteArray).length = 0 from rfl), none_words l prB hf]
    simp
  | true =>
    rw [if_pos rfl]
    unfold impl_hasField.f
    change (((impl_Values.f k l ccB).bind _).bind _) = _
    rw [impl_Values_eq l ccB hc k (by omega), Option.bind_some, Option.bind_some]
    by_cases hv : (valuesOf l ccB).length = 0
    · have e : dirsOfL l = { specP (wordsOf l ccB) with b1 := (specP (wordsOf l ccB)).b1 || (wordsOf l prB).any fun x => decide ((foldS x).toList = nocache) } := if_pos hv
      rw [if_neg (by rw [decide_eq_true_iff]; omega), e]
      change ((impl_Words.f k l prB).bind _) = _
      have h1 := dirL1_eq (wordsOf l prB) hs2 hl2 (wordsOf l prB) k 0 (specP (wordsOf l ccB)) rfl (Nat.zero_le _) (by omega)
      rw [show ((0 : Nat) : Int) = 0 from rfl] at h1
      rw [impl_Words_eq l prB hp k (by omega), Option.bind_some, h1, Option.bind_some]
    · have e : dirsOfL l = specP (wordsOf l ccB) := if_neg hv
      rw [if_pos (by rw [decide_eq_true_iff]; omega), e]

end Go.Proofs.YtahgiblifkchaaaDoor.P
end
section
/- Words without commas, quotes and blanks come back from the text that joins them: plain laws; no condition beyond those written. -/
namespace Go.Proofs.YtahgiblifkchaaaDoor.P
open Go.RowKit Go.Proofs.YtahgiblifkchaaaDoorW.PrintWords Go.Proofs.YtahgiblifkchaaaDoorW.PrintLast Go.Proofs.YtahgiblifkchaaaDoorW.PrintMore
set_option linter.unusedVariables false
set_option linter.unusedSimpArgs false
set_option maxHeartbeats 2000000
def okB (c : UInt8) : Bool := decide (33 ≤ c.toNat) && (decide (c.toNat ≤ 126) && (decide (c.toNat ≠ 34) && decide (c.toNat ≠ 44)))
structure GoodW (w : List UInt8) : Prop where
  ne : w ≠ []
  all : ∀ c ∈ w, okB c = true
theorem okB_iff {c : UInt8} (h : okB c = true) : 33 ≤ c.toNat ∧ c.toNat ≤ 126 ∧ c.toNat ≠ 34 ∧ c.toNat ≠ 44 := by simpa [okB] using h
theorem bt_get (s : ByteArray) (i : Nat) (c : UInt8) (r : List UInt8) (h : s.data.toList.drop i = c :: r) : i < s.size ∧ bt s (i : Int) = (c.toNat : Int) ∧ s.data.toList.drop (i + 1) = r := by
  have hl : s.data.toList.length = s.size := data_length s
  have hi : i < s.data.toList.length := by
    by_cases hq : i < s.data.toList.length
    · exact hq
    · rw [List.drop_eq_nil_of_le (by omega)] at h; cases h
  rw [List.drop_eq_getElem_cons hi] at h
  injection h with h1 h2
  refine ⟨by omega, ?_, h2⟩
  rw [bt_list s i hi, h1]
theorem extract_list (s : ByteArray) (a b : Nat) : (s.extract a b).data.toList = (s.data.toList.take b).drop a := by
  rw [ByteArray.data_extract, Array.toList_extract, List.extract_eq_take_drop, List.drop_take]
theorem ws_false {c : UInt8} (h : okB c = true) : ws (c.toNat : Int) = false := by
  have := okB_iff h
  unfold ws
  rw [decide_eq_false (by omega), decide_eq_false (by omega)]; rfl
theorem bt_last (s : ByteArray) (h : s.data.toList ≠ []) : bt s ((s.size - 1 : Nat) : Int) = ((s.data.toList.getLast h).toNat : Int) := by
  have hl : s.data.toList.length = s.size := data_length s
  have h0 : 0 < s.data.toList.length := List.length_pos_iff.mpr h
  rw [bt_list s (s.size - 1) (by omega), List.getLast_eq_getElem]
  congr 3
theorem back_last (s : ByteArray) (d : Nat) (h : s.data.toList ≠ []) (hg : okB (s.data.toList.getLast h) = true) : back s d s.size = s.size := by
  cases d with
  | zero => rfl
  | succ d =>
    simp only [back]
    rw [bt_last s h, ws_false hg, if_neg (by decide)]
theorem trim_good (x : ByteArray) (w : List UInt8) (h : x.data.toList = w) (hw : GoodW w) : trimS x = x := by
  have hl : x.data.toList.length = x.size := data_length x
  subst h
  cases hc : x.data.toList with
  | nil => exact absurd hc hw.ne
  | cons c r =>
    have hg := hw.all
    have hb := bt_get x 0 c r (by rw [List.drop_zero]; exact hc)
    have hc0 : okB c = true := hg c (by rw [hc]; exact List.mem_cons_self ..)
    have e1 : lead x x.size 0 = 0 := by
      obtain ⟨n, hn⟩ : ∃ n, x.size = n + 1 := ⟨x.size - 1, by omega⟩
      rw [hn]
      simp only [lead]
      rw [hb.2.1, ws_false hc0, if_neg (by decide)]
    unfold trimS
    rw [e1, back_last x _ hw.ne (hg _ (List.getLast_mem _))]
    simp
theorem trim_sp (x : ByteArray) (w : List UInt8) (h : x.data.toList = 32 :: w) (hw : GoodW w) : trimS x = (⟨w.toArray⟩ : ByteArray) := by
  have hl : x.data.toList.length = x.size := data_length x
  have hne : x.data.toList ≠ [] := by rw [h]; simp
  cases hc : w with
  | nil => exact absurd hc hw.ne
  | cons c r =>
    have hb := bt_get x 0 32 w (by rw [List.drop_zero]; exact h)
    have hb2 := bt_get x 1 c r (by rw [← hc]; exact hb.2.2)
    have hc0 : okB c = true := hw.all c (by rw [hc]; exact List.mem_cons_self ..)
    have e1 : lead x x.size 0 = 1 := by
      obtain ⟨n, hn⟩ : ∃ n, x.size = n + 2 := ⟨x.size - 2, by omega⟩
      rw [hn]
      simp only [lead]
      rw [hb.2.1, if_pos (by decide)]
      have := hb2.2.1
      simp only [Nat.zero_add]
      rw [this, ws_false hc0, if_neg (by decide)]
    have hlast : okB (x.data.toList.getLast hne) = true := by
      have : x.data.toList.getLast hne = w.getLast hw.ne := by
        simp only [h]
        exact List.getLast_cons hw.ne
      rw [this]
      exact hw.all _ (List.getLast_mem _)
    unfold trimS
    rw [e1, back_last x _ hne hlast, ← hc]
    apply ByteArray.ext
    apply Array.toList_inj.mp
    rw [extract_list, h]
    simp
    rw [List.take_of_length_le (by rw [← hl, h]; simp)]
    rfl
theorem scan (s : ByteArray) (out : List ByteArray) (a : Nat) : ∀ (u : List UInt8) (d i : Nat) (rest : List UInt8), s.data.toList.drop i = u ++ rest → (∀ c ∈ u, c.toNat ≠ 34 ∧ c.toNat ≠ 44) → elS s (d + u.length) out a false i = elS s d out a false (i + u.length)
  | [], d, i, rest, _, _ => rfl
  | c :: u, d, i, rest, h, hg => by
    obtain ⟨h1, h2, h3⟩ := bt_get s i c (u ++ rest) h
    have hc := hg c (List.mem_cons_self ..)
    rw [List.length_cons, ← Nat.add_assoc, elS_succ, h2, if_neg (by omega), if_neg (fun z => by cases z.1), if_neg (fun z => by omega)]
    rw [scan s out a u d (i + 1) rest h3 (fun x hx => hg x (List.mem_cons_of_mem _ hx))]
    congr 1
    omega
theorem addS_good (out : List ByteArray) (w : List UInt8) (hw : GoodW w) : addS out (⟨w.toArray⟩ : ByteArray) = out ++ [(⟨w.toArray⟩ : ByteArray)] := by
  unfold addS
  rw [if_neg]
  rw [ByteArray.toList_eq]
  simpa using hw.ne
theorem tail_step (s : ByteArray) (out : List ByteArray) (a i d' : Nat) (w w0 rest : List UInt8) (hgw : GoodW w) (h0 : GoodW w0) (e1 : s.data.toList.drop i = 44 :: (32 :: w ++ rest)) (ht : trimS (s.extract a i) = (⟨w0.toArray⟩ : ByteArray)) :
    elS s (d' + (32 :: w).length + 1) out a false i = elS s d' (out ++ [(⟨w0.toArray⟩ : ByteArray)]) (i + 1) false (i + 1 + (32 :: w).length) ∧ trimS (s.extract (i + 1) (i + 1 + (32 :: w).length)) = (⟨w.toArray⟩ : ByteArray) ∧ s.data.toList.drop (i + 1 + (32 :: w).length) = rest := by
  obtain ⟨h1, h2, h3⟩ := bt_get s i 44 _ e1
  refine ⟨?_, ?_, ?_⟩
  · rw [elS_succ, h2, if_neg (by decide), if_neg (fun z => by cases z.1), if_pos ⟨rfl, by decide⟩, ht, addS_good out w0 h0]
    exact scan s _ (i + 1) (32 :: w) d' (i + 1) rest h3 (fun c hc => by
      rcases List.mem_cons.mp hc with rfl | hc
      · decide
      · exact (okB_iff (hgw.all c hc)).2.2)
  · refine trim_sp _ w ?_ hgw
    rw [extract_list, List.drop_take, h3, Nat.add_sub_cancel_left]
    exact List.take_left' rfl
  · rw [← List.drop_drop, h3]
    exact List.drop_left' rfl
theorem elems_tail (s : ByteArray) : ∀ (wl : List (List UInt8)) (out : List ByteArray) (a i d : Nat) (w0 : List UInt8), (∀ w ∈ wl, GoodW w) → GoodW w0 → s.data.toList.drop i = Go.Lib.joinTail [44, 32] wl → i + d = s.size → trimS (s.extract a i) = (⟨w0.toArray⟩ : ByteArray) →
    elS s d out a false i = out ++ (w0 :: wl).map fun w => (⟨w.toArray⟩ : ByteArray) := by
  have hl : s.data.toList.length = s.size := data_length s
  intro wl
  induction wl with
  | nil =>
    intro out a i d w0 _ h0 h hd ht
    have hi : s.data.toList.length ≤ i := by
      have : s.data.toList.drop i = [] := by rw [h]; rfl
      exact List.drop_eq_nil_iff.mp this
    have hd0 : d = 0 := by omega
    have hi0 : i = s.size := by omega
    subst hd0
    rw [hi0] at ht ⊢
    show fin s out a = _
    unfold fin
    rw [ht, addS_good out w0 h0]
    rfl
  | cons w r ih =>
    intro out a i d w0 hg h0 h hd ht
    have hgw := hg w (List.mem_cons_self ..)
    have e1 : s.data.toList.drop i = 44 :: (32 :: w ++ Go.Lib.joinTail [44, 32] r) := by rw [h]; simp [Go.Lib.joinTail]
    have hlen : s.data.toList.length - i = 1 + (32 :: w).length + (Go.Lib.joinTail [44, 32] r).length := by
      rw [← List.length_drop, e1, List.length_cons, List.length_append]; omega
    obtain ⟨d', hd'⟩ : ∃ d', d = d' + (32 :: w).length + 1 := ⟨d - (32 :: w).length - 1, by omega⟩
    subst hd'
    obtain ⟨s1, s2, s3⟩ := tail_step s out a i d' w w0 _ hgw h0 e1 ht
    rw [s1, ih _ (i + 1) (i + 1 + (32 :: w).length) d' w (fun x hx => hg x (List.mem_cons_of_mem _ hx)) hgw s3 (by omega) s2]
    simp
theorem elements_words (w0 : List UInt8) (wl : List (List UInt8)) (h0 : GoodW w0) (hg : ∀ w ∈ wl, GoodW w) (s : ByteArray) (hs : s.data.toList = w0 ++ Go.Lib.joinTail [44, 32] wl) (hz : s.size ≤ 4000) :
    elementsOf s = (w0 :: wl).map fun w => (⟨w.toArray⟩ : ByteArray) := by
  have hl : s.data.toList.length = s.size := data_length s
  have hlen : w0.length ≤ s.size := by rw [← hl, hs, List.length_append]; omega
  unfold elementsOf
  rw [if_neg (by omega)]
  have e1 : s.size = (s.size - w0.length) + w0.length := by omega
  rw [e1, scan s [] 0 w0 (s.size - w0.length) 0 (Go.Lib.joinTail [44, 32] wl) (by rw [List.drop_zero]; exact hs) (fun c hc => by have := okB_iff (h0.all c hc); omega)]
  have ex : (s.extract 0 (0 + w0.length)).data.toList = w0 := by
    rw [extract_list, List.drop_zero, hs, Nat.zero_add]
    exact List.take_left' rfl
  have et : trimS (s.extract 0 (0 + w0.length)) = (⟨w0.toArray⟩ : ByteArray) := by
    rw [trim_good _ w0 ex h0]
    apply ByteArray.ext
    apply Array.toList_inj.mp
    rw [ex]
  rw [elems_tail s wl [] 0 (0 + w0.length) (s.size - w0.length) w0 hg h0 (by rw [hs, Nat.zero_add]; exact List.drop_left' rfl) (by omega) et]
  simp
end Go.Proofs.YtahgiblifkchaaaDoor.P
end
section
/- What ReadDirs reads out of the words that DirsText writes: plain laws; no condition beyond those written. -/
namespace Go.Proofs.YtahgiblifkchaaaDoor.P
open Go.RowKit Go.Proofs.YtahgiblifkchaaaDoorW.PrintWords Go.Proofs.YtahgiblifkchaaaDoorW.PrintLast Go.Proofs.YtahgiblifkchaaaDoorW.PrintMore
set_option linter.unusedVariables false
set_option linter.unusedSimpArgs false
set_option maxHeartbeats 2000000
def bl (l : List UInt8) : ByteArray := ⟨l.toArray⟩
theorem bl_list (l : List UInt8) : (bl l).data.toList = l := by simp [bl]
theorem bl_size (l : List UInt8) : (bl l).size = l.length := by simp [bl, ByteArray.size]
theorem eq_bl (x : ByteArray) (l : List UInt8) (h : x.data.toList = l) : x = bl l := by
  apply ByteArray.ext
  apply Array.toList_inj.mp
  rw [h, bl_list]
theorem eqAt_succ (s : ByteArray) (d i : Nat) : eqAt s (d + 1) i = if bt s (i : Int) = 61 then i else eqAt s d (i + 1) := rfl
theorem eqAt_found (s : ByteArray) : ∀ (u : List UInt8) (d i : Nat) (rest : List UInt8), s.data.toList.drop i = u ++ 61 :: rest → (∀ c ∈ u, c ≠ 61) → eqAt s (d + u.length + 1) i = i + u.length := by
  intro u
  induction u with
  | nil =>
    intro d i rest h hg
    obtain ⟨h1, h2, h3⟩ := bt_get s i 61 rest h
    simp only [List.length_nil, Nat.add_zero, eqAt]
    rw [h2, if_pos (by decide)]
  | cons c u ih =>
    intro d i rest h hg
    obtain ⟨h1, h2, h3⟩ := bt_get s i c (u ++ 61 :: rest) h
    have hc := hg c (List.mem_cons_self ..)
    have hc2 : ¬ ((c.toNat : Int) = 61) := by
      intro q
      apply hc
      apply UInt8.toNat_inj.mp
      show c.toNat = 61
      omega
    rw [List.length_cons, show d + (u.length + 1) + 1 = (d + u.length + 1) + 1 by omega]
    rw [eqAt_succ, h2, if_neg hc2, ih d (i + 1) rest h3 (fun x hx => hg x (List.mem_cons_of_mem _ hx))]
    omega
structure Num (t : List UInt8) : Prop where
  ne : t ≠ []
  all : ∀ c ∈ t, 48 ≤ c.toNat ∧ c.toNat ≤ 57
theorem num_good {t : List UInt8} (h : Num t) : GoodW t := ⟨h.ne, fun c hc => by
  have := h.all c hc
  unfold okB
  rw [decide_eq_true (by omega), decide_eq_true (by omega), decide_eq_true (by omega), decide_eq_true (by omega)]; rfl⟩
theorem unq_num (t : List UInt8) (h : Num t) : (unq (bl t)).2 = false := by
  cases t with
  | nil => exact absurd rfl h.ne
  | cons c r =>
    have hc := h.all c (List.mem_cons_self ..)
    have hb := bt_get (bl (c :: r)) 0 c r (by rw [bl_list, List.drop_zero])
    unfold unq
    rw [if_pos (Or.inr (Or.inl (by have := hb.2.1; rw [show ((0 : Nat) : Int) = 0 from rfl] at this; omega)))]
theorem word_num (p t : List UInt8) (hp : GoodW p) (hp2 : ∀ c ∈ p, c ≠ 61) (ht : Num t) : partN (bl (p ++ 61 :: t)) = foldS (bl p) ∧ partV (bl (p ++ 61 :: t)) = bl t := by
  have hz : (bl (p ++ 61 :: t)).size = p.length + t.length + 1 := by rw [bl_size]; simp; omega
  have he : eqI (bl (p ++ 61 :: t)) = p.length := by
    unfold eqI
    rw [hz, show p.length + t.length + 1 = t.length + p.length + 1 by omega, eqAt_found _ p t.length 0 t (by rw [bl_list, List.drop_zero]) hp2]
    omega
  have x1 : ((bl (p ++ 61 :: t)).extract 0 p.length).data.toList = p := by
    rw [extract_list, bl_list, List.drop_zero]
    exact List.take_left' rfl
  have x2 : ((bl (p ++ 61 :: t)).extract (p.length + 1) (bl (p ++ 61 :: t)).size).data.toList = t := by
    rw [extract_list, bl_list, hz, List.take_of_length_le (by simp; omega), ← List.drop_drop, List.drop_left' rfl]
    rfl
  constructor
  · unfold partN
    rw [he, trim_good _ p x1 hp, eq_bl _ p x1]
  · unfold partV
    rw [he, if_neg (by omega), trim_good _ t x2 (num_good ht), eq_bl _ t x2, unq_num t ht, if_neg (by decide)]
theorem good_num (p t : List UInt8) (hp : GoodW p) (ht : Num t) : GoodW (p ++ 61 :: t) := ⟨by simp, fun c hc => by
  rcases List.mem_append.mp hc with h | h
  · exact hp.all c h
  · rcases List.mem_cons.mp h with rfl | h
    · decide
    · exact (num_good ht).all c h⟩
theorem decDigits_num (u : Nat) : Num (Lib.decDigits u) := by
  refine ⟨(dec_list u).2.2, ?_⟩
  have h := (dec_list u).1
  intro c hc
  have h2 := List.all_eq_true.mp h c hc
  have h3 : 48 ≤ (c.toNat : Int) ∧ (c.toNat : Int) ≤ 57 := by simpa [dig] using h2
  omega
def pAge : List UInt8 := [109, 97, 120, 45, 97, 103, 101]
def pShared : List UInt8 := [115, 45, 109, 97, 120, 97, 103, 101]
def pStale : List UInt8 := [109, 97, 120, 45, 115, 116, 97, 108, 101]
def pFresh : List UInt8 := [109, 105, 110, 45, 102, 114, 101, 115, 104]
theorem good_lit (p : List UInt8) (h : (!p.isEmpty && p.all okB) = true) : GoodW p := by
  rw [Bool.and_eq_true] at h
  exact ⟨(by intro e; rw [e] at h; cases h.1), fun c hc => List.all_eq_true.mp h.2 c hc⟩
theorem dec_val (n : Int) (h0 : 0 ≤ n) (h1 : n ≤ 2147483648) (o : Int) : dval0 (decT n) o = n ∧ (decT n).toList ≠ ([] : List UInt8) := by
  have h := delta_dec n h0 (by omega)
  constructor
  · unfold dval0
    rw [h, if_pos rfl]
    show min 2147483648 n = n
    omega
  · intro e
    rw [ByteArray.toList_eq] at e
    rw [deltaOf_list, if_pos e] at h
    have h9 : false = true := congrArg Prod.snd h
    cases h9
theorem decT_bl (n : Int) (h0 : 0 ≤ n) (h1 : n ≤ 2147483648) : ∃ t, Num t ∧ decT n = bl t := by
  obtain ⟨u, rfl⟩ := Int.eq_ofNat_of_zero_le h0
  refine ⟨Lib.decDigits u, decDigits_num u, ?_⟩
  unfold decT Lib.itoa bl
  rw [if_pos ⟨h0, by omega⟩, if_neg (by omega), Int.toNat_natCast]
theorem app_bl (p t : List UInt8) : (bl (p ++ [61])) ++ bl t = bl (p ++ 61 :: t) := by
  apply eq_bl
  simp [bl]
theorem toList_bl (l : List UInt8) : (bl l).toList = l := by rw [ByteArray.toList_eq, bl_list]
theorem step_age (d : DirD) (n : Int) (h0 : 0 ≤ n) (h1 : n ≤ 2147483648) (hd : d.n6 = -1) : stepP d (bl (pAge ++ [61]) ++ decT n) = { d with n6 := n } := by
  obtain ⟨t, ht, e⟩ := decT_bl n h0 h1
  have hv := dec_val n h0 h1 0
  obtain ⟨q1, q2⟩ := word_num pAge t (good_lit _ (by decide)) (by decide) ht
  have hf : foldS (bl pAge) = bl pAge := by decide +kernel
  unfold stepP
  rw [e, app_bl, q1, q2, hf, ← e]
  unfold keyedP
  rw [toList_bl]
  rw [if_neg (by decide), if_neg (by decide), if_neg (by decide), if_neg (by decide), if_neg (by decide), if_neg (by decide), if_neg (by decide), if_pos (by decide), hv.1]
  unfold setN
  rw [hd, if_pos (by decide)]
theorem step_shared (d : DirD) (n : Int) (h0 : 0 ≤ n) (h1 : n ≤ 2147483648) (hd : d.n7 = -1) : stepP d (bl (pShared ++ [61]) ++ decT n) = { d with n7 := n } := by
  obtain ⟨t, ht, e⟩ := decT_bl n h0 h1
  have hv := dec_val n h0 h1 0
  obtain ⟨q1, q2⟩ := word_num pShared t (good_lit _ (by decide)) (by decide) ht
  have hf : foldS (bl pShared) = bl pShared := by decide +kernel
  unfold stepP
  rw [e, app_bl, q1, q2, hf, ← e]
  unfold keyedP
  rw [toList_bl]
  rw [if_neg (by decide), if_neg (by decide), if_neg (by decide), if_neg (by decide), if_neg (by decide), if_neg (by decide), if_neg (by decide), if_neg (by decide), if_pos (by decide), hv.1]
  unfold setN
  rw [hd, if_pos (by decide)]
theorem step_stale (d : DirD) (n : Int) (h0 : 0 ≤ n) (h1 : n ≤ 2147483648) (hd : d.n8 = -1) : stepP d (bl (pStale ++ [61]) ++ decT n) = { d with n8 := n } := by
  obtain ⟨t, ht, e⟩ := decT_bl n h0 h1
  have hv := dec_val n h0 h1 0
  obtain ⟨q1, q2⟩ := word_num pStale t (good_lit _ (by decide)) (by decide) ht
  have hf : foldS (bl pStale) = bl pStale := by decide +kernel
  unfold stepP
  rw [e, app_bl, q1, q2, hf, ← e]
  unfold keyedP
  rw [toList_bl]
  rw [if_neg (by decide), if_neg (by decide), if_neg (by decide), if_neg (by decide), if_neg (by decide), if_neg (by decide), if_neg (by decide), if_neg (by decide), if_neg (by decide), if_pos (by decide), if_neg hv.2, hv.1]
  unfold setN
  rw [hd, if_pos (by decide)]
theorem step_fresh (d : DirD) (n : Int) (h0 : 0 ≤ n) (h1 : n ≤ 2147483648) (hd : d.n9 = -1) : stepP d (bl (pFresh ++ [61]) ++ decT n) = { d with n9 := n } := by
  obtain ⟨t, ht, e⟩ := decT_bl n h0 h1
  have hv := dec_val n h0 h1 2147483648
  obtain ⟨q1, q2⟩ := word_num pFresh t (good_lit _ (by decide)) (by decide) ht
  have hf : foldS (bl pFresh) = bl pFresh := by decide +kernel
  unfold stepP
  rw [e, app_bl, q1, q2, hf, ← e]
  unfold keyedP
  rw [toList_bl]
  rw [if_neg (by decide), if_neg (by decide), if_neg (by decide), if_neg (by decide), if_neg (by decide), if_neg (by decide), if_neg (by decide), if_neg (by decide), if_neg (by decide), if_neg (by decide), if_pos (by decide), hv.1]
  unfold setN
  rw [hd, if_pos (by decide)]
theorem step_b0 (d : DirD) : stepP d (bl [110, 111, 45, 115, 116, 111, 114, 101]) = { d with b0 := true } := by
  have h1 : partN (bl [110, 111, 45, 115, 116, 111, 114, 101]) = bl [110, 111, 45, 115, 116, 111, 114, 101] := by decide +kernel
  unfold stepP
  rw [h1]
  unfold keyedP
  rw [toList_bl]
  rw [if_pos (by decide)]
theorem step_b1 (d : DirD) : stepP d (bl [110, 111, 45, 99, 97, 99, 104, 101]) = { d with b1 := true } := by
  have h1 : partN (bl [110, 111, 45, 99, 97, 99, 104, 101]) = bl [110, 111, 45, 99, 97, 99, 104, 101] := by decide +kernel
  unfold stepP
  rw [h1]
  unfold keyedP
  rw [toList_bl]
  rw [if_neg (by decide), if_pos (by decide)]
theorem step_b2 (d : DirD) : stepP d (bl [112, 114, 105, 118, 97, 116, 101]) = { d with b2 := true } := by
  have h1 : partN (bl [112, 114, 105, 118, 97, 116, 101]) = bl [112, 114, 105, 118, 97, 116, 101] := by decide +kernel
  unfold stepP
  rw [h1]
  unfold keyedP
  rw [toList_bl]
  rw [if_neg (by decide), if_neg (by decide), if_pos (by decide)]
theorem step_b3 (d : DirD) : stepP d (bl [112, 117, 98, 108, 105, 99]) = { d with b3 := true } := by
  have h1 : partN (bl [112, 117, 98, 108, 105, 99]) = bl [112, 117, 98, 108, 105, 99] := by decide +kernel
  unfold stepP
  rw [h1]
  unfold keyedP
  rw [toList_bl]
  rw [if_neg (by decide), if_neg (by decide), if_neg (by decide), if_pos (by decide)]
theorem step_b5 (d : DirD) : stepP d (bl [111, 110, 108, 121, 45, 105, 102, 45, 99, 97, 99, 104, 101, 100]) = { d with b5 := true } := by
  have h1 : partN (bl [111, 110, 108, 121, 45, 105, 102, 45, 99, 97, 99, 104, 101, 100]) = bl [111, 110, 108, 121, 45, 105, 102, 45, 99, 97, 99, 104, 101, 100] := by decide +kernel
  unfold stepP
  rw [h1]
  unfold keyedP
  rw [toList_bl]
  rw [if_neg (by decide), if_neg (by decide), if_neg (by decide), if_neg (by decide), if_pos (by decide)]
theorem step_b4 (d : DirD) : stepP d (bl [109, 117, 115, 116, 45, 114, 101, 118, 97, 108, 105, 100, 97, 116, 101]) = { d with b4 := true } := by
  have h1 : partN (bl [109, 117, 115, 116, 45, 114, 101, 118, 97, 108, 105, 100, 97, 116, 101]) = bl [109, 117, 115, 116, 45, 114, 101, 118, 97, 108, 105, 100, 97, 116, 101] := by decide +kernel
  unfold stepP
  rw [h1]
  unfold keyedP
  rw [toList_bl]
  rw [if_neg (by decide), if_neg (by decide), if_neg (by decide), if_neg (by decide), if_neg (by decide), if_pos (by decide)]
theorem allB_true (p : Int → Bool) : ∀ (d : Nat) (i : Int), (∀ j : Nat, j < d → p (i + j) = true) → allB p d i = true
  | 0, _, _ => rfl
  | d + 1, i, h => by
    simp only [allB]
    have h0 := h 0 (Nat.succ_pos _)
    rw [show i + ((0 : Nat) : Int) = i by omega] at h0
    rw [h0, Bool.true_and]
    refine allB_true p d (i + 1) (fun j hj => ?_)
    have := h (j + 1) (by omega)
    rw [show i + 1 + (j : Int) = i + ((j + 1 : Nat) : Int) by omega]
    exact this
theorem bytes_join (w0 : List UInt8) (wl : List (List UInt8)) (h0 : GoodW w0) (hg : ∀ w ∈ wl, GoodW w) : ∀ c ∈ w0 ++ Go.Lib.joinTail [44, 32] wl, okB c = true ∨ c = 44 ∨ c = 32 := by
  intro c hc
  rcases List.mem_append.mp hc with h | h
  · exact .inl (h0.all c h)
  · unfold Go.Lib.joinTail at h
    obtain ⟨l, hl, hcl⟩ := List.mem_flatten.mp h
    obtain ⟨w, hw, rfl⟩ := List.mem_map.mp hl
    rcases List.mem_append.mp hcl with q | q
    · rcases List.mem_cons.mp q with rfl | q
      · exact .inr (.inl rfl)
      · exact .inr (.inr (List.mem_singleton.mp q))
    · exact .inl ((hg w hw).all c q)
theorem last_join : ∀ (wl : List (List UInt8)) (w0 : List UInt8), (∀ c, w0.getLast? = some c → okB c = true) → (∀ w ∈ wl, GoodW w) → ∀ c, (w0 ++ Go.Lib.joinTail [44, 32] wl).getLast? = some c → okB c = true := by
  intro wl
  induction wl with
  | nil => intro w0 h0 _ c hc; exact h0 c (by simpa [Go.Lib.joinTail] using hc)
  | cons w r ih =>
    intro w0 h0 hg c hc
    have e : w0 ++ Go.Lib.joinTail [44, 32] (w :: r) = (w0 ++ [44, 32] ++ w) ++ Go.Lib.joinTail [44, 32] r := by simp [Go.Lib.joinTail]
    rw [e] at hc
    refine ih _ (fun x hx => ?_) (fun x hx => hg x (List.mem_cons_of_mem _ hx)) c hc
    have hw := hg w (List.mem_cons_self ..)
    rw [List.getLast?_append, List.getLast?_eq_some_getLast hw.ne, Option.some_or] at hx
    rw [← Option.some.inj hx]
    exact hw.all _ (List.getLast_mem _)
theorem plain_join (s : ByteArray) (w0 : List UInt8) (wl : List (List UInt8)) (h0 : GoodW w0) (hg : ∀ w ∈ wl, GoodW w) (hs : s.data.toList = w0 ++ Go.Lib.joinTail [44, 32] wl) : plainB s = true := by
  have hl : s.data.toList.length = s.size := data_length s
  unfold plainB
  refine allB_true _ _ _ (fun j hj => ?_)
  rw [Int.zero_add, bt_list s j (by omega)]
  have hm : s.data.toList[j]'(by omega) ∈ w0 ++ Go.Lib.joinTail [44, 32] wl := by rw [← hs]; exact List.getElem_mem _
  generalize s.data.toList[j]'(by omega) = c at hm
  rcases bytes_join w0 wl h0 hg c hm with h | rfl | rfl
  · have := okB_iff h
    unfold plB
    rw [decide_eq_true (show 32 ≤ (c.toNat : Int) by omega), decide_eq_true (show (c.toNat : Int) ≠ 127 by omega)]
    simp
  · decide
  · decide
theorem trim_join (s : ByteArray) (w0 : List UInt8) (wl : List (List UInt8)) (h0 : GoodW w0) (hg : ∀ w ∈ wl, GoodW w) (hs : s.data.toList = w0 ++ Go.Lib.joinTail [44, 32] wl) : trimS s = s := by
  cases hc : w0 with
  | nil => exact absurd hc h0.ne
  | cons c r =>
    have hne : s.data.toList ≠ [] := by rw [hs, hc]; simp
    have hb := bt_get s 0 c (r ++ Go.Lib.joinTail [44, 32] wl) (by rw [List.drop_zero, hs, hc]; rfl)
    have hc0 : okB c = true := h0.all c (by rw [hc]; exact List.mem_cons_self ..)
    have e1 : lead s s.size 0 = 0 := by
      obtain ⟨n, hn⟩ : ∃ n, s.size = n + 1 := ⟨s.size - 1, by omega⟩
      rw [hn]
      simp only [lead]
      rw [hb.2.1, ws_false hc0, if_neg (by decide)]
    have hlast : okB (s.data.toList.getLast hne) = true := by
      refine last_join wl w0 (fun x hx => h0.all x (List.mem_of_getLast? hx)) hg _ ?_
      rw [← hs]
      exact List.getLast?_eq_some_getLast hne
    unfold trimS
    rw [e1, back_last s _ hne hlast]
    simp
theorem field_ok (n s : ByteArray) (hn : n.size ≤ 40) (ht : tokB n = true) (w0 : List UInt8) (wl : List (List UInt8)) (h0 : GoodW w0) (hg : ∀ w ∈ wl, GoodW w) (hs : s.data.toList = w0 ++ Go.Lib.joinTail [44, 32] wl) (hz : s.size ≤ 190) : fieldOkB n s = true := by
  unfold fieldOkB
  rw [decide_eq_true hn, ht, decide_eq_true hz, plain_join s w0 wl h0 hg hs, trim_join s w0 wl h0 hg hs]
  simp
theorem dirs_one (x : FieldT) (hok : fieldOkB x.f0 x.f1 = true) (hs : sameB x.f0 ccB = true) : dirsOfL [x] = (elementsOf x.f1).foldl stepP dir0 := by
  have hf : fieldsOkB [x] = true := by
    unfold fieldsOkB
    rw [decide_eq_true (by simp)]
    refine allB_true _ _ _ (fun j hj => ?_)
    have : j = 0 := by simpa using hj
    subst this
    exact hok
  have hv : valuesOf [x] ccB = [x.f1] := by
    unfold valuesOf
    rw [if_pos hf]
    show valsFrom [x] ccB 1 0 [] = _
    simp only [valsFrom]
    have : rd_T34 [x] ((0 : Nat) : Int) = x := rfl
    rw [this, if_pos hs]
    rfl
  have hw : wordsOf [x] ccB = elementsOf x.f1 := by
    unfold wordsOf joinedOf
    rw [hv, joinL_snoc_nil]
  unfold dirsOfL
  rw [hv, if_neg (by simp), hw, ← fold_specP]
end Go.Proofs.YtahgiblifkchaaaDoor.P
end
section
/- What the law's 'rules' answers: true; walked, given strconv's table. -/
namespace Go.Proofs.YtahgiblifkchaaaDoor.P
open Go.RowKit Go.Proofs.YtahgiblifkchaaaDoorW.PrintWords Go.Proofs.YtahgiblifkchaaaDoorW.PrintLast Go.Proofs.YtahgiblifkchaaaDoorW.PrintMore
attribute [local go_sem] max2_int min2_int max_two min_two max_three min_three max_four min_four
set_option linter.unusedVariables false
set_option linter.unusedSimpArgs false
theorem one_field (W : World) (b : Nat) (x : S34) (h : W.heap[b]? = some (.cells #[.string x.f0, .string x.f1] 34 (0, 0))) : Kd.C k34 W (some ⟨b, 0, none⟩) [x].length [x] := by
  refine ⟨rfl, (by simp), fun _ => ⟨⟨b, 0, none⟩, rfl, fun j p hj => ?_⟩⟩
  cases j with
  | succ j => simp at hj
  | zero =>
    obtain rfl : x = p := by simpa using hj
    refine ⟨[.string x.f0, .string x.f1], rfl, k34_mk _ _, fun i u hu => ?_⟩
    rw [add_plain, cell_of_row W b _ _ _ _ h, Nat.zero_mul, Nat.zero_add]
    simpa using hu
def rulesT : ByteArray := ⟨#[112, 117, 98, 108, 105, 99, 44, 32, 109, 97, 120, 45, 97, 103, 101, 61, 53]⟩
def rulesF : S34 := ⟨⟨#[99, 97, 99, 104, 101, 45, 99, 111, 110, 116, 114, 111, 108]⟩, ⟨#[109, 97, 120, 45, 97, 103, 101, 61, 53, 44, 32, 112, 117, 98, 108, 105, 99]⟩⟩
set_option maxHeartbeats 8000000 in
set_option maxRecDepth 100000 in
theorem rules_calls (k : Nat) (w : World) (ht : Tab10 w) (hR : impl_ReadDirs.f k [rulesF] = some (false, false, false, true, false, false, 5, -1, -1, -1)) (hD : impl_DirsText.f false false false true false false 5 (-1) (-1) (-1) = some rulesT) :
    Calls Tryd.prog 11 #[] w fun e w' => e = .returned (.bool true) ∧ Below w.heap.size w w' := by
  have hu25 := Tryd.underlying25
  have hu34 := Tryd.underlying34
  have HT := Aside0.mk ht
  have HR := Aside0.mk hR
  have HD := Aside0.mk hD
  clear ht hR hD
  go_enter Tryd.func11, Tryd.ntmps11
  have hb0 := blk_new w (Obj.cells #[.string rulesF.f0, .string rulesF.f1] 34)
  have hC := one_field _ _ rulesF hb0
  go_wp2_with fail
  refine (impl_ReadDirs.calls k _ 1 [rulesF] _ _ _ _ _ _ _ _ _ _ _ hC (Nat.le_refl _) HR.out).mono ?_
  rintro e w2 ⟨rfl, hb⟩
  dsimp only
  have B2 := Aside0.mk (below_step (below_alloc (Below.refl _ _) _) hb)
  clear hb hb0 hC
  have hd0 := blk_new w2 (Obj.cells (dirBox false false false true false false 5 (-1) (-1) (-1)) 25)
  have hc0 : (w2.alloc (Obj.cells (dirBox false false false true false false 5 (-1) (-1) (-1)) 25)).cell? ⟨w2.heap.size, 0, none⟩ = some (.bool false) := blk_cell hd0 0
  have hc1 : (w2.alloc (Obj.cells (dirBox false false false true false false 5 (-1) (-1) (-1)) 25)).cell? ⟨w2.heap.size, 1, none⟩ = some (.bool false) := blk_cell hd0 1
  have hc2 : (w2.alloc (Obj.cells (dirBox false false false true false false 5 (-1) (-1) (-1)) 25)).cell? ⟨w2.heap.size, 2, none⟩ = some (.bool false) := blk_cell hd0 2
  have hc3 : (w2.alloc (Obj.cells (dirBox false false false true false false 5 (-1) (-1) (-1)) 25)).cell? ⟨w2.heap.size, 3, none⟩ = some (.bool true) := blk_cell hd0 3
  have hc4 : (w2.alloc (Obj.cells (dirBox false false false true false false 5 (-1) (-1) (-1)) 25)).cell? ⟨w2.heap.size, 4, none⟩ = some (.bool false) := blk_cell hd0 4
  have hc5 : (w2.alloc (Obj.cells (dirBox false false false true false false 5 (-1) (-1) (-1)) 25)).cell? ⟨w2.heap.size, 5, none⟩ = some (.bool false) := blk_cell hd0 5
  have hc6 : (w2.alloc (Obj.cells (dirBox false false false true false false 5 (-1) (-1) (-1)) 25)).cell? ⟨w2.heap.size, 6, none⟩ = some (.int .i64 5) := blk_cell hd0 6
  have hc7 : (w2.alloc (Obj.cells (dirBox false false false true false false 5 (-1) (-1) (-1)) 25)).cell? ⟨w2.heap.size, 7, none⟩ = some (.int .i64 (-1)) := blk_cell hd0 7
  have hc8 : (w2.alloc (Obj.cells (dirBox false false false true false false 5 (-1) (-1) (-1)) 25)).cell? ⟨w2.heap.size, 8, none⟩ = some (.int .i64 (-1)) := blk_cell hd0 8
  have hc9 : (w2.alloc (Obj.cells (dirBox false false false true false false 5 (-1) (-1) (-1)) 25)).cell? ⟨w2.heap.size, 9, none⟩ = some (.int .i64 (-1)) := blk_cell hd0 9
  unfold dirBox at hc0 hc1 hc2 hc3 hc4 hc5 hc6 hc7 hc8 hc9
  go_wp2_with fail
  refine (impl_DirsText.calls false false false true false false 5 (-1) (-1) (-1) rulesT _ (tab_below HT.out (below_alloc B2.out _) (tab_lt HT.out)) HD.out).mono ?_
  rintro e w3 ⟨rfl, hb⟩
  dsimp only
  have B3 := Aside0.mk (below_step (below_alloc B2.out _) hb)
  clear hb hd0 hc0 hc1 hc2 hc3 hc4 hc5 hc6 hc7 hc8 hc9
  have he : (rulesT.toList == ([112, 117, 98, 108, 105, 99, 44, 32, 109, 97, 120, 45, 97, 103, 101, 61, 53] : List UInt8)) = true := by rw [ByteArray.toList_eq]; decide
  go_wp2
  go_ret
  exact ⟨rfl, B3.out⟩
end Go.Proofs.YtahgiblifkchaaaDoor.P
end
section
/- The plain laws FnDeltas and FnDirs: what the rules, the numbers and the texts answer; no condition beyond those written. -/
namespace Go.Proofs.YtahgiblifkchaaaDoor.P
open Go.RowKit Go.Proofs.YtahgiblifkchaaaDoorW.PrintWords Go.Proofs.YtahgiblifkchaaaDoorW.PrintLast Go.Proofs.YtahgiblifkchaaaDoorW.PrintMore
set_option linter.unusedVariables false
set_option linter.unusedSimpArgs false
set_option maxHeartbeats 2000000
theorem dec5 : decT 5 = bl [53] := by
  unfold decT Lib.itoa
  rw [if_pos (by decide), if_neg (by decide), show (5 : Int).toNat = 5 from rfl, Lib.decDigits_one (by decide)]
  rfl
theorem rules_read (k : Nat) (hk : 40000 < k) : impl_ReadDirs.f k [rulesF] = some (false, false, false, true, false, false, 5, -1, -1, -1) := by
  have hw : GoodW (pAge ++ 61 :: [53]) := good_lit _ (by decide)
  have hp : ∀ w ∈ [([112, 117, 98, 108, 105, 99] : List UInt8)], GoodW w := by
    intro w h
    rw [List.mem_singleton.mp h]
    exact good_lit _ (by decide)
  have hs : rulesF.f1.data.toList = (pAge ++ 61 :: [53]) ++ Go.Lib.joinTail [44, 32] [[112, 117, 98, 108, 105, 99]] := rfl
  have hok : fieldOkB rulesF.f0 rulesF.f1 = true := field_ok _ _ (by decide) (by decide +kernel) _ _ hw hp hs (by decide)
  have hsame : sameB rulesF.f0 ccB = true := by
    have e : rulesF.f0 = ccB := rfl
    unfold sameB
    rw [e]
    exact beq_self_eq_true _
  have he := elements_words _ _ hw hp rulesF.f1 hs (by decide)
  rw [impl_ReadDirs_eq [rulesF] k hk, dirs_one rulesF hok hsame, he]
  have e1 : (⟨(pAge ++ 61 :: [53]).toArray⟩ : ByteArray) = bl (pAge ++ [61]) ++ decT 5 := by rw [dec5, app_bl]; rfl
  have e2 : (⟨([112, 117, 98, 108, 105, 99] : List UInt8).toArray⟩ : ByteArray) = bl [112, 117, 98, 108, 105, 99] := rfl
  simp only [List.map_cons, List.map_nil, List.foldl_cons, List.foldl_nil]
  rw [e1, e2, step_age dir0 5 (by decide) (by decide) rfl, step_b3]
  rfl
theorem joinL_add (xs : List ByteArray) (b : Bool) (nm : ByteArray) : (joinL (addF xs b nm)).length ≤ (joinL xs).length + 2 + nm.size := by
  have hl : nm.data.toList.length = nm.size := data_length nm
  unfold addF
  cases b with
  | false => rw [if_neg (by decide)]; omega
  | true =>
    rw [if_pos rfl]
    cases xs with
    | nil => rw [List.nil_append, joinL_snoc_nil]; omega
    | cons x r => rw [joinL_snoc, List.length_append, List.length_append]; simp; omega
theorem decDigits_short : ∀ (k u : Nat), u < 10 ^ (k + 1) → (Lib.decDigits u).length ≤ k + 1 := by
  intro k
  induction k with
  | zero => intro u h; rw [Lib.decDigits_one (by simpa using h)]; exact Nat.le_refl _
  | succ k ih =>
    intro u h
    by_cases h10 : u < 10
    · rw [Lib.decDigits_one h10]; simp
    · have e3 : Lib.decDigits u = Lib.decDigits (u / 10) ++ [UInt8.ofNat (48 + u % 10)] := by rw [Lib.decDigits, dif_neg h10]
      rw [e3, List.length_append]
      have := ih (u / 10) (by rw [Nat.pow_succ] at h; omega)
      simp
      omega
theorem decT_short (n : Int) (h : n ≤ 2147483648) : (decT n).size ≤ 10 := by
  unfold decT
  by_cases h0 : 0 ≤ n ∧ n ≤ 999999999999999
  · obtain ⟨u, rfl⟩ := Int.eq_ofNat_of_zero_le h0.1
    rw [if_pos h0]
    unfold Lib.itoa
    rw [if_neg (by omega), Int.toNat_natCast]
    have := decDigits_short 9 u (by omega)
    simpa [ByteArray.size] using this
  · rw [if_neg h0]; exact Nat.zero_le _
theorem rules_text : impl_DirsText.f false false false true false false 5 (-1) (-1) (-1) = some rulesT := by
  have h5 := decT_short 5 (by decide)
  have h1 := decT_short (-1) (by decide)
  have hl : joinL (dl9 false false false true false false 5 (-1) (-1) (-1)) = rulesT.data.toList := by
    have e : dl9 false false false true false false 5 (-1) (-1) (-1) = [bl [112, 117, 98, 108, 105, 99]] ++ [bl (pAge ++ [61]) ++ decT 5] := rfl
    rw [e, dec5, app_bl]
    rfl
  unfold impl_DirsText.f
  rw [impl_DirsOk_eq, Option.bind_some, if_pos (by decide), hl, if_pos ⟨by decide, by omega, by omega, by omega, by omega⟩]
theorem at_range (l : List Int) (j : Int) (hl : l.length ≤ 140737488351232) (hj : 0 ≤ j) (hb : ∀ x ∈ l, 0 ≤ x ∧ x ≤ 255) : ∃ a, laws_at.f l j = some a ∧ 0 ≤ a ∧ a ≤ 255 := by
  unfold laws_at.f
  by_cases h : (l.length : Int) = 0
  · rw [if_pos h]; exact ⟨0, rfl, by omega, by omega⟩
  · have h1 := Int.tmod_nonneg (l.length : Int) hj
    have h2 := Int.tmod_lt_of_pos j (show (0 : Int) < (l.length : Int) by omega)
    rw [if_neg h, if_pos h1, if_pos h2]
    obtain ⟨m, hm⟩ := Int.eq_ofNat_of_zero_le h1
    rw [hm] at h2 ⊢
    have hm2 : m < l.length := by omega
    have hr : rd l (m : Int) = l[m] := by
      unfold rd
      rw [Int.toNat_natCast, List.getD_eq_getElem?_getD, List.getElem?_eq_getElem hm2]; rfl
    have := hb (l[m]) (List.getElem_mem hm2)
    rw [hr, wrap_id (by omega) (by omega)]
    exact ⟨_, rfl, this.1, this.2⟩
theorem fold_add (xs : List ByteArray) (b : Bool) (nm : ByteArray) (e : DirD) : (addF xs b nm).foldl stepP e = if b = true then stepP (xs.foldl stepP e) nm else xs.foldl stepP e := by
  unfold addF
  split
  · rw [List.foldl_append]; rfl
  · rfl
theorem dl_fold (b0 b1 b2 b3 b4 b5 : Bool) (n6 n7 n8 n9 : Int) (h6 : -1 ≤ n6 ∧ n6 ≤ 2147483648) (h7 : -1 ≤ n7 ∧ n7 ≤ 2147483648) (h8 : -1 ≤ n8 ∧ n8 ≤ 2147483648) (h9 : -1 ≤ n9 ∧ n9 ≤ 2147483648) :
    (dl9 b0 b1 b2 b3 b4 b5 n6 n7 n8 n9).foldl stepP dir0 = ⟨b0, b1, b2, b3, b4, b5, n6, n7, n8, n9⟩ := by
  have f0 : (dl0 b0 b1 b2 b3 b4 b5 n6 n7 n8 n9).foldl stepP dir0 = ⟨b0, false, false, false, false, false, -1, -1, -1, -1⟩ := by
    unfold dl0; rw [fold_add]
    cases b0 with
    | true => rw [if_pos rfl]; exact step_b0 dir0
    | false => rfl
  have f1 : (dl1 b0 b1 b2 b3 b4 b5 n6 n7 n8 n9).foldl stepP dir0 = ⟨b0, b1, false, false, false, false, -1, -1, -1, -1⟩ := by
    unfold dl1; rw [fold_add, f0]
    cases b1 with
    | true => rw [if_pos rfl]; exact step_b1 _
    | false => rfl
  have f2 : (dl2 b0 b1 b2 b3 b4 b5 n6 n7 n8 n9).foldl stepP dir0 = ⟨b0, b1, b2, false, false, false, -1, -1, -1, -1⟩ := by
    unfold dl2; rw [fold_add, f1]
    cases b2 with
    | true => rw [if_pos rfl]; exact step_b2 _
    | false => rfl
  have f3 : (dl3 b0 b1 b2 b3 b4 b5 n6 n7 n8 n9).foldl stepP dir0 = ⟨b0, b1, b2, b3, false, false, -1, -1, -1, -1⟩ := by
    unfold dl3; rw [fold_add, f2]
    cases b3 with
    | true => rw [if_pos rfl]; exact step_b3 _
    | false => rfl
  have f4 : (dl4 b0 b1 b2 b3 b4 b5 n6 n7 n8 n9).foldl stepP dir0 = ⟨b0, b1, b2, b3, b4, false, -1, -1, -1, -1⟩ := by
    unfold dl4; rw [fold_add, f3]
    cases b4 with
    | true => rw [if_pos rfl]; exact step_b4 _
    | false => rfl
  have f5 : (dl5 b0 b1 b2 b3 b4 b5 n6 n7 n8 n9).foldl stepP dir0 = ⟨b0, b1, b2, b3, b4, b5, -1, -1, -1, -1⟩ := by
    unfold dl5; rw [fold_add, f4]
    cases b5 with
    | true => rw [if_pos rfl]; exact step_b5 _
    | false => rfl
  have f6 : (dl6 b0 b1 b2 b3 b4 b5 n6 n7 n8 n9).foldl stepP dir0 = ⟨b0, b1, b2, b3, b4, b5, n6, -1, -1, -1⟩ := by
    unfold dl6; rw [fold_add, f5]
    by_cases hn : 0 ≤ n6
    · rw [if_pos (decide_eq_true hn)]; exact step_age _ n6 hn h6.2 rfl
    · rw [if_neg (by simpa using hn), show n6 = -1 by omega]
  have f7 : (dl7 b0 b1 b2 b3 b4 b5 n6 n7 n8 n9).foldl stepP dir0 = ⟨b0, b1, b2, b3, b4, b5, n6, n7, -1, -1⟩ := by
    unfold dl7; rw [fold_add, f6]
    by_cases hn : 0 ≤ n7
    · rw [if_pos (decide_eq_true hn)]; exact step_shared _ n7 hn h7.2 rfl
    · rw [if_neg (by simpa using hn), show n7 = -1 by omega]
  have f8 : (dl8 b0 b1 b2 b3 b4 b5 n6 n7 n8 n9).foldl stepP dir0 = ⟨b0, b1, b2, b3, b4, b5, n6, n7, n8, -1⟩ := by
    unfold dl8; rw [fold_add, f7]
    by_cases hn : 0 ≤ n8
    · rw [if_pos (decide_eq_true hn)]; exact step_stale _ n8 hn h8.2 rfl
    · rw [if_neg (by simpa using hn), show n8 = -1 by omega]
  unfold dl9; rw [fold_add, f8]
  by_cases hn : 0 ≤ n9
  · rw [if_pos (decide_eq_true hn)]; exact step_fresh _ n9 hn h9.2 rfl
  · rw [if_neg (by simpa using hn), show n9 = -1 by omega]
def AllGood (xs : List ByteArray) : Prop := ∀ x ∈ xs, GoodW x.data.toList
theorem good_snoc {xs : List ByteArray} (h : AllGood xs) (b : Bool) (nm : ByteArray) (hn : b = true → GoodW nm.data.toList) : AllGood (addF xs b nm) := by
  unfold addF
  split
  · rename_i hb
    intro x hx
    rcases List.mem_append.mp hx with q | q
    · exact h x q
    · rw [List.mem_singleton.mp q]; exact hn hb
  · exact h
theorem good_numw (p : List UInt8) (hp : GoodW p) (n : Int) (h1 : n ≤ 2147483648) (hb : decide (0 ≤ n) = true) : GoodW (bl (p ++ [61]) ++ decT n).data.toList := by
  obtain ⟨t, ht, e⟩ := decT_bl n (of_decide_eq_true hb) h1
  rw [e, app_bl, bl_list]
  exact good_num p t hp ht
theorem dl_good (b0 b1 b2 b3 b4 b5 : Bool) (n6 n7 n8 n9 : Int) (h6 : n6 ≤ 2147483648) (h7 : n7 ≤ 2147483648) (h8 : n8 ≤ 2147483648) (h9 : n9 ≤ 2147483648) : AllGood (dl9 b0 b1 b2 b3 b4 b5 n6 n7 n8 n9) := by
  have g0 : AllGood (dl0 b0 b1 b2 b3 b4 b5 n6 n7 n8 n9) := good_snoc (fun x h => absurd h List.not_mem_nil) _ _ (fun _ => good_lit _ (by decide))
  have g1 : AllGood (dl1 b0 b1 b2 b3 b4 b5 n6 n7 n8 n9) := good_snoc g0 _ _ (fun _ => good_lit _ (by decide))
  have g2 : AllGood (dl2 b0 b1 b2 b3 b4 b5 n6 n7 n8 n9) := good_snoc g1 _ _ (fun _ => good_lit _ (by decide))
  have g3 : AllGood (dl3 b0 b1 b2 b3 b4 b5 n6 n7 n8 n9) := good_snoc g2 _ _ (fun _ => good_lit _ (by decide))
  have g4 : AllGood (dl4 b0 b1 b2 b3 b4 b5 n6 n7 n8 n9) := good_snoc g3 _ _ (fun _ => good_lit _ (by decide))
  have g5 : AllGood (dl5 b0 b1 b2 b3 b4 b5 n6 n7 n8 n9) := good_snoc g4 _ _ (fun _ => good_lit _ (by decide))
  have g6 : AllGood (dl6 b0 b1 b2 b3 b4 b5 n6 n7 n8 n9) := good_snoc g5 _ _ (fun hb => good_numw pAge (good_lit _ (by decide)) n6 h6 hb)
  have g7 : AllGood (dl7 b0 b1 b2 b3 b4 b5 n6 n7 n8 n9) := good_snoc g6 _ _ (fun hb => good_numw pShared (good_lit _ (by decide)) n7 h7 hb)
  have g8 : AllGood (dl8 b0 b1 b2 b3 b4 b5 n6 n7 n8 n9) := good_snoc g7 _ _ (fun hb => good_numw pStale (good_lit _ (by decide)) n8 h8 hb)
  exact good_snoc g8 _ _ (fun hb => good_numw pFresh (good_lit _ (by decide)) n9 h9 hb)
theorem dl_short (b0 b1 b2 b3 b4 b5 : Bool) (n6 n7 n8 n9 : Int) (h6 : n6 ≤ 2147483648) (h7 : n7 ≤ 2147483648) (h8 : n8 ≤ 2147483648) (h9 : n9 ≤ 2147483648) : (joinL (dl9 b0 b1 b2 b3 b4 b5 n6 n7 n8 n9)).length ≤ 190 := by
  have s6 := decT_short n6 h6
  have s7 := decT_short n7 h7
  have s8 := decT_short n8 h8
  have s9 := decT_short n9 h9
  have z6 : ((⟨#[109, 97, 120, 45, 97, 103, 101, 61]⟩ : ByteArray) ++ decT n6).size = 8 + (decT n6).size := pre_size _ _
  have z7 : ((⟨#[115, 45, 109, 97, 120, 97, 103, 101, 61]⟩ : ByteArray) ++ decT n7).size = 9 + (decT n7).size := pre_size _ _
  have z8 : ((⟨#[109, 97, 120, 45, 115, 116, 97, 108, 101, 61]⟩ : ByteArray) ++ decT n8).size = 10 + (decT n8).size := pre_size _ _
  have z9 : ((⟨#[109, 105, 110, 45, 102, 114, 101, 115, 104, 61]⟩ : ByteArray) ++ decT n9).size = 10 + (decT n9).size := pre_size _ _
  have e0 : (joinL (dl0 b0 b1 b2 b3 b4 b5 n6 n7 n8 n9)).length ≤ 10 := by
    have := joinL_add [] b0 (⟨#[110, 111, 45, 115, 116, 111, 114, 101]⟩ : ByteArray)
    have q : (joinL ([] : List ByteArray)).length = 0 := by simp [joinL, Go.Lib.join_nil]
    have q2 : (⟨#[110, 111, 45, 115, 116, 111, 114, 101]⟩ : ByteArray).size = 8 := rfl
    unfold dl0; omega
  have e1 : (joinL (dl1 b0 b1 b2 b3 b4 b5 n6 n7 n8 n9)).length ≤ 20 := Nat.le_trans (joinL_add _ _ _) (show _ + 2 + 8 ≤ 20 by omega)
  have e2 : (joinL (dl2 b0 b1 b2 b3 b4 b5 n6 n7 n8 n9)).length ≤ 29 := Nat.le_trans (joinL_add _ _ _) (show _ + 2 + 7 ≤ 29 by omega)
  have e3 : (joinL (dl3 b0 b1 b2 b3 b4 b5 n6 n7 n8 n9)).length ≤ 37 := Nat.le_trans (joinL_add _ _ _) (show _ + 2 + 6 ≤ 37 by omega)
  have e4 : (joinL (dl4 b0 b1 b2 b3 b4 b5 n6 n7 n8 n9)).length ≤ 54 := Nat.le_trans (joinL_add _ _ _) (show _ + 2 + 15 ≤ 54 by omega)
  have e5 : (joinL (dl5 b0 b1 b2 b3 b4 b5 n6 n7 n8 n9)).length ≤ 70 := Nat.le_trans (joinL_add _ _ _) (show _ + 2 + 14 ≤ 70 by omega)
  have e6 : (joinL (dl6 b0 b1 b2 b3 b4 b5 n6 n7 n8 n9)).length ≤ 90 := by have := joinL_add (dl5 b0 b1 b2 b3 b4 b5 n6 n7 n8 n9) (decide (0 ≤ n6)) ((⟨#[109, 97, 120, 45, 97, 103, 101, 61]⟩ : ByteArray) ++ decT n6); unfold dl6; omega
  have e7 : (joinL (dl7 b0 b1 b2 b3 b4 b5 n6 n7 n8 n9)).length ≤ 111 := by have := joinL_add (dl6 b0 b1 b2 b3 b4 b5 n6 n7 n8 n9) (decide (0 ≤ n7)) ((⟨#[115, 45, 109, 97, 120, 97, 103, 101, 61]⟩ : ByteArray) ++ decT n7); unfold dl7; omega
  have e8 : (joinL (dl8 b0 b1 b2 b3 b4 b5 n6 n7 n8 n9)).length ≤ 133 := by have := joinL_add (dl7 b0 b1 b2 b3 b4 b5 n6 n7 n8 n9) (decide (0 ≤ n8)) ((⟨#[109, 97, 120, 45, 115, 116, 97, 108, 101, 61]⟩ : ByteArray) ++ decT n8); unfold dl8; omega
  have := joinL_add (dl8 b0 b1 b2 b3 b4 b5 n6 n7 n8 n9) (decide (0 ≤ n9)) ((⟨#[109, 105, 110, 45, 102, 114, 101, 115, 104, 61]⟩ : ByteArray) ++ decT n9)
  unfold dl9; omega
theorem elems_none : elementsOf (⟨#[]⟩ : ByteArray) = [] := by
  unfold elementsOf
  rw [if_neg (by decide)]
  have h1 := trimS_size ((⟨#[]⟩ : ByteArray).extract 0 0)
  have h2 : ((⟨#[]⟩ : ByteArray).extract 0 0).size = 0 := by rw [size_extract]; rfl
  show addS [] (trimS ((⟨#[]⟩ : ByteArray).extract 0 0)) = []
  unfold addS
  rw [if_pos ((toList_nil _).2 (by omega))]
def CCB : ByteArray := ⟨#[67, 97, 99, 104, 101, 45, 67, 111, 110, 116, 114, 111, 108]⟩
theorem CC_same : sameB CCB ccB = true := by
  have e : foldS CCB = foldS ccB := by decide +kernel
  unfold sameB
  rw [e]
  exact beq_self_eq_true _
theorem txt_none : txt [] = (⟨#[]⟩ : ByteArray) := by unfold txt joinL; rfl
theorem read_text (xs : List ByteArray) (hg : AllGood xs) (hz : (joinL xs).length ≤ 190) : dirsOfL [⟨CCB, txt xs⟩] = xs.foldl stepP dir0 := by
  have hsz := txt_size xs
  cases xs with
  | nil =>
    have hok : fieldOkB CCB (txt []) = true := by
      rw [txt_none]
      have e1 : tokB CCB = true := by decide +kernel
      unfold fieldOkB
      rw [e1, trim_none]
      rw [decide_eq_true (show CCB.size ≤ 40 by decide), decide_eq_true (show (⟨#[]⟩ : ByteArray).size ≤ 190 by decide)]
      simp
      rfl
    rw [dirs_one ⟨CCB, txt []⟩ hok CC_same]
    show (elementsOf (txt [])).foldl stepP dir0 = _
    rw [txt_none, elems_none]
  | cons x r =>
    have hx := hg x (List.mem_cons_self ..)
    have hr : ∀ w ∈ r.map (fun y => y.data.toList), GoodW w := by
      intro w hw
      obtain ⟨y, hy, rfl⟩ := List.mem_map.mp hw
      exact hg y (List.mem_cons_of_mem _ hy)
    have hs : (txt (x :: r)).data.toList = x.data.toList ++ Go.Lib.joinTail [44, 32] (r.map fun y => y.data.toList) := by
      unfold txt joinL
      rw [List.map_cons, Go.Lib.join_cons]
    have hok : fieldOkB CCB (txt (x :: r)) = true := field_ok _ _ (by decide) (by decide +kernel) _ _ hx hr hs (by omega)
    rw [dirs_one ⟨CCB, txt (x :: r)⟩ hok CC_same]
    show (elementsOf (txt (x :: r))).foldl stepP dir0 = _
    rw [elements_words _ _ hx hr _ hs (by omega)]
    congr 1
    rw [List.map_cons, List.map_map]
    have e : ∀ y : ByteArray, (⟨y.data.toList.toArray⟩ : ByteArray) = y := fun y => by apply ByteArray.ext; simp
    rw [e x]
    congr 1
    exact (List.map_congr_left (g := fun y => y) (fun y _ => e y)).trans (List.map_id' r)
theorem dirs_back (b0 b1 b2 b3 b4 b5 : Bool) (n6 n7 n8 n9 : Int) (h : dirsOkOf n6 n7 n8 n9 = true) (k : Nat) (hk : 40000 < k) :
    impl_ReadDirs.f k [⟨CCB, txt (dl9 b0 b1 b2 b3 b4 b5 n6 n7 n8 n9)⟩] = some (b0, b1, b2, b3, b4, b5, n6, n7, n8, n9) := by
  unfold dirsOkOf dOk at h
  simp only [Bool.and_eq_true, decide_eq_true_eq] at h
  obtain ⟨h6, h7, h8, h9⟩ := h
  rw [impl_ReadDirs_eq _ k hk, read_text _ (dl_good b0 b1 b2 b3 b4 b5 n6 n7 n8 n9 h6.2 h7.2 h8.2 h9.2) (dl_short b0 b1 b2 b3 b4 b5 n6 n7 n8 n9 h6.2 h7.2 h8.2 h9.2), dl_fold b0 b1 b2 b3 b4 b5 n6 n7 n8 n9 h6 h7 h8 h9]
  rfl
theorem impl_text (b0 b1 b2 b3 b4 b5 : Bool) (n6 n7 n8 n9 : Int) : impl_DirsText.f b0 b1 b2 b3 b4 b5 n6 n7 n8 n9 = some (if dirsOkOf n6 n7 n8 n9 = true then txt (dl9 b0 b1 b2 b3 b4 b5 n6 n7 n8 n9) else ⟨#[]⟩) := by
  unfold impl_DirsText.f
  rw [impl_DirsOk_eq, Option.bind_some]
  by_cases hok : dirsOkOf n6 n7 n8 n9 = true
  · have h := hok
    unfold dirsOkOf dOk at h
    simp only [Bool.and_eq_true, decide_eq_true_eq] at h
    obtain ⟨h6, h7, h8, h9⟩ := h
    have hs := dl_short b0 b1 b2 b3 b4 b5 n6 n7 n8 n9 h6.2 h7.2 h8.2 h9.2
    have s6 := decT_short n6 h6.2
    have s7 := decT_short n7 h7.2
    have s8 := decT_short n8 h8.2
    have s9 := decT_short n9 h9.2
    rw [if_pos hok, if_pos hok, if_pos ⟨by omega, by omega, by omega, by omega, by omega⟩]
    rfl
  · rw [if_neg hok, if_neg hok]
end Go.Proofs.YtahgiblifkchaaaDoor.P
end
section
/- The law FnDirs, walked: it answers true, given what the functions that it calls answer. -/
namespace Go.Proofs.YtahgiblifkchaaaDoor.P
open Go.RowKit Go.Proofs.YtahgiblifkchaaaDoorW.PrintWords Go.Proofs.YtahgiblifkchaaaDoorW.PrintLast Go.Proofs.YtahgiblifkchaaaDoorW.PrintMore
attribute [local go_sem] max2_int min2_int max_two min_two max_three min_three max_four min_four
set_option linter.unusedVariables false
set_option linter.unusedSimpArgs false
set_option maxHeartbeats 8000000 in
set_option maxRecDepth 100000 in
theorem dirsBack_calls (k : Nat) (A0 : Option Addr) (c0 : Nat) (l0 : List Int) (s : ByteArray) (b0 b1 b2 b3 b4 b5 : Bool) (n6 n7 n8 n9 : Int) (okv : Bool) (w : World) (ht : Tab10 w) (hr0 : Kd.C (Kd.int .u8) w A0 l0.length l0) (hc0 : l0.length ≤ c0)
    (h1 : spec_DrawDirsText.f k l0 = some (b0, b1, b2, b3, b4, b5, n6, n7, n8, n9)) (h2 : impl_DirsText.f b0 b1 b2 b3 b4 b5 n6 n7 n8 n9 = some s) (h3 : spec_DirsOk.f b0 b1 b2 b3 b4 b5 n6 n7 n8 n9 = some okv)
    (hF : okv = false → s = ⟨#[]⟩) (hT : okv = true → impl_ReadDirs.f k [⟨⟨#[67, 97, 99, 104, 101, 45, 67, 111, 110, 116, 114, 111, 108]⟩, s⟩] = some (b0, b1, b2, b3, b4, b5, n6, n7, n8, n9) ∧ impl_DirsOk.f b0 b1 b2 b3 b4 b5 n6 n7 n8 n9 = some true)
    (hR : impl_ReadDirs.f k [rulesF] = some (false, false, false, true, false, false, 5, -1, -1, -1)) (hD : impl_DirsText.f false false false true false false 5 (-1) (-1) (-1) = some rulesT) :
    Calls Tryd.prog 4 #[.slice A0 l0.length c0] w fun e w' => e = .returned (.bool true) ∧ Below w.heap.size w w' := by
  have hu25 := Tryd.underlying25
  have hu34 := Tryd.underlying34
  have HT := Aside0.mk ht
  have HR0 := Aside0.mk hr0
  have HC0 := Aside0.mk hc0
  have H1 := Aside0.mk h1
  have H2 := Aside0.mk h2
  have H3 := Aside0.mk h3
  have HF := Aside0.mk hF
  have HTr := Aside0.mk hT
  have HR := Aside0.mk hR
  have HD := Aside0.mk hD
  clear ht hr0 hc0 h1 h2 h3 hF hT hR hD
  go_enter Tryd.func4, Tryd.ntmps4
  go_wp2_with fail
  refine (spec_DrawDirsText.calls k _ _ l0 b0 b1 b2 b3 b4 b5 n6 n7 n8 n9 _ HR0.out HC0.out H1.out).mono ?_
  rintro e w2 ⟨rfl, hb⟩
  dsimp only
  have B2 := Aside0.mk hb
  clear hb
  have hd0 := blk_new w2 (Obj.cells (dirBox b0 b1 b2 b3 b4 b5 n6 n7 n8 n9) 25)
  have D0 := Aside0.mk hd0
  clear hd0
  have hc0 : (w2.alloc (Obj.cells #[.bool b0, .bool b1, .bool b2, .bool b3, .bool b4, .bool b5, .int .i64 n6, .int .i64 n7, .int .i64 n8, .int .i64 n9] 25)).cell? ⟨w2.heap.size, 0, none⟩ = some (.bool b0) := blk_cell D0.out 0
  have hc1 : (w2.alloc (Obj.cells #[.bool b0, .bool b1, .bool b2, .bool b3, .bool b4, .bool b5, .int .i64 n6, .int .i64 n7, .int .i64 n8, .int .i64 n9] 25)).cell? ⟨w2.heap.size, 1, none⟩ = some (.bool b1) := blk_cell D0.out 1
  have hc2 : (w2.alloc (Obj.cells #[.bool b0, .bool b1, .bool b2, .bool b3, .bool b4, .bool b5, .int .i64 n6, .int .i64 n7, .int .i64 n8, .int .i64 n9] 25)).cell? ⟨w2.heap.size, 2, none⟩ = some (.bool b2) := blk_cell D0.out 2
  have hc3 : (w2.alloc (Obj.cells #[.bool b0, .bool b1, .bool b2, .bool b3, .bool b4, .bool b5, .int .i64 n6, .int .i64 n7, .int .i64 n8, .int .i64 n9] 25)).cell? ⟨w2.heap.size, 3, none⟩ = some (.bool b3) := blk_cell D0.out 3
  have hc4 : (w2.alloc (Obj.cells #[.bool b0, .bool b1, .bool b2, .bool b3, .bool b4, .bool b5, .int .i64 n6, .int .i64 n7, .int .i64 n8, .int .i64 n9] 25)).cell? ⟨w2.heap.size, 4, none⟩ = some (.bool b4) := blk_cell D0.out 4
  have hc5 : (w2.alloc (Obj.cells #[.bool b0, .bool b1, .bool b2, .bool b3, .bool b4, .bool b5, .int .i64 n6, .int .i64 n7, .int .i64 n8, .int .i64 n9] 25)).cell? ⟨w2.heap.size, 5, none⟩ = some (.bool b5) := blk_cell D0.out 5
  have hc6 : (w2.alloc (Obj.cells #[.bool b0, .bool b1, .bool b2, .bool b3, .bool b4, .bool b5, .int .i64 n6, .int .i64 n7, .int .i64 n8, .int .i64 n9] 25)).cell? ⟨w2.heap.size, 6, none⟩ = some (.int .i64 n6) := blk_cell D0.out 6
  have hc7 : (w2.alloc (Obj.cells #[.bool b0, .bool b1, .bool b2, .bool b3, .bool b4, .bool b5, .int .i64 n6, .int .i64 n7, .int .i64 n8, .int .i64 n9] 25)).cell? ⟨w2.heap.size, 7, none⟩ = some (.int .i64 n7) := blk_cell D0.out 7
  have hc8 : (w2.alloc (Obj.cells #[.bool b0, .bool b1, .bool b2, .bool b3, .bool b4, .bool b5, .int .i64 n6, .int .i64 n7, .int .i64 n8, .int .i64 n9] 25)).cell? ⟨w2.heap.size, 8, none⟩ = some (.int .i64 n8) := blk_cell D0.out 8
  have hc9 : (w2.alloc (Obj.cells #[.bool b0, .bool b1, .bool b2, .bool b3, .bool b4, .bool b5, .int .i64 n6, .int .i64 n7, .int .i64 n8, .int .i64 n9] 25)).cell? ⟨w2.heap.size, 9, none⟩ = some (.int .i64 n9) := blk_cell D0.out 9
  go_wp2_with fail
  refine (impl_DirsText.calls b0 b1 b2 b3 b4 b5 n6 n7 n8 n9 s _ (tab_below HT.out (below_alloc B2.out _) (tab_lt HT.out)) H2.out).mono ?_
  rintro e w3 ⟨rfl, hb⟩
  dsimp only
  have B3 := Aside0.mk (below_step (below_alloc B2.out _) hb)
  have D3 := Aside0.mk (blk_below D0.out hb)
  clear hb B2 D0 hc0 hc1 hc2 hc3 hc4 hc5 hc6 hc7 hc8 hc9
  have hc0 : (w3).cell? ⟨w2.heap.size, 0, none⟩ = some (.bool b0) := blk_cell D3.out 0
  have hc1 : (w3).cell? ⟨w2.heap.size, 1, none⟩ = some (.bool b1) := blk_cell D3.out 1
  have hc2 : (w3).cell? ⟨w2.heap.size, 2, none⟩ = some (.bool b2) := blk_cell D3.out 2
  have hc3 : (w3).cell? ⟨w2.heap.size, 3, none⟩ = some (.bool b3) := blk_cell D3.out 3
  have hc4 : (w3).cell? ⟨w2.heap.size, 4, none⟩ = some (.bool b4) := blk_cell D3.out 4
  have hc5 : (w3).cell? ⟨w2.heap.size, 5, none⟩ = some (.bool b5) := blk_cell D3.out 5
  have hc6 : (w3).cell? ⟨w2.heap.size, 6, none⟩ = some (.int .i64 n6) := blk_cell D3.out 6
  have hc7 : (w3).cell? ⟨w2.heap.size, 7, none⟩ = some (.int .i64 n7) := blk_cell D3.out 7
  have hc8 : (w3).cell? ⟨w2.heap.size, 8, none⟩ = some (.int .i64 n8) := blk_cell D3.out 8
  have hc9 : (w3).cell? ⟨w2.heap.size, 9, none⟩ = some (.int .i64 n9) := blk_cell D3.out 9
  go_wp2_with fail
  refine (spec_DirsOk.calls b0 b1 b2 b3 b4 b5 n6 n7 n8 n9 okv _ H3.out).mono ?_
  rintro e w4 ⟨rfl, hb⟩
  dsimp only
  have B4 := Aside0.mk (below_step B3.out hb)
  have D4 := Aside0.mk (blk_below D3.out hb)
  clear hb B3 D3 hc0 hc1 hc2 hc3 hc4 hc5 hc6 hc7 hc8 hc9
  cases okv with
  | false =>
    obtain rfl := HF.out rfl
    go_wp2_with fail
    refine (rules_calls k _ (tab_below HT.out B4.out (tab_lt HT.out)) HR.out HD.out).mono ?_
    rintro e w5 ⟨rfl, hb⟩
    dsimp only
    have B5 := Aside0.mk (below_step B4.out hb)
    clear hb B4
    go_wp2
    go_ret
    exact ⟨rfl, B5.out⟩
  | true =>
    have HRd := Aside0.mk (HTr.out rfl).1
    have HOk := Aside0.mk (HTr.out rfl).2
    have hb0 := blk_new w4 (Obj.cells #[.string ⟨#[67, 97, 99, 104, 101, 45, 67, 111, 110, 116, 114, 111, 108]⟩, .string s] 34)
    have hC := one_field _ _ ⟨⟨#[67, 97, 99, 104, 101, 45, 67, 111, 110, 116, 114, 111, 108]⟩, s⟩ hb0
    go_wp2_with fail
    refine (impl_ReadDirs.calls k _ 1 [⟨⟨#[67, 97, 99, 104, 101, 45, 67, 111, 110, 116, 114, 111, 108]⟩, s⟩] b0 b1 b2 b3 b4 b5 n6 n7 n8 n9 _ hC (Nat.le_refl _) HRd.out).mono ?_
    rintro e w5 ⟨rfl, hb⟩
    dsimp only
    have B5 := Aside0.mk (below_step (below_alloc B4.out _) hb)
    have D5 := Aside0.mk (blk_below (blk_below D4.out (below_alloc (Below.refl _ _) _)) hb)
    clear hb B4 D4 hC hb0
    have D6 := Aside0.mk (blk_below D5.out (below_alloc (Below.refl _ _) (Obj.cells (dirBox b0 b1 b2 b3 b4 b5 n6 n7 n8 n9) 25)))
    have E6 := Aside0.mk (blk_new w5 (Obj.cells (dirBox b0 b1 b2 b3 b4 b5 n6 n7 n8 n9) 25))
    have B6 := Aside0.mk (below_alloc B5.out (Obj.cells (dirBox b0 b1 b2 b3 b4 b5 n6 n7 n8 n9) 25))
    clear D5 B5
    have hc0 : (w5.alloc (Obj.cells #[.bool b0, .bool b1, .bool b2, .bool b3, .bool b4, .bool b5, .int .i64 n6, .int .i64 n7, .int .i64 n8, .int .i64 n9] 25)).cell? ⟨w2.heap.size, 0, none⟩ = some (.bool b0) := blk_cell D6.out 0
    have hc1 : (w5.alloc (Obj.cells #[.bool b0, .bool b1, .bool b2, .bool b3, .bool b4, .bool b5, .int .i64 n6, .int .i64 n7, .int .i64 n8, .int .i64 n9] 25)).cell? ⟨w2.heap.size, 1, none⟩ = some (.bool b1) := blk_cell D6.out 1
    have hc2 : (w5.alloc (Obj.cells #[.bool b0, .bool b1, .bool b2, .bool b3, .bool b4, .bool b5, .int .i64 n6, .int .i64 n7, .int .i64 n8, .int .i64 n9] 25)).cell? ⟨w2.heap.size, 2, none⟩ = some (.bool b2) := blk_cell D6.out 2
    have hc3 : (w5.alloc (Obj.cells #[.bool b0, .bool b1, .bool b2, .bool b3, .bool b4, .bool b5, .int .i64 n6, .int .i64 n7, .int .i64 n8, .int .i64 n9] 25)).cell? ⟨w2.heap.size, 3, none⟩ = some (.bool b3) := blk_cell D6.out 3
    have hc4 : (w5.alloc (Obj.cells #[.bool b0, .bool b1, .bool b2, .bool b3, .bool b4, .bool b5, .int .i64 n6, .int .i64 n7, .int .i64 n8, .int .i64 n9] 25)).cell? ⟨w2.heap.size, 4, none⟩ = some (.bool b4) := blk_cell D6.out 4
    have hc5 : (w5.alloc (Obj.cells #[.bool b0, .bool b1, .bool b2, .bool b3, .bool b4, .bool b5, .int .i64 n6, .int .i64 n7, .int .i64 n8, .int .i64 n9] 25)).cell? ⟨w2.heap.size, 5, none⟩ = some (.bool b5) := blk_cell D6.out 5
    have hc6 : (w5.alloc (Obj.cells #[.bool b0, .bool b1, .bool b2, .bool b3, .bool b4, .bool b5, .int .i64 n6, .int .i64 n7, .int .i64 n8, .int .i64 n9] 25)).cell? ⟨w2.heap.size, 6, none⟩ = some (.int .i64 n6) := blk_cell D6.out 6
    have hc7 : (w5.alloc (Obj.cells #[.bool b0, .bool b1, .bool b2, .bool b3, .bool b4, .bool b5, .int .i64 n6, .int .i64 n7, .int .i64 n8, .int .i64 n9] 25)).cell? ⟨w2.heap.size, 7, none⟩ = some (.int .i64 n7) := blk_cell D6.out 7
    have hc8 : (w5.alloc (Obj.cells #[.bool b0, .bool b1, .bool b2, .bool b3, .bool b4, .bool b5, .int .i64 n6, .int .i64 n7, .int .i64 n8, .int .i64 n9] 25)).cell? ⟨w2.heap.size, 8, none⟩ = some (.int .i64 n8) := blk_cell D6.out 8
    have hc9 : (w5.alloc (Obj.cells #[.bool b0, .bool b1, .bool b2, .bool b3, .bool b4, .bool b5, .int .i64 n6, .int .i64 n7, .int .i64 n8, .int .i64 n9] 25)).cell? ⟨w2.heap.size, 9, none⟩ = some (.int .i64 n9) := blk_cell D6.out 9
    have he0 : (w5.alloc (Obj.cells #[.bool b0, .bool b1, .bool b2, .bool b3, .bool b4, .bool b5, .int .i64 n6, .int .i64 n7, .int .i64 n8, .int .i64 n9] 25)).cell? ⟨w5.heap.size, 0, none⟩ = some (.bool b0) := blk_cell E6.out 0
    have he1 : (w5.alloc (Obj.cells #[.bool b0, .bool b1, .bool b2, .bool b3, .bool b4, .bool b5, .int .i64 n6, .int .i64 n7, .int .i64 n8, .int .i64 n9] 25)).cell? ⟨w5.heap.size, 1, none⟩ = some (.bool b1) := blk_cell E6.out 1
    have he2 : (w5.alloc (Obj.cells #[.bool b0, .bool b1, .bool b2, .bool b3, .bool b4, .bool b5, .int .i64 n6, .int .i64 n7, .int .i64 n8, .int .i64 n9] 25)).cell? ⟨w5.heap.size, 2, none⟩ = some (.bool b2) := blk_cell E6.out 2
    have he3 : (w5.alloc (Obj.cells #[.bool b0, .bool b1, .bool b2, .bool b3, .bool b4, .bool b5, .int .i64 n6, .int .i64 n7, .int .i64 n8, .int .i64 n9] 25)).cell? ⟨w5.heap.size, 3, none⟩ = some (.bool b3) := blk_cell E6.out 3
    have he4 : (w5.alloc (Obj.cells #[.bool b0, .bool b1, .bool b2, .bool b3, .bool b4, .bool b5, .int .i64 n6, .int .i64 n7, .int .i64 n8, .int .i64 n9] 25)).cell? ⟨w5.heap.size, 4, none⟩ = some (.bool b4) := blk_cell E6.out 4
    have he5 : (w5.alloc (Obj.cells #[.bool b0, .bool b1, .bool b2, .bool b3, .bool b4, .bool b5, .int .i64 n6, .int .i64 n7, .int .i64 n8, .int .i64 n9] 25)).cell? ⟨w5.heap.size, 5, none⟩ = some (.bool b5) := blk_cell E6.out 5
    have he6 : (w5.alloc (Obj.cells #[.bool b0, .bool b1, .bool b2, .bool b3, .bool b4, .bool b5, .int .i64 n6, .int .i64 n7, .int .i64 n8, .int .i64 n9] 25)).cell? ⟨w5.heap.size, 6, none⟩ = some (.int .i64 n6) := blk_cell E6.out 6
    have he7 : (w5.alloc (Obj.cells #[.bool b0, .bool b1, .bool b2, .bool b3, .bool b4, .bool b5, .int .i64 n6, .int .i64 n7, .int .i64 n8, .int .i64 n9] 25)).cell? ⟨w5.heap.size, 7, none⟩ = some (.int .i64 n7) := blk_cell E6.out 7
    have he8 : (w5.alloc (Obj.cells #[.bool b0, .bool b1, .bool b2, .bool b3, .bool b4, .bool b5, .int .i64 n6, .int .i64 n7, .int .i64 n8, .int .i64 n9] 25)).cell? ⟨w5.heap.size, 8, none⟩ = some (.int .i64 n8) := blk_cell E6.out 8
    have he9 : (w5.alloc (Obj.cells #[.bool b0, .bool b1, .bool b2, .bool b3, .bool b4, .bool b5, .int .i64 n6, .int .i64 n7, .int .i64 n8, .int .i64 n9] 25)).cell? ⟨w5.heap.size, 9, none⟩ = some (.int .i64 n9) := blk_cell E6.out 9
    go_wp2_with fail
    refine (impl_DirsOk.calls b0 b1 b2 b3 b4 b5 n6 n7 n8 n9 true _ HOk.out).mono ?_
    rintro e w7 ⟨rfl, hb⟩
    dsimp only
    have B7 := Aside0.mk (below_step B6.out hb)
    clear hb B6 D6 E6 hc0 hc1 hc2 hc3 hc4 hc5 hc6 hc7 hc8 hc9 he0 he1 he2 he3 he4 he5 he6 he7 he8 he9
    go_wp2_with fail
    refine (rules_calls k _ (tab_below HT.out B7.out (tab_lt HT.out)) HR.out HD.out).mono ?_
    rintro e w8 ⟨rfl, hb⟩
    dsimp only
    have B8 := Aside0.mk (below_step B7.out hb)
    clear hb B7
    go_wp2
    go_ret
    exact ⟨rfl, B8.out⟩
end Go.Proofs.YtahgiblifkchaaaDoor.P
end
