-- Written by a program of ours (myprint.py, by way of the kit's print) out of Lean's print of the translation.
import Derived.Laws.RangeAny
import Derived.Lib.DecodeN
import Derived.Lib.IndexAny
import Derived.Lib.MapLaws
import Derived.Lib.OthersKept
import Derived.WalkMore
import Derived.Test.YtonmpnghlopnoaaGreatDoorShelf
import Derived.Test.YtonmpnghlopnoaaGreatDoorPx0
import Derived.Test.YtonmpnghlopnoaaGreatDoorWC
namespace Go.Proofs.YtonmpnghlopnoaaGreatDoor.P
open Go.RowKit Go.Proofs.YtonmpnghlopnoaaGreatDoorW.PrintWords Go.Proofs.YtonmpnghlopnoaaGreatDoorW.PrintLast Go.Proofs.YtonmpnghlopnoaaGreatDoorW.PrintMore
attribute [local go_sem] max2_int min2_int max_two min_two max_three min_three max_four min_four   -- for this text's walks alone
set_option linter.unusedVariables false
set_option linter.unusedSimpArgs false

-- IMPORT Shelf Derived.Lib.OthersKept Derived.Lib.MapLaws Derived.Lib.DecodeN Derived.Lib.IndexAny Derived.Laws.RangeAny Derived.WalkMore
def strings_IndexAny.rn6T : Bool × List (List Nat × List Nat) := (true, [([], []), ([], []), ([0, 1], [0, 1]), ([], []), ([], []), ([3, 4], [3, 4]), ([2, 5], [2, 5])])
def strings_IndexAny.rn6B : List Nat := [0, 0, 3, 0, 0, 24, 63]
def strings_IndexAny.rn7T : Bool × List (List Nat × List Nat) := (true, [([], []), ([], []), ([1], [1]), ([0, 2], [0, 2]), ([], []), ([], []), ([4, 5], [4, 5]), ([3, 6], [3, 6]), ([7, 7, 0, 1, 2, 3, 4, 5, 6, 7], [7])])
def strings_IndexAny.rn7B : List Nat := [0, 0, 2, 7, 0, 0, 48, 127, 255]
theorem strings_IndexAny.rn6_tab : rtab .any (opsOf Tryz.f70 6) = strings_IndexAny.rn6T := by kernel_rfl
theorem strings_IndexAny.rn6_bits : waitsOk strings_IndexAny.rn6T.2 strings_IndexAny.rn6B = true := by kernel_rfl
theorem strings_IndexAny.rn7_tab : rtab .any (opsOf Tryz.f70 7) = strings_IndexAny.rn7T := by kernel_rfl
theorem strings_IndexAny.rn7_bits : waitsOk strings_IndexAny.rn7T.2 strings_IndexAny.rn7B = true := by kernel_rfl
theorem strings_IndexAny.below_iter (w : World) (s : ByteArray) (p : Nat) : Below w.heap.size w (w.iter s p) := by
 unfold World.iter
 exact below_alloc (Below.refl _ _) _
set_option maxHeartbeats 8000000 in
set_option maxRecDepth 100000 in
theorem strings_IndexAny.rune_none (r : Int) (w : World) (h0 : 128 ≤ r) (h1 : r ≤ 2147483647) :
  Calls Tryz.prog 70 #[.string ⟨#[13, 10]⟩, .int .i32 r] w fun e w' => e = .returned (.int .i64 (-1)) ∧ Below w.heap.size w w' := by
 have c0 : decide (0 ≤ r) = true := decide_eq_true (by omega)
 have c1 : decide (r < 128) = false := decide_eq_false (by omega)
 by_cases hb : r = 65533
 ·subst hb
  go_enter Tryz.func70, Tryz.ntmps70
  go_wp2_with fail
  go_loopg [5, 6] 2 (fun g _ _ wx => ∃ i : Nat, i + g = 2 ∧ wx = w.iter (⟨#[13, 10]⟩ : ByteArray) i)
  case atStart => exact ⟨0, rfl, rfl⟩
  case round =>
   obtain ⟨i, hig, rfl⟩ := hrel
   cases gk with
   | zero =>
    obtain rfl : i = 2 := by omega
    have hnx := run_next_end (P := Tryz.prog) w (⟨#[13, 10]⟩ : ByteArray) 2
    have hz : ((⟨#[13, 10]⟩ : ByteArray)).size = 2 := rfl
    go_wp2
    go_ret
    exact ⟨rfl, strings_IndexAny.below_iter w _ _⟩
   | succ g =>
    have hi : i < (⟨#[13, 10]⟩ : ByteArray).size := by show i < 2; omega
    have hx : ∀ j : Nat, (hj : j < (⟨#[13, 10]⟩ : ByteArray).size) → ((⟨#[13, 10]⟩ : ByteArray)[j]'hj).toNat < 128 := by decide
    have hnx := fun ty => run_next_ascii (P := Tryz.prog) w (⟨#[13, 10]⟩ : ByteArray) i ty hi (hx i hi)
    have hne : (((((⟨#[13, 10]⟩ : ByteArray)[i]'hi).toNat : Nat) : Int) == 65533) = false := beq_eq_false_iff_ne.mpr (by have := hx i hi; omega)
    generalize ((⟨#[13, 10]⟩ : ByteArray)[i]'hi).toNat = xv at hnx hne
    go_wp2
    go_roundg g
    case measure => omega
    case rel => exact ⟨i + 1, by omega, rfl⟩
 ·have c2 : (r == 65533) = false := beq_eq_false_iff_ne.mpr hb
  go_enter Tryz.func70, Tryz.ntmps70
  go_wp2_with fail
  refine (Tryz.utf8_ValidRune r w).mono ?_
  rintro e w2 ⟨rfl, rfl⟩
  dsimp only
  by_cases hv : Lib.validRune r = true
  ·rw [hv]
   go_wp2_with fail
   go_step3
   go_wp2
   have hF := encode_facts r (by unfold Utf8.valid; unfold Lib.validRune at hv; simp at hv ⊢; omega) h0
   generalize Utf8.encode r = E at hF ⊢
   obtain ⟨hF1, hF2, hF3⟩ := hF
   have hL : wrap64 ((E.size : Int) - 1) = ((E.size - 1 : Nat) : Int) := by unfold wrap64; omega
   rw [hL]
   go_loopg [9, 10] 1 (fun g v9 v10 wx => v9 = .int .i64 ((E.size - 1 : Nat) : Int) ∧ wx = w2)
   case atStart => exact ⟨rfl, rfl⟩
   case round =>
    obtain ⟨rfl, rfl⟩ := hrel
    by_cases h2 : E.size = 2
    ·have e1 : E.size - 1 = 1 := by omega
     have hb : ∀ h : 1 < E.size, 128 ≤ (E[1]'h).toNat := by
      intro h
      have := hF3 (by omega)
      simp only [e1] at this
      exact this
     have hz : ((⟨#[13, 10]⟩ : ByteArray)).size = 2 := rfl
     have hE := bt_at E 1
     have hb2 : 128 ≤ bt E 1 := by
      have h9 : 1 < E.size := by omega
      have := hE h9
      have h8 := hb h9
      have h7 : ((1 : Int)).toNat = 1 := rfl
      simp only [h7] at this
      omega
     have h9 : 1 < E.size := by omega
     have hne : (((((⟨#[13, 10]⟩ : ByteArray)[1]'(by decide)).toNat : Nat) : Int) != (((E[1]'h9).toNat : Nat) : Int)) = true := by
      have h8 := hb h9
      have h7 : ((⟨#[13, 10]⟩ : ByteArray)[1]'(by decide)).toNat = 10 := by decide
      rw [h7]
      exact bne_iff_ne.mpr (by omega)
     have hw2 : wrap64 2 = 2 := by unfold wrap64; omega
     have hs2 : ((⟨#[13, 10]⟩ : ByteArray).extract 2 2).data.toList = [] := by decide
     have q1 : ((1 : Int) < (E.size : Int)) = True := eq_true (by omega)
     have q1n : (1 < E.size) = True := eq_true (by omega)
     go_wp2_with fail
     go_step3
     go_wp2_with fail
     refine start_ (n := 7) (S := fun w' => True) (ds := []) #[false, false, false, false, false, false, false] (by kernel_rfl) rfl rfl trivial (fun hHeld => ?_); refine with_tabW strings_IndexAny.rn6_tab strings_IndexAny.rn6_bits (fun HT_ HW_ => ?_)
     refine pureT 0 (some 27) ?_
     refine pureT 1 (some 28) ?_
     refine pureT 2 (some 29) ?_
     refine pureT 3 (some 30) ?_
     refine pureT 4 (some 31) ?_
     refine pureT 5 (some 32) ?_
     refine pureT 6 (some 33) ?_
     refine done_ (done_of HT_.out (by kernel_rfl)) ?_
     clear HT_ HW_
     go_wp2_with fail
     refine start_ (n := 9) (S := fun w' => True) (ds := []) #[false, false, false, false, false, false, false, false, false] (by kernel_rfl) rfl rfl trivial (fun hHeld => ?_); refine with_tabW strings_IndexAny.rn7_tab strings_IndexAny.rn7_bits (fun HT_ HW_ => ?_)
     refine pureT 0 (some 34) ?_
     refine pureT 1 (some 35) ?_
     refine pureT 2 (some 36) ?_
     refine pureT 3 (some 37) ?_
     refine pureT 4 (some 38) ?_
     refine pureT 5 (some 39) ?_
     refine pureT 6 (some 40) ?_
     refine one_ (i := 7) (N := some 41) #[true, true, true, true, true, true, true, true, false] rfl rfl (one_of HT_.out (by kernel_rfl)) (by decide) (fun K hK => ?_)
     refine goes_ Tryz.func103 (by kernel_rfl) rfl #[.string ((⟨#[13, 10]⟩ : ByteArray).extract 2 2), .int .u8 (((E[1]'h9).toNat : Nat) : Int)] (by rfl) rfl rfl (by (try simp only [List.map_toArray, List.map_cons, List.map_nil]); first | done | rfl) ?_
     refine (Tryz.strings_IndexByte _ _ _).mono ?_
     rintro e w5 ⟨rfl, rfl⟩
     refine ⟨_, rfl, ?_⟩
     rw [hs2]
     refine hK.out _ _ trivial (fun hHeld => ?_)
     clear hK K
     refine normA (some 41) ?_
     refine pureT 8 (some 11) ?_
     refine done_ (done_of HT_.out (by kernel_rfl)) ?_
     clear HT_ HW_
     have hneg : decide (Lib.indexByte [] (((E[1]'h9).toNat : Nat) : Int).toNat.toUInt8 < 0) = true := rfl
     go_wp2
     simp only [Exit.noGoto_ret, Exit.noGoto, Exit.inBlock, Exit.then]
     go_ret
     exact ⟨rfl, by repeat (first | exact Below.refl _ _ | apply below_drew1)⟩
    ·have c3 : decide (((E.size - 1 : Nat) : Int) < 2) = false := decide_eq_false (by omega)
     go_wp2
     rw [Exit.noGoto_ret]
     simp only [Exit.noGoto_ret, Exit.noGoto, Exit.inBlock, Exit.then]
     go_ret
     exact ⟨rfl, Below.refl _ _⟩
  ·rw [show Lib.validRune r = false by simpa using hv]
   go_wp2
   go_ret
   exact ⟨rfl, Below.refl _ _⟩

theorem strings_IndexAny.get_list (s : ByteArray) (j : Nat) (hj : j < s.size) : s.data.toList[j]? = some (s.get! j) := by
 rw [Lib.data_getElem? s j hj]
 congr 1
 unfold ByteArray.get!
 exact (getElem!_pos s.data j hj).symm
theorem strings_IndexAny.high_run (s : ByteArray) (i : Nat) (hi : i < s.size) (h : 128 ≤ (s.get! i).toNat) : i + (Utf8.decode s i).2 ≤ s.size ∧ 1 ≤ (Utf8.decode s i).2 ∧ ∀ j, i ≤ j → j < i + (Utf8.decode s i).2 → 128 ≤ (s.get! j).toNat := by
 rw [Lib.decode_at]
 rcases Lib.decodeN_shape (s.size - i) (s.get! i).toNat (s.get! (i + 1)).toNat (s.get! (i + 2)).toNat (s.get! (i + 3)).toNat with ⟨a, _⟩ | ⟨a1, a2, a3, _, e⟩ | ⟨a1, a2, a3, a4, _, _, e⟩ | ⟨a1, a2, a3, a4, a5, _, _, e⟩ | e
 ·omega
 ·rw [e]
  refine ⟨by show i + 2 ≤ s.size; omega, by show 1 ≤ 2; omega, fun j h1 h2 => ?_⟩
  have h2 : j < i + 2 := h2
  obtain rfl | rfl : j = i ∨ j = i + 1 := by omega
  ·exact h
  ·omega
 ·rw [e]
  refine ⟨by show i + 3 ≤ s.size; omega, by show 1 ≤ 3; omega, fun j h1 h2 => ?_⟩
  have h2 : j < i + 3 := h2
  obtain rfl | rfl | rfl : j = i ∨ j = i + 1 ∨ j = i + 2 := by omega
  ·exact h
  ·omega
  ·omega
 ·rw [e]
  refine ⟨by show i + 4 ≤ s.size; omega, by show 1 ≤ 4; omega, fun j h1 h2 => ?_⟩
  have h2 : j < i + 4 := h2
  obtain rfl | rfl | rfl | rfl : j = i ∨ j = i + 1 ∨ j = i + 2 ∨ j = i + 3 := by omega
  ·exact h
  ·omega
  ·omega
  ·omega
 ·rw [e]
  refine ⟨by show i + 1 ≤ s.size; omega, by show 1 ≤ 1; omega, fun j h1 h2 => ?_⟩
  have h2 : j < i + 1 := h2
  obtain rfl : j = i := by omega
  exact h
theorem strings_IndexAny.no_more {s : ByteArray} {i n : Nat} (hn : Lib.NoAny s.data.toList [13, 10] i) (hs : i + n ≤ s.size) (h : ∀ j, i ≤ j → j < i + n → 128 ≤ (s.get! j).toNat) : Lib.NoAny s.data.toList [13, 10] (i + n) := by
 intro j b hj hb
 by_cases q : j < i
 ·exact hn j b q hb
 ·have h1 := h j (by omega) hj
  rw [strings_IndexAny.get_list s j (by omega)] at hb
  obtain rfl := Option.some.inj hb
  have e1 : (s.get! j) ≠ 13 := fun e => by rw [e] at h1; exact absurd h1 (by decide)
  have e2 : (s.get! j) ≠ 10 := fun e => by rw [e] at h1; exact absurd h1 (by decide)
  simp [e1, e2]
set_option maxHeartbeats 8000000 in
set_option maxRecDepth 100000 in
theorem strings_IndexAny.any_short (s : ByteArray) (w : World) (h8 : s.size ≤ 8) :
  Calls Tryz.prog 34 #[.string s, .string ⟨#[13, 10]⟩] w fun e w' => e = .returned (.int .i64 (Lib.indexAny s.data.toList [13, 10])) ∧ Below w.heap.size w w' := by
 have h8z : decide ((8 : Int) < (s.size : Int)) = false := decide_eq_false (by omega)
 have HB := Aside0.mk (Below.refl w.heap.size w)
 go_enter Tryz.func34, Tryz.ntmps34
 go_wp2_with fail
 refine (Tryz.strings_shouldUseASCIISet _ _).mono ?_
 rintro e w2 ⟨rfl, hw⟩
 subst hw
 dsimp only
 rw [h8z]
 go_wp2_with fail
 go_loopg [9, 10] s.size (fun g _ _ wx => ∃ i : Nat, i + g ≤ s.size ∧ i ≤ s.size ∧ s.size ≤ i + g ∧ wx.heap[w2.heap.size]? = some (.stringIter s i) ∧ Below w2.heap.size w2 wx ∧ Lib.NoAny s.data.toList [13, 10] i)
 case atStart => exact ⟨0, by omega, by omega, by omega, World.iter_heap _ _ _, strings_IndexAny.below_iter _ _ _, Lib.NoAny.zero _ _⟩
 case round =>
  obtain ⟨i, hig, hle, hge, hk, hbl, hno⟩ := hrel
  have HN := Aside0.mk hno
  have HK := Aside0.mk hk
  have HW := Aside0.mk hbl
  clear hno hbl
  by_cases hi : i < s.size
  case neg =>
   obtain rfl : i = s.size := by omega
   have hnx := fun ty => Lib.run_next_end_at (P := Tryz.prog) wr w2.heap.size s s.size ty hk hi
   clear hk
   go_wp2
   go_ret
   exact ⟨by rw [Lib.indexAny_none (by have := HN.out; rw [← Lib.size_eq]; exact this)]; rfl, HW.out⟩
  case pos =>
   have hnx := fun ty => Lib.run_next_any_at (P := Tryz.prog) wr w2.heap.size s i ty hk hi
   have hxl := strings_IndexAny.get_list s i hi
   have hgb := s.get! i |>.toNat_lt
   clear hk
   obtain ⟨g, rfl⟩ : ∃ g, gk = g + 1 := ⟨gk - 1, by omega⟩
   have hcon := Lib.contains_iff_indexByte [13, 10] (s.get! i)
   by_cases ha : (s.get! i).toNat < 128
   ·have hd : Utf8.decode s i = ((s.get! i).toNat, 1) := by
     have hh : (s[i]'hi) = s.get! i := by
      have := Lib.data_getElem? s i hi
      rw [hxl] at this
      exact (Option.some.inj this).symm
     rw [decode_ascii s i hi (by rw [hh]; exact ha), hh]
    rw [hd] at hnx
    dsimp only at hnx
    have hback : ((((s.get! i).toNat : Nat) : Int)).toNat.toUInt8 = s.get! i := by simp
    have HXL := Aside0.mk hxl
    clear hxl
    cases hin : ([13, 10] : List UInt8).contains (s.get! i) with
    | false =>
     rw [hin] at hcon
     have hlt : decide ((0 : Int) ≤ Lib.indexByte [13, 10] (s.get! i)) = false := hcon.symm
     clear hcon
     go_wp2_with fail
     refine (Tryz.strings_IndexRune_ascii _ _ _ (by omega) (by omega)).mono ?_
     rintro e w5 ⟨rfl, rfl⟩
     dsimp only
     rw [hback]
     go_wp2
     go_roundg g
     case measure => omega
     case rel => exact ⟨i + 1, by omega, by omega, by omega, Lib.iterAt_heap _ _ _ _ _ HK.out, Lib.below_iterAt HW.out (Nat.le_refl _) _ _, HN.out.succ HXL.out hin⟩
    | true =>
     rw [hin] at hcon
     have hlt : decide ((0 : Int) ≤ Lib.indexByte [13, 10] (s.get! i)) = true := hcon.symm
     clear hcon
     go_wp2_with fail
     refine (Tryz.strings_IndexRune_ascii _ _ _ (by omega) (by omega)).mono ?_
     rintro e w5 ⟨rfl, rfl⟩
     dsimp only
     rw [hback]
     go_wp2
     go_ret
     exact ⟨by rw [Lib.indexAny_hit HN.out HXL.out hin]; rfl, Lib.below_iterAt HW.out (Nat.le_refl _) _ _⟩
   ·obtain ⟨r1, r2, r3⟩ := strings_IndexAny.high_run s i hi (by omega)
    have hr := decode_high s i hi (by
     have hh : (s[i]'hi) = s.get! i := by
      have := Lib.data_getElem? s i hi
      rw [hxl] at this
      exact (Option.some.inj this).symm
     rw [hh]; omega)
    have hrl := decode_le s i
    have hno2 := strings_IndexAny.no_more HN.out r1 r3
    have HN2 := Aside0.mk hno2
    generalize (Utf8.decode s i).1 = rv at hnx hr hrl
    generalize (Utf8.decode s i).2 = wd at hnx hr r1 r2 r3 hno2 HN2
    clear hcon hxl r3 hno2
    go_wp2_with fail
    refine (strings_IndexAny.rune_none _ _ (by omega) (by omega)).mono ?_
    rintro e w5 ⟨rfl, hb5⟩
    dsimp only
    have hk5 := (hb5.block w2.heap.size (by rw [Lib.iterAt_size]; exact blk_lt HK.out)).trans (Lib.iterAt_heap wr w2.heap.size s i (i + wd) HK.out)
    have hb6 := below_then (Lib.below_iterAt HW.out (Nat.le_refl _) s (i + wd)) (by rw [Lib.iterAt_size]; exact HW.out.size) hb5
    clear hb5
    have HK5 := Aside0.mk hk5
    have HB6 := Aside0.mk hb6
    clear hk5 hb6
    go_wp2
    go_roundg (s.size - (i + wd))
    case measure => omega
    case rel => exact ⟨i + wd, by omega, by omega, by omega, HK5.out, HB6.out, HN2.out⟩
def strings_IndexAny.f (a0 : ByteArray) (a1 : ByteArray) : Option (Int) := if a1.data.toList = [13, 10] ∧ a0.size < 4294967281 then some (Lib.indexAny a0.data.toList [13, 10]) else none
theorem strings_IndexAny.calls (a0 : ByteArray) (a1 : ByteArray) (r : Int) (w : World) (h : strings_IndexAny.f a0 a1 = some r) :
  Calls Tryz.prog 34 #[.string a0, .string a1] w fun e w' => e = .returned (.int .i64 r) ∧ Below w.heap.size w w' := by
 unfold strings_IndexAny.f at h
 by_cases hc : a1.data.toList = [13, 10] ∧ a0.size < 4294967281
 ·rw [if_pos hc] at h
  obtain rfl := Option.some.inj h
  have e1 : a1 = ⟨#[13, 10]⟩ := by
   have e2 : a1.data = #[13, 10] := by rw [← Array.toArray_toList (xs := a1.data), hc.1]
   rw [← e2]
  rw [e1]
  by_cases h8 : a0.size ≤ 8
  ·exact strings_IndexAny.any_short a0 w h8
  ·refine (Tryz.strings_IndexAny_long (fun w => (zero_of_info (n := 256) (by kernel_rfl)).1 w) a0 ⟨#[13, 10]⟩ w (Nat.le_refl 2) (by omega) hc.2 (by show 2 < 4294967281; omega) (fun j b hb => ?_)).mono ?_
   ·match j, hb with
    | 0, hb => obtain rfl := Option.some.inj hb; decide
    | 1, hb => obtain rfl := Option.some.inj hb; decide
    | j + 2, hb => exact absurd hb (by simp)
   ·rintro e w' ⟨rfl, rfl⟩
    exact ⟨rfl, below_alloc (below_alloc (Below.refl _ _) _) _⟩
 ·rw [if_neg hc] at h; cases h

end Go.Proofs.YtonmpnghlopnoaaGreatDoor.P
