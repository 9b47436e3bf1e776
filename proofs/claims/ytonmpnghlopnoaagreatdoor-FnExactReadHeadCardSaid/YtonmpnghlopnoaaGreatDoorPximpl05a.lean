-- Written by a program of ours (myprint.py, by way of the kit's print) out of Lean's print of the translation.
import Derived.Test.YtonmpnghlopnoaaGreatDoorPx0
import Derived.Test.YtonmpnghlopnoaaGreatDoorPximpl01c
import Derived.Test.YtonmpnghlopnoaaGreatDoorPximpl01d
import Derived.Test.YtonmpnghlopnoaaGreatDoorPximpl01e
import Derived.Test.YtonmpnghlopnoaaGreatDoorWC
namespace Go.Proofs.YtonmpnghlopnoaaGreatDoor.P
open Go.RowKit Go.Proofs.YtonmpnghlopnoaaGreatDoorW.PrintWords Go.Proofs.YtonmpnghlopnoaaGreatDoorW.PrintLast Go.Proofs.YtonmpnghlopnoaaGreatDoorW.PrintMore
attribute [local go_sem] max2_int min2_int max_two min_two max_three min_three max_four min_four   -- for this text's walks alone
set_option linter.unusedVariables false
set_option linter.unusedSimpArgs false

def impl_FieldOk.f (k : Nat) (a0_0 : ByteArray) (a0_1 : ByteArray) : Option (Bool) := (impl_Token.f k a0_0).bind fun t431 => (if t431 = true then (if (a0_0.size : Int) ≤ 40 then (if (a0_1.size : Int) ≤ 190 then ((impl_all__impl_isPlain.f k a0_1).bind fun t432 => (if t432 = true then ((impl_Trim.f k a0_1).bind fun t433 => (some (t433.toList == a0_1.toList))) else (some false))) else (some false)) else (some false)) else (some false))
theorem impl_FieldOk.mono : ∀ a0 a1 k, LeO (impl_FieldOk.f k a0 a1) (impl_FieldOk.f (k + 1) a0 a1) := by
 intro a0 a1 k
 unfold impl_FieldOk.f
 repeat' first
   | (with_reducible exact impl_Token.mono _ _)
   | (with_reducible exact impl_Trim.mono _ _)
   | (with_reducible exact impl_all__impl_isPlain.mono _ _)
   | (with_reducible exact LeO.refl _)
   | (with_reducible exact LeO.none _)
   | (with_reducible refine LeO.ite ?_ ?_)
   | (with_reducible refine LeO.bind ?_ (fun _ => ?_))
   | exact impl_Token.mono _ _
   | exact impl_Trim.mono _ _
   | exact impl_all__impl_isPlain.mono _ _
   | exact LeO.none _
   | refine LeO.ite ?_ ?_
   | refine LeO.bind ?_ (fun _ => ?_)
def impl_FieldOk.T1 : Bool × List (List Nat × List Nat) := (true, [([], []), ([0], [0]), ([1], [1]), ([2, 2], [2]), ([3], [3]), ([4, 3], [3, 4]), ([5, 3], [3, 5]), ([6, 3], [3, 6]), ([3, 7], [3, 7]), ([8, 3], [8]), ([9], [9]), ([10, 9], [9, 10]), ([11, 9], [9, 11]), ([12, 9], [9, 12]), ([9, 13], [9, 13]), ([14, 9], [14]), ([15], [15]), ([16, 15], [15, 16]), ([17, 15, 15], [15, 17]), ([15, 18], [15, 18]), ([19, 18], [19]), ([20], [20]), ([21, 20], [20, 21]), ([22, 20, 20], [20, 22]), ([20], [20]), ([24, 20], [20, 24]), ([23, 25, 20], [20, 23, 25]), ([20, 26], [20, 26]), ([27, 23, 0, 1, 2, 3, 4, 5, 6, 7, 8, 9, 10, 11, 12, 13, 14, 15, 16, 17, 18, 19, 20, 21, 22, 23, 24, 25, 26, 27], [27])])
def impl_FieldOk.B1 : List Nat := [0, 1, 3, 7, 15, 31, 63, 127, 255, 511, 1023, 2047, 4095, 8191, 16383, 32767, 65535, 131071, 262143, 524287, 1048575, 2097151, 4194303, 8388607, 2097151, 18874367, 67108863, 134217727, 268435455]
theorem impl_FieldOk.tab1 : rtab .any (opsOf Tryz.f46 1) = impl_FieldOk.T1 := by kernel_rfl
theorem impl_FieldOk.bits1 : waitsOk impl_FieldOk.T1.2 impl_FieldOk.B1 = true := by kernel_rfl
set_option maxHeartbeats 8000000 in
set_option maxRecDepth 100000 in
theorem impl_FieldOk.calls (k : Nat) (a0_0 : ByteArray) (a0_1 : ByteArray) (r : Bool) (w : World) (h : impl_FieldOk.f k a0_0 a0_1 = some r) :
  Calls Tryz.prog 46 #[.agg #[.string a0_0, .string a0_1]] w fun e w' => e = .returned (.bool r) ∧ Below w.heap.size w w' := by
 have hu41 := Tryz.underlying41
 have HB := Aside0.mk (Below.refl w.heap.size w)
 have H : ((impl_Token.f k a0_0).bind fun t431 => (if t431 = true then (if (a0_0.size : Int) ≤ 40 then (if (a0_1.size : Int) ≤ 190 then ((impl_all__impl_isPlain.f k a0_1).bind fun t432 => (if t432 = true then ((impl_Trim.f k a0_1).bind fun t433 => (some (t433.toList == a0_1.toList))) else (some false))) else (some false)) else (some false)) else (some false))) = some r := h
 clear h
 replace H := Option.bind_eq_some_iff.mp H
 obtain ⟨t431, A20, H⟩ := H
 replace H : (if t431 = true then (if (a0_0.size : Int) ≤ 40 then (if (a0_1.size : Int) ≤ 190 then ((impl_all__impl_isPlain.f k a0_1).bind fun t432 => (if t432 = true then ((impl_Trim.f k a0_1).bind fun t433 => (some (t433.toList == a0_1.toList))) else (some false))) else (some false)) else (some false)) else (some false)) = some r := H
 have A2 := Aside0.mk A20
 clear A20
 by_cases c3 : t431 = true
 ·subst c3
  have H1 : (if (a0_0.size : Int) ≤ 40 then (if (a0_1.size : Int) ≤ 190 then ((impl_all__impl_isPlain.f k a0_1).bind fun t432 => (if t432 = true then ((impl_Trim.f k a0_1).bind fun t433 => (some (t433.toList == a0_1.toList))) else (some false))) else (some false)) else (some false)) = some r := by rw [if_pos rfl] at H; exact H
  clear H
  have H := H1
  clear H1
  by_cases c4 : (a0_0.size : Int) ≤ 40
  ·rw [if_pos c4] at H
   have c4b0 := decide_eq_true c4
   have c4b1 : decide (a0_0.size ≤ 40) = true := decide_eq_true (by omega)
   clear c4
   by_cases c5 : (a0_1.size : Int) ≤ 190
   ·rw [if_pos c5] at H
    have c5b0 := decide_eq_true c5
    have c5b1 : decide (a0_1.size ≤ 190) = true := decide_eq_true (by omega)
    clear c5
    replace H := Option.bind_eq_some_iff.mp H
    obtain ⟨t432, A60, H⟩ := H
    replace H : (if t432 = true then ((impl_Trim.f k a0_1).bind fun t433 => (some (t433.toList == a0_1.toList))) else (some false)) = some r := H
    have A6 := Aside0.mk A60
    clear A60
    by_cases c7 : t432 = true
    ·subst c7
     have H1 : ((impl_Trim.f k a0_1).bind fun t433 => (some (t433.toList == a0_1.toList))) = some r := by rw [if_pos rfl] at H; exact H
     clear H
     have H := H1
     clear H1
     replace H := Option.bind_eq_some_iff.mp H
     obtain ⟨t433, A80, H⟩ := H
     replace H : (some (t433.toList == a0_1.toList)) = some r := H
     have A8 := Aside0.mk A80
     clear A80
     obtain rfl := Option.some.inj H
     go_enter Tryz.func46, Tryz.ntmps46
     try go_wp2_with (first | ((with_reducible refine gate_dst (N := 1) rfl ?_); refine boxG #[.string a0_0, .string a0_1] 41 ?_; intro gb430 hg w9 hbox hb; have BK430 := Aside0.mk (hbox); have GW430 := geA hg; have GE430 := geA hg; replace HB := beA hb; clear hb hbox hg))
     replace BK430 := Aside0.mk (blk_drew BK430.out)
     replace HB := Aside0.mk (below_drew1 HB.out)
     refine start_ (n := 29) (S := fun w' => w'.cell? ⟨gb430, 0, none⟩ = some (.string a0_0) ∧ w'.cell? ⟨gb430, 1, none⟩ = some (.string a0_1)) (ds := []) #[false, false, false, false, false, false, false, false, false, false, false, false, false, false, false, false, false, false, false, false, false, false, false, false, false, false, false, false, false] (by kernel_rfl) rfl rfl ⟨(blk_cell BK430.out 0).trans rfl, (blk_cell BK430.out 1).trans rfl⟩ (fun hHeld => ?_); refine with_tabW impl_FieldOk.tab1 impl_FieldOk.bits1 (fun HT_ HW_ => ?_)
     generalize w9.drew = w10 at BK430 HB hHeld ⊢
     refine pureT 0 (some 3) ?_
     refine takeT_ 1 (some 4) (hy := Or.inl ⟨by rfl, gq15⟩) ?_
     refine one_ (i := 2) (N := some 5) #[true, true, true, false, false, false, false, false, false, false, false, false, false, false, false, false, false, false, false, false, false, false, false, false, false, false, false, false, false] rfl rfl (one_of HT_.out (by kernel_rfl)) (by decide) (fun K hK => ?_)
     refine goes_ Tryz.func79 (by kernel_rfl) rfl #[.string a0_0] (by rfl) rfl rfl gq1 ?_
     with_reducible refine (impl_Token.calls k a0_0 true _ A2.out).mono ?_
     rintro e w' ⟨rfl, ⟨nd, rfl⟩⟩
     refine ⟨_, rfl, ?_⟩
     refine hK.out _ _ ⟨(blk_cell BK430.out 0).trans rfl, (blk_cell BK430.out 1).trans rfl⟩ (fun hHeld => ?_)
     clear hK K
     refine normA (some 5) ?_
     refine pureT 3 (some 6) ?_
     refine pureT 4 (some 7) ?_
     refine takeT_ 5 (some 8) (hy := Or.inl ⟨by rfl, gq15⟩) ?_
     refine pureT 6 (some 9) ?_
     refine pureT 7 (some 10) ?_
     refine pureT 8 (some 11) ?_
     refine pureT 9 (some 12) ?_
     refine pureT 10 (some 13) ?_
     refine takeT_ 11 (some 14) (hy := Or.inl ⟨by rfl, gq15⟩) ?_
     refine pureT 12 (some 15) ?_
     refine pureT 13 (some 16) ?_
     refine pureT 14 (some 17) ?_
     refine pureT 15 (some 18) ?_
     refine pureT 16 (some 19) ?_
     refine takeT_ 17 (some 20) (hy := Or.inl ⟨by rfl, gq15⟩) ?_
     refine one_ (i := 18) (N := some 21) #[true, true, true, true, true, true, true, true, true, true, true, true, true, true, true, true, true, true, true, false, false, false, false, false, false, false, false, false, false] rfl rfl (one_of HT_.out (by kernel_rfl)) (by decide) (fun K hK => ?_)
     refine goes_ Tryz.func36 (by kernel_rfl) rfl #[.string a0_1, .func (.func 77) #[] #[]] (by rfl) rfl rfl gq1 ?_
     with_reducible refine (impl_all__impl_isPlain.calls k a0_1  true _ A6.out).mono ?_
     rintro e w' ⟨rfl, ⟨nd, rfl⟩⟩
     refine ⟨_, rfl, ?_⟩
     refine hK.out _ _ ⟨(blk_cell BK430.out 0).trans rfl, (blk_cell BK430.out 1).trans rfl⟩ (fun hHeld => ?_)
     clear hK K
     refine normA (some 21) ?_
     refine pureT 19 (some 22) ?_
     refine pureT 20 (some 23) ?_
     refine pureT 21 (some 24) ?_
     refine pureT 24 (some 27) ?_
     refine takeT_ 22 (some 25) (hy := Or.inl ⟨by rfl, gq15⟩) ?_
     refine takeT_ 25 (some 28) (hy := Or.inl ⟨by rfl, gq15⟩) ?_
     refine one_ (i := 23) (N := some 26) #[true, true, true, true, true, true, true, true, true, true, true, true, true, true, true, true, true, true, true, true, true, true, true, true, true, true, false, false, false] rfl rfl (one_of HT_.out (by kernel_rfl)) (by decide) (fun K hK => ?_)
     refine goes_ Tryz.func45 (by kernel_rfl) rfl #[.string a0_1] (by rfl) rfl rfl gq1 ?_
     with_reducible refine (impl_Trim.calls k a0_1 t433 _ A8.out).mono ?_
     rintro e w' ⟨rfl, ⟨nd, rfl⟩⟩
     refine ⟨_, rfl, ?_⟩
     refine hK.out _ _ ⟨(blk_cell BK430.out 0).trans rfl, (blk_cell BK430.out 1).trans rfl⟩ (fun hHeld => ?_)
     clear hK K
     refine normA (some 26) ?_
     refine pureT 26 (some 29) ?_
     refine pureT 27 (some 30) ?_
     refine pureT 28 (some 2) ?_
     refine done_ (done_of HT_.out (by kernel_rfl)) ?_
     try go_wp2
     go_ret
     exact ⟨gq2, gBe⟩
    ·replace c7 := Bool.eq_false_iff.mpr c7
     subst c7
     have H1 : (some false) = some r := by rw [if_neg (show ¬ (false = true) by decide)] at H; exact H
     clear H
     have H := H1
     clear H1
     obtain rfl := Option.some.inj H
     go_enter Tryz.func46, Tryz.ntmps46
     try go_wp2_with (first | ((with_reducible refine gate_dst (N := 1) rfl ?_); refine boxG #[.string a0_0, .string a0_1] 41 ?_; intro gb430 hg w11 hbox hb; have BK430 := Aside0.mk (hbox); have GW430 := geA hg; have GE430 := geA hg; replace HB := beA hb; clear hb hbox hg))
     replace BK430 := Aside0.mk (blk_drew BK430.out)
     replace HB := Aside0.mk (below_drew1 HB.out)
     refine start_ (n := 29) (S := fun w' => w'.cell? ⟨gb430, 0, none⟩ = some (.string a0_0) ∧ w'.cell? ⟨gb430, 1, none⟩ = some (.string a0_1)) (ds := []) #[false, false, false, false, false, false, false, false, false, false, false, false, false, false, false, false, false, false, false, false, false, false, false, false, false, false, false, false, false] (by kernel_rfl) rfl rfl ⟨(blk_cell BK430.out 0).trans rfl, (blk_cell BK430.out 1).trans rfl⟩ (fun hHeld => ?_); refine with_tabW impl_FieldOk.tab1 impl_FieldOk.bits1 (fun HT_ HW_ => ?_)
     generalize w11.drew = w12 at BK430 HB hHeld ⊢
     refine pureT 0 (some 3) ?_
     refine takeT_ 1 (some 4) (hy := Or.inl ⟨by rfl, gq15⟩) ?_
     refine one_ (i := 2) (N := some 5) #[true, true, true, false, false, false, false, false, false, false, false, false, false, false, false, false, false, false, false, false, false, false, false, false, false, false, false, false, false] rfl rfl (one_of HT_.out (by kernel_rfl)) (by decide) (fun K hK => ?_)
     refine goes_ Tryz.func79 (by kernel_rfl) rfl #[.string a0_0] (by rfl) rfl rfl gq1 ?_
     with_reducible refine (impl_Token.calls k a0_0 true _ A2.out).mono ?_
     rintro e w' ⟨rfl, ⟨nd, rfl⟩⟩
     refine ⟨_, rfl, ?_⟩
     refine hK.out _ _ ⟨(blk_cell BK430.out 0).trans rfl, (blk_cell BK430.out 1).trans rfl⟩ (fun hHeld => ?_)
     clear hK K
     refine normA (some 5) ?_
     refine pureT 3 (some 6) ?_
     refine pureT 4 (some 7) ?_
     refine takeT_ 5 (some 8) (hy := Or.inl ⟨by rfl, gq15⟩) ?_
     refine pureT 6 (some 9) ?_
     refine pureT 7 (some 10) ?_
     refine pureT 8 (some 11) ?_
     refine pureT 9 (some 12) ?_
     refine pureT 10 (some 13) ?_
     refine takeT_ 11 (some 14) (hy := Or.inl ⟨by rfl, gq15⟩) ?_
     refine pureT 12 (some 15) ?_
     refine pureT 13 (some 16) ?_
     refine pureT 14 (some 17) ?_
     refine pureT 15 (some 18) ?_
     refine pureT 16 (some 19) ?_
     refine takeT_ 17 (some 20) (hy := Or.inl ⟨by rfl, gq15⟩) ?_
     refine one_ (i := 18) (N := some 21) #[true, true, true, true, true, true, true, true, true, true, true, true, true, true, true, true, true, true, true, false, false, false, false, false, false, false, false, false, false] rfl rfl (one_of HT_.out (by kernel_rfl)) (by decide) (fun K hK => ?_)
     refine goes_ Tryz.func36 (by kernel_rfl) rfl #[.string a0_1, .func (.func 77) #[] #[]] (by rfl) rfl rfl gq1 ?_
     with_reducible refine (impl_all__impl_isPlain.calls k a0_1  false _ A6.out).mono ?_
     rintro e w' ⟨rfl, ⟨nd, rfl⟩⟩
     refine ⟨_, rfl, ?_⟩
     refine hK.out _ _ ⟨(blk_cell BK430.out 0).trans rfl, (blk_cell BK430.out 1).trans rfl⟩ (fun hHeld => ?_)
     clear hK K
     refine normA (some 21) ?_
     refine pureT 19 (some 22) ?_
     refine pureT 20 (some 23) ?_
     refine pureU 21 (some 24) ?_
     refine pureU 22 (some 25) ?_
     refine pureU 23 (some 26) ?_
     refine pureU 24 (some 27) ?_
     refine pureU 25 (some 28) ?_
     refine pureU 26 (some 29) ?_
     refine pureT 27 (some 30) ?_
     refine pureT 28 (some 2) ?_
     refine done_ (done_of HT_.out (by kernel_rfl)) ?_
     try go_wp2
     go_ret
     exact ⟨gq2, gBe⟩
   ·rw [if_neg c5] at H
    have c5b0 := decide_eq_false c5
    have c5b1 : decide (a0_1.size ≤ 190) = false := decide_eq_false (by omega)
    clear c5
    obtain rfl := Option.some.inj H
    go_enter Tryz.func46, Tryz.ntmps46
    try go_wp2_with (first | ((with_reducible refine gate_dst (N := 1) rfl ?_); refine boxG #[.string a0_0, .string a0_1] 41 ?_; intro gb430 hg w13 hbox hb; have BK430 := Aside0.mk (hbox); have GW430 := geA hg; have GE430 := geA hg; replace HB := beA hb; clear hb hbox hg))
    replace BK430 := Aside0.mk (blk_drew BK430.out)
    replace HB := Aside0.mk (below_drew1 HB.out)
    refine start_ (n := 29) (S := fun w' => w'.cell? ⟨gb430, 0, none⟩ = some (.string a0_0) ∧ w'.cell? ⟨gb430, 1, none⟩ = some (.string a0_1)) (ds := []) #[false, false, false, false, false, false, false, false, false, false, false, false, false, false, false, false, false, false, false, false, false, false, false, false, false, false, false, false, false] (by kernel_rfl) rfl rfl ⟨(blk_cell BK430.out 0).trans rfl, (blk_cell BK430.out 1).trans rfl⟩ (fun hHeld => ?_); refine with_tabW impl_FieldOk.tab1 impl_FieldOk.bits1 (fun HT_ HW_ => ?_)
    generalize w13.drew = w14 at BK430 HB hHeld ⊢
    refine pureT 0 (some 3) ?_
    refine takeT_ 1 (some 4) (hy := Or.inl ⟨by rfl, gq15⟩) ?_
    refine one_ (i := 2) (N := some 5) #[true, true, true, false, false, false, false, false, false, false, false, false, false, false, false, false, false, false, false, false, false, false, false, false, false, false, false, false, false] rfl rfl (one_of HT_.out (by kernel_rfl)) (by decide) (fun K hK => ?_)
    refine goes_ Tryz.func79 (by kernel_rfl) rfl #[.string a0_0] (by rfl) rfl rfl gq1 ?_
    with_reducible refine (impl_Token.calls k a0_0 true _ A2.out).mono ?_
    rintro e w' ⟨rfl, ⟨nd, rfl⟩⟩
    refine ⟨_, rfl, ?_⟩
    refine hK.out _ _ ⟨(blk_cell BK430.out 0).trans rfl, (blk_cell BK430.out 1).trans rfl⟩ (fun hHeld => ?_)
    clear hK K
    refine normA (some 5) ?_
    refine pureT 3 (some 6) ?_
    refine pureT 4 (some 7) ?_
    refine takeT_ 5 (some 8) (hy := Or.inl ⟨by rfl, gq15⟩) ?_
    refine pureT 6 (some 9) ?_
    refine pureT 7 (some 10) ?_
    refine pureT 8 (some 11) ?_
    refine pureT 9 (some 12) ?_
    refine pureT 10 (some 13) ?_
    refine takeT_ 11 (some 14) (hy := Or.inl ⟨by rfl, gq15⟩) ?_
    refine pureT 12 (some 15) ?_
    refine pureT 13 (some 16) ?_
    refine pureT 14 (some 17) ?_
    refine pureT 15 (some 18) ?_
    refine pureU 16 (some 19) ?_
    refine pureU 17 (some 20) ?_
    refine pureU 18 (some 21) ?_
    refine pureT 19 (some 22) ?_
    refine pureT 20 (some 23) ?_
    refine pureU 21 (some 24) ?_
    refine pureU 22 (some 25) ?_
    refine pureU 23 (some 26) ?_
    refine pureU 24 (some 27) ?_
    refine pureU 25 (some 28) ?_
    refine pureU 26 (some 29) ?_
    refine pureT 27 (some 30) ?_
    refine pureT 28 (some 2) ?_
    refine done_ (done_of HT_.out (by kernel_rfl)) ?_
    try go_wp2
    go_ret
    exact ⟨gq2, gBe⟩
  ·rw [if_neg c4] at H
   have c4b0 := decide_eq_false c4
   have c4b1 : decide (a0_0.size ≤ 40) = false := decide_eq_false (by omega)
   clear c4
   obtain rfl := Option.some.inj H
   go_enter Tryz.func46, Tryz.ntmps46
   try go_wp2_with (first | ((with_reducible refine gate_dst (N := 1) rfl ?_); refine boxG #[.string a0_0, .string a0_1] 41 ?_; intro gb430 hg w15 hbox hb; have BK430 := Aside0.mk (hbox); have GW430 := geA hg; have GE430 := geA hg; replace HB := beA hb; clear hb hbox hg))
   replace BK430 := Aside0.mk (blk_drew BK430.out)
   replace HB := Aside0.mk (below_drew1 HB.out)
   refine start_ (n := 29) (S := fun w' => w'.cell? ⟨gb430, 0, none⟩ = some (.string a0_0) ∧ w'.cell? ⟨gb430, 1, none⟩ = some (.string a0_1)) (ds := []) #[false, false, false, false, false, false, false, false, false, false, false, false, false, false, false, false, false, false, false, false, false, false, false, false, false, false, false, false, false] (by kernel_rfl) rfl rfl ⟨(blk_cell BK430.out 0).trans rfl, (blk_cell BK430.out 1).trans rfl⟩ (fun hHeld => ?_); refine with_tabW impl_FieldOk.tab1 impl_FieldOk.bits1 (fun HT_ HW_ => ?_)
   generalize w15.drew = w16 at BK430 HB hHeld ⊢
   refine pureT 0 (some 3) ?_
   refine takeT_ 1 (some 4) (hy := Or.inl ⟨by rfl, gq15⟩) ?_
   refine one_ (i := 2) (N := some 5) #[true, true, true, false, false, false, false, false, false, false, false, false, false, false, false, false, false, false, false, false, false, false, false, false, false, false, false, false, false] rfl rfl (one_of HT_.out (by kernel_rfl)) (by decide) (fun K hK => ?_)
   refine goes_ Tryz.func79 (by kernel_rfl) rfl #[.string a0_0] (by rfl) rfl rfl gq1 ?_
   with_reducible refine (impl_Token.calls k a0_0 true _ A2.out).mono ?_
   rintro e w' ⟨rfl, ⟨nd, rfl⟩⟩
   refine ⟨_, rfl, ?_⟩
   refine hK.out _ _ ⟨(blk_cell BK430.out 0).trans rfl, (blk_cell BK430.out 1).trans rfl⟩ (fun hHeld => ?_)
   clear hK K
   refine normA (some 5) ?_
   refine pureT 3 (some 6) ?_
   refine pureT 4 (some 7) ?_
   refine takeT_ 5 (some 8) (hy := Or.inl ⟨by rfl, gq15⟩) ?_
   refine pureT 6 (some 9) ?_
   refine pureT 7 (some 10) ?_
   refine pureT 8 (some 11) ?_
   refine pureT 9 (some 12) ?_
   refine pureU 10 (some 13) ?_
   refine pureU 11 (some 14) ?_
   refine pureU 12 (some 15) ?_
   refine pureU 13 (some 16) ?_
   refine pureT 14 (some 17) ?_
   refine pureT 15 (some 18) ?_
   refine pureU 16 (some 19) ?_
   refine pureU 17 (some 20) ?_
   refine pureU 18 (some 21) ?_
   refine pureT 19 (some 22) ?_
   refine pureT 20 (some 23) ?_
   refine pureU 21 (some 24) ?_
   refine pureU 22 (some 25) ?_
   refine pureU 23 (some 26) ?_
   refine pureU 24 (some 27) ?_
   refine pureU 25 (some 28) ?_
   refine pureU 26 (some 29) ?_
   refine pureT 27 (some 30) ?_
   refine pureT 28 (some 2) ?_
   refine done_ (done_of HT_.out (by kernel_rfl)) ?_
   try go_wp2
   go_ret
   exact ⟨gq2, gBe⟩
 ·replace c3 := Bool.eq_false_iff.mpr c3
  subst c3
  have H1 : (some false) = some r := by rw [if_neg (show ¬ (false = true) by decide)] at H; exact H
  clear H
  have H := H1
  clear H1
  obtain rfl := Option.some.inj H
  go_enter Tryz.func46, Tryz.ntmps46
  try go_wp2_with (first | ((with_reducible refine gate_dst (N := 1) rfl ?_); refine boxG #[.string a0_0, .string a0_1] 41 ?_; intro gb430 hg w17 hbox hb; have BK430 := Aside0.mk (hbox); have GW430 := geA hg; have GE430 := geA hg; replace HB := beA hb; clear hb hbox hg))
  replace BK430 := Aside0.mk (blk_drew BK430.out)
  replace HB := Aside0.mk (below_drew1 HB.out)
  refine start_ (n := 29) (S := fun w' => w'.cell? ⟨gb430, 0, none⟩ = some (.string a0_0) ∧ w'.cell? ⟨gb430, 1, none⟩ = some (.string a0_1)) (ds := []) #[false, false, false, false, false, false, false, false, false, false, false, false, false, false, false, false, false, false, false, false, false, false, false, false, false, false, false, false, false] (by kernel_rfl) rfl rfl ⟨(blk_cell BK430.out 0).trans rfl, (blk_cell BK430.out 1).trans rfl⟩ (fun hHeld => ?_); refine with_tabW impl_FieldOk.tab1 impl_FieldOk.bits1 (fun HT_ HW_ => ?_)
  generalize w17.drew = w18 at BK430 HB hHeld ⊢
  refine pureT 0 (some 3) ?_
  refine takeT_ 1 (some 4) (hy := Or.inl ⟨by rfl, gq15⟩) ?_
  refine one_ (i := 2) (N := some 5) #[true, true, true, false, false, false, false, false, false, false, false, false, false, false, false, false, false, false, false, false, false, false, false, false, false, false, false, false, false] rfl rfl (one_of HT_.out (by kernel_rfl)) (by decide) (fun K hK => ?_)
  refine goes_ Tryz.func79 (by kernel_rfl) rfl #[.string a0_0] (by rfl) rfl rfl gq1 ?_
  with_reducible refine (impl_Token.calls k a0_0 false _ A2.out).mono ?_
  rintro e w' ⟨rfl, ⟨nd, rfl⟩⟩
  refine ⟨_, rfl, ?_⟩
  refine hK.out _ _ ⟨(blk_cell BK430.out 0).trans rfl, (blk_cell BK430.out 1).trans rfl⟩ (fun hHeld => ?_)
  clear hK K
  refine normA (some 5) ?_
  refine pureT 3 (some 6) ?_
  refine pureU 4 (some 7) ?_
  refine pureU 5 (some 8) ?_
  refine pureU 6 (some 9) ?_
  refine pureU 7 (some 10) ?_
  refine pureT 8 (some 11) ?_
  refine pureT 9 (some 12) ?_
  refine pureU 10 (some 13) ?_
  refine pureU 11 (some 14) ?_
  refine pureU 12 (some 15) ?_
  refine pureU 13 (some 16) ?_
  refine pureT 14 (some 17) ?_
  refine pureT 15 (some 18) ?_
  refine pureU 16 (some 19) ?_
  refine pureU 17 (some 20) ?_
  refine pureU 18 (some 21) ?_
  refine pureT 19 (some 22) ?_
  refine pureT 20 (some 23) ?_
  refine pureU 21 (some 24) ?_
  refine pureU 22 (some 25) ?_
  refine pureU 23 (some 26) ?_
  refine pureU 24 (some 27) ?_
  refine pureU 25 (some 28) ?_
  refine pureU 26 (some 29) ?_
  refine pureT 27 (some 30) ?_
  refine pureT 28 (some 2) ?_
  refine done_ (done_of HT_.out (by kernel_rfl)) ?_
  try go_wp2
  go_ret
  exact ⟨gq2, gBe⟩

end Go.Proofs.YtonmpnghlopnoaaGreatDoor.P
