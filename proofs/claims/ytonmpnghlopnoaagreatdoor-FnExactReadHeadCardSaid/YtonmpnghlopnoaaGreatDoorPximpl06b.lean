-- Written by a program of ours (myprint.py, by way of the kit's print) out of Lean's print of the translation.
import Derived.Test.YtonmpnghlopnoaaGreatDoorPx0
import Derived.Test.YtonmpnghlopnoaaGreatDoorPximpl01c
import Derived.Test.YtonmpnghlopnoaaGreatDoorPximpl06a
import Derived.Test.YtonmpnghlopnoaaGreatDoorPxlibb
import Derived.Test.YtonmpnghlopnoaaGreatDoorWC
namespace Go.Proofs.YtonmpnghlopnoaaGreatDoor.P
open Go.RowKit Go.Proofs.YtonmpnghlopnoaaGreatDoorW.PrintWords Go.Proofs.YtonmpnghlopnoaaGreatDoorW.PrintLast Go.Proofs.YtonmpnghlopnoaaGreatDoorW.PrintMore
attribute [local go_sem] max2_int min2_int max_two min_two max_three min_three max_four min_four   -- for this text's walks alone
set_option linter.unusedVariables false
set_option linter.unusedSimpArgs false

mutual
def impl_readFirst.j0 : Nat → ByteArray → Bool → Option (ByteArray × ByteArray × Int × ByteArray × Bool × (List (S41)) × ByteArray × Bool)
 | 0, _, _ => none
 | k + 1, x6, x34 => if x34 = true then (some ((⟨#[]⟩ : ByteArray), (⟨#[]⟩ : ByteArray), 0, (⟨#[]⟩ : ByteArray), false, ([] : List (S41)), (⟨#[]⟩ : ByteArray), false)) else (if 0 ≤ 3 then (if 3 ≤ (x6.size : Int) then ((strconv_Atoi_38.f (x6.extract 0 3)).bind fun bt380 => (if 4 ≤ (x6.size : Int) then ((impl_isStatus.f bt380.1).bind fun t382 => (if t382 = true then ((impl_isReason.f k (x6.extract 4 x6.size)).bind fun t383 => (some ((⟨#[]⟩ : ByteArray), (⟨#[]⟩ : ByteArray), bt380.1, x6.extract 4 x6.size, false, ([] : List (S41)), (⟨#[]⟩ : ByteArray), t383))) else (some ((⟨#[]⟩ : ByteArray), (⟨#[]⟩ : ByteArray), bt380.1, x6.extract 4 x6.size, false, ([] : List (S41)), (⟨#[]⟩ : ByteArray), false)))) else (none))) else (none)) else (none))
def impl_readFirst.j1 : Nat → List ByteArray → Bool → Option (ByteArray × ByteArray × Int × ByteArray × Bool × (List (S41)) × ByteArray × Bool)
 | 0, _, _ => none
 | k + 1, x10, x63 => if x63 = true then (some ((⟨#[]⟩ : ByteArray), (⟨#[]⟩ : ByteArray), 0, (⟨#[]⟩ : ByteArray), false, ([] : List (S41)), (⟨#[]⟩ : ByteArray), false)) else (if 0 < (x10.length : Int) then (if 1 < (x10.length : Int) then ((impl_isMethod.f k (rdOf ByteArray.empty x10 0)).bind fun t391 => (if t391 = true then ((impl_isTarget.f k (rdOf ByteArray.empty x10 1)).bind fun t393 => (some (rdOf ByteArray.empty x10 0, rdOf ByteArray.empty x10 1, 0, (⟨#[]⟩ : ByteArray), false, ([] : List (S41)), (⟨#[]⟩ : ByteArray), t393))) else (some (rdOf ByteArray.empty x10 0, rdOf ByteArray.empty x10 1, 0, (⟨#[]⟩ : ByteArray), false, ([] : List (S41)), (⟨#[]⟩ : ByteArray), false)))) else (none)) else (none))
end
def impl_readFirst.f (k : Nat) (a0 : ByteArray) (a1 : Bool) : Option (ByteArray × ByteArray × Int × ByteArray × Bool × (List (S41)) × ByteArray × Bool) := if a1 = true then ((strings_CutPrefix.f a0 (⟨#[72, 84, 84, 80, 47, 49, 46, 49, 32]⟩ : ByteArray)).bind fun bt377 => (if bt377.2 = true then (if (bt377.1.size : Int) < 4 then (impl_readFirst.j0 k bt377.1 true) else (if 3 < (bt377.1.size : Int) then (if (bt bt377.1 3) = 32 then (if 0 ≤ 3 then (if 3 ≤ (bt377.1.size : Int) then ((impl_all__impl_isDigit.f k (bt377.1.extract 0 3)).bind fun t379 => (impl_readFirst.j0 k bt377.1 (!t379))) else (none)) else (none)) else (impl_readFirst.j0 k bt377.1 true)) else (none))) else (impl_readFirst.j0 k bt377.1 true))) else ((strings_Split.f a0 (⟨#[32]⟩ : ByteArray)).bind fun t384 => (if (t384.length : Int) = 3 then (if 2 < (t384.length : Int) then (impl_readFirst.j1 k t384 ((rdOf ByteArray.empty t384 2).toList != ([72, 84, 84, 80, 47, 49, 46, 49] : List UInt8))) else (none)) else (impl_readFirst.j1 k t384 true)))
theorem impl_readFirst.mono_l : ∀ k, (∀ y0 y1, LeO (impl_readFirst.j0 k y0 y1) (impl_readFirst.j0 (k + 1) y0 y1)) ∧ (∀ y0 y1, LeO (impl_readFirst.j1 k y0 y1) (impl_readFirst.j1 (k + 1) y0 y1))
 | 0 => ⟨fun _ _ r h => by simp [impl_readFirst.j0] at h, fun _ _ r h => by simp [impl_readFirst.j1] at h⟩
 | k + 1 => by
  obtain ⟨ih0, ih1⟩ := impl_readFirst.mono_l k
  refine ⟨?_, ?_⟩
  ·intro y0 y1
   unfold impl_readFirst.j0
   repeat' first
   | (with_reducible exact ih0 _ _)
   | (with_reducible exact ih1 _ _)
   | (with_reducible exact impl_all__impl_isDigit.mono _ _)
   | (with_reducible exact impl_isMethod.mono _ _)
   | (with_reducible exact impl_isReason.mono _ _)
   | (with_reducible exact impl_isTarget.mono _ _)
   | (with_reducible exact LeO.refl _)
   | (with_reducible exact LeO.none _)
   | (with_reducible refine LeO.ite ?_ ?_)
   | (with_reducible refine LeO.bind ?_ (fun _ => ?_))
   | exact ih0 _ _
   | exact ih1 _ _
   | exact impl_all__impl_isDigit.mono _ _
   | exact impl_isMethod.mono _ _
   | exact impl_isReason.mono _ _
   | exact impl_isTarget.mono _ _
   | exact LeO.none _
   | refine LeO.ite ?_ ?_
   | refine LeO.bind ?_ (fun _ => ?_)
  ·intro y0 y1
   unfold impl_readFirst.j1
   repeat' first
   | (with_reducible exact ih0 _ _)
   | (with_reducible exact ih1 _ _)
   | (with_reducible exact impl_all__impl_isDigit.mono _ _)
   | (with_reducible exact impl_isMethod.mono _ _)
   | (with_reducible exact impl_isReason.mono _ _)
   | (with_reducible exact impl_isTarget.mono _ _)
   | (with_reducible exact LeO.refl _)
   | (with_reducible exact LeO.none _)
   | (with_reducible refine LeO.ite ?_ ?_)
   | (with_reducible refine LeO.bind ?_ (fun _ => ?_))
   | exact ih0 _ _
   | exact ih1 _ _
   | exact impl_all__impl_isDigit.mono _ _
   | exact impl_isMethod.mono _ _
   | exact impl_isReason.mono _ _
   | exact impl_isTarget.mono _ _
   | exact LeO.none _
   | refine LeO.ite ?_ ?_
   | refine LeO.bind ?_ (fun _ => ?_)
theorem impl_readFirst.mono : ∀ a0 a1 k, LeO (impl_readFirst.f k a0 a1) (impl_readFirst.f (k + 1) a0 a1) := by
 intro a0 a1 k
 obtain ⟨ih0, ih1⟩ := impl_readFirst.mono_l k
 unfold impl_readFirst.f
 repeat' first
   | (with_reducible exact ih0 _ _)
   | (with_reducible exact ih1 _ _)
   | (with_reducible exact impl_all__impl_isDigit.mono _ _)
   | (with_reducible exact impl_isMethod.mono _ _)
   | (with_reducible exact impl_isReason.mono _ _)
   | (with_reducible exact impl_isTarget.mono _ _)
   | (with_reducible exact LeO.refl _)
   | (with_reducible exact LeO.none _)
   | (with_reducible refine LeO.ite ?_ ?_)
   | (with_reducible refine LeO.bind ?_ (fun _ => ?_))
   | exact ih0 _ _
   | exact ih1 _ _
   | exact impl_all__impl_isDigit.mono _ _
   | exact impl_isMethod.mono _ _
   | exact impl_isReason.mono _ _
   | exact impl_isTarget.mono _ _
   | exact LeO.none _
   | refine LeO.ite ?_ ?_
   | refine LeO.bind ?_ (fun _ => ?_)
def impl_readFirst.T6 : Bool × List (List Nat × List Nat) := (true, [([], []), ([], []), ([1], [1]), ([0, 2], [0, 2]), ([], []), ([4], [4]), ([5, 5], [5]), ([6], [6]), ([7, 6], [6, 7]), ([8, 6, 6], [6, 8]), ([6, 9], [6, 9]), ([3, 9, 0, 1, 2, 3], [3]), ([10, 11, 0, 1, 2, 3, 4, 5, 6, 7, 8, 9, 10, 11], [10])])
def impl_readFirst.B6 : List Nat := [0, 0, 2, 7, 0, 16, 48, 112, 240, 496, 1008, 1023, 4095]
theorem impl_readFirst.tab6 : rtab .any (opsOf Tryz.f20 6) = impl_readFirst.T6 := by kernel_rfl
theorem impl_readFirst.bits6 : waitsOk impl_readFirst.T6.2 impl_readFirst.B6 = true := by kernel_rfl
def impl_readFirst.T10 : Bool × List (List Nat × List Nat) := (true, [([], []), ([0], [0]), ([1], [1]), ([], []), ([3], [3]), ([4], [4]), ([2, 5], [2, 5]), ([], []), ([7], [7]), ([8], [8]), ([9], [9]), ([10, 10], [10]), ([11], [11]), ([12, 11], [11, 12]), ([13, 11], [11, 13]), ([14, 11, 11], [11, 14]), ([11, 15], [11, 15]), ([6, 15, 0, 1, 2, 3, 4, 5, 6], [6]), ([16, 17, 0, 1, 2, 3, 4, 5, 6, 7, 8, 9, 10, 11, 12, 13, 14, 15, 16, 17], [16])])
def impl_readFirst.B10 : List Nat := [0, 1, 3, 0, 8, 24, 63, 0, 128, 384, 896, 1920, 3968, 8064, 16256, 32640, 65408, 65535, 262143]
theorem impl_readFirst.tab10 : rtab .any (opsOf Tryz.f20 10) = impl_readFirst.T10 := by kernel_rfl
theorem impl_readFirst.bits10 : waitsOk impl_readFirst.T10.2 impl_readFirst.B10 = true := by kernel_rfl
set_option maxHeartbeats 8000000 in
set_option maxRecDepth 100000 in
theorem impl_readFirst.calls (k : Nat) (a0 : ByteArray) (a1 : Bool) (r1 : ByteArray) (r2 : ByteArray) (r3 : Int) (r4 : ByteArray) (r5 : Bool) (r6 : List (S41)) (r7 : ByteArray) (r8 : Bool) (w : World) (h : impl_readFirst.f k a0 a1 = some (r1, r2, r3, r4, r5, r6, r7, r8)) :
  Calls Tryz.prog 20 #[.string a0, .bool a1] w fun e w' => ∃ v5_ : Value, e = .returned (.tuple #[.agg #[.string r1, .string r2, .int .i64 r3, .string r4, .bool r5, v5_, .string r7], .bool r8]) ∧ Kd.R k41 41 w' w.heap.size (fun _ => True) v5_ r6 ∧ Below w.heap.size w w' := by
 have hu24 := Tryz.underlying24
 have HB := Aside0.mk (Below.refl w.heap.size w)
 have H : (if a1 = true then ((strings_CutPrefix.f a0 (⟨#[72, 84, 84, 80, 47, 49, 46, 49, 32]⟩ : ByteArray)).bind fun bt377 => (if bt377.2 = true then (if (bt377.1.size : Int) < 4 then (impl_readFirst.j0 k bt377.1 true) else (if 3 < (bt377.1.size : Int) then (if (bt bt377.1 3) = 32 then (if 0 ≤ 3 then (if 3 ≤ (bt377.1.size : Int) then ((impl_all__impl_isDigit.f k (bt377.1.extract 0 3)).bind fun t379 => (impl_readFirst.j0 k bt377.1 (!t379))) else (none)) else (none)) else (impl_readFirst.j0 k bt377.1 true)) else (none))) else (impl_readFirst.j0 k bt377.1 true))) else ((strings_Split.f a0 (⟨#[32]⟩ : ByteArray)).bind fun t384 => (if (t384.length : Int) = 3 then (if 2 < (t384.length : Int) then (impl_readFirst.j1 k t384 ((rdOf ByteArray.empty t384 2).toList != ([72, 84, 84, 80, 47, 49, 46, 49] : List UInt8))) else (none)) else (impl_readFirst.j1 k t384 true)))) = some (r1, r2, r3, r4, r5, r6, r7, r8) := h
 clear h
 by_cases c3 : a1 = true
 ·subst c3
  have H1 : ((strings_CutPrefix.f a0 (⟨#[72, 84, 84, 80, 47, 49, 46, 49, 32]⟩ : ByteArray)).bind fun bt377 => (if bt377.2 = true then (if (bt377.1.size : Int) < 4 then (impl_readFirst.j0 k bt377.1 true) else (if 3 < (bt377.1.size : Int) then (if (bt bt377.1 3) = 32 then (if 0 ≤ 3 then (if 3 ≤ (bt377.1.size : Int) then ((impl_all__impl_isDigit.f k (bt377.1.extract 0 3)).bind fun t379 => (impl_readFirst.j0 k bt377.1 (!t379))) else (none)) else (none)) else (impl_readFirst.j0 k bt377.1 true)) else (none))) else (impl_readFirst.j0 k bt377.1 true))) = some (r1, r2, r3, r4, r5, r6, r7, r8) := by rw [if_pos rfl] at H; exact H
  clear H
  have H := H1
  clear H1
  replace H := Option.bind_eq_some_iff.mp H
  obtain ⟨⟨t377, t378⟩, A40, H⟩ := H
  replace H : (if t378 = true then (if (t377.size : Int) < 4 then (impl_readFirst.j0 k t377 true) else (if 3 < (t377.size : Int) then (if (bt t377 3) = 32 then (if 0 ≤ 3 then (if 3 ≤ (t377.size : Int) then ((impl_all__impl_isDigit.f k (t377.extract 0 3)).bind fun t379 => (impl_readFirst.j0 k t377 (!t379))) else (none)) else (none)) else (impl_readFirst.j0 k t377 true)) else (none))) else (impl_readFirst.j0 k t377 true)) = some (r1, r2, r3, r4, r5, r6, r7, r8) := H
  have A4 := Aside0.mk A40
  clear A40
  have HC5 := Aside0.mk H
  clear H
  go_enter Tryz.func20, Tryz.ntmps20
  go_upto_region 3 with (first | ((with_reducible refine gate_dst (N := 4) rfl ?_); refine boxG #[.string (⟨#[]⟩ : ByteArray), .string (⟨#[]⟩ : ByteArray), .int .i64 0, .string (⟨#[]⟩ : ByteArray), .bool false, .slice none 0 0, .string (⟨#[]⟩ : ByteArray)] 24 ?_; intro gb376 hg w6 hbox hb; have BK376 := Aside0.mk (hbox); have GW376 := geA hg; have GE376 := geA hg; replace HB := beA hb; clear hb hbox hg) | ((with_reducible refine gate_callee (f := 35) rfl ?_); refine goesL_ (some 14) rfl rfl Tryz.func35 (by kernel_rfl) rfl #[.string a0, .string (⟨#[72, 84, 84, 80, 47, 49, 46, 49, 32]⟩ : ByteArray)] rfl gq1 ?_; (with_reducible refine (strings_CutPrefix.calls a0 (⟨#[72, 84, 84, 80, 47, 49, 46, 49, 32]⟩ : ByteArray) t377 t378 _ A4.out).mono ?_); rintro e w' ⟨rfl, ⟨nd, rfl⟩⟩; refine ⟨_, rfl, ?_⟩))
  (try simp only [Act.put, List.setIfInBounds_toArray, List.set_cons_zero, List.set_cons_succ])
  go_cut [34] (fun v34 wc => ∃ (kq : Nat) (x34_4 : Bool), v34 = .bool x34_4 ∧ Aside0 (impl_readFirst.j0 kq t377 x34_4 = some (r1, r2, r3, r4, r5, r6, r7, r8)) ∧ Aside0 (kq ≤ k) ∧ Aside0 (wc.heap[gb376]? = some (.cells #[.string (⟨#[]⟩ : ByteArray), .string (⟨#[]⟩ : ByteArray), .int .i64 0, .string (⟨#[]⟩ : ByteArray), .bool false, (.slice none 0 0), .string (⟨#[]⟩ : ByteArray)] 24 (0, 0))) ∧ Aside0 (Below w.heap.size w wc))
  case first =>
   have H := HC5.out
   clear HC5
   by_cases c7 : t378 = true
   ·subst c7
    have H1 : (if (t377.size : Int) < 4 then (impl_readFirst.j0 k t377 true) else (if 3 < (t377.size : Int) then (if (bt t377 3) = 32 then (if 0 ≤ 3 then (if 3 ≤ (t377.size : Int) then ((impl_all__impl_isDigit.f k (t377.extract 0 3)).bind fun t379 => (impl_readFirst.j0 k t377 (!t379))) else (none)) else (none)) else (impl_readFirst.j0 k t377 true)) else (none))) = some (r1, r2, r3, r4, r5, r6, r7, r8) := by rw [if_pos rfl] at H; exact H
    clear H
    have H := H1
    clear H1
    by_cases c8 : (t377.size : Int) < 4
    ·rw [if_pos c8] at H
     have c8b0 := decide_eq_true c8
     have c8b1 : decide (t377.size < 4) = true := decide_eq_true (by omega)
     clear c8
     (first | rw [c8b0] | (simp only [i64_w, i32_w]; rw [c8b0]) | skip)
     have H' := Aside0.mk H
     clear H
     go_wp2
     go_meet
     case rel => exact ⟨_, (true), gq4, H', ⟨gq20⟩, ⟨gBk⟩, ⟨gBe⟩⟩
    ·rw [if_neg c8] at H
     have c8b0 := decide_eq_false c8
     have c8b1 : decide (t377.size < 4) = false := decide_eq_false (by omega)
     clear c8
     (first | rw [c8b0] | (simp only [i64_w, i32_w]; rw [c8b0]) | skip)
     by_cases c9 : 3 < (t377.size : Int)
     ·rw [if_pos c9] at H
      have c9b0 := decide_eq_true c9
      have c9b1 : decide (3 < t377.size) = true := decide_eq_true (by omega)
      clear c9
      by_cases c11 : (bt t377 3) = 32
      ·rw [if_pos c11] at H
       have c11b0 : ((bt t377 3) == 32) = true := beq_iff_eq.mpr c11
       have c11b1 : ((bt t377 3) != 32) = false := bne_eq_false_iff_eq.mpr c11
       clear c11
       by_cases c12 : 0 ≤ 3
       ·rw [if_pos c12] at H
        have c12b0 := eq_true c12
        have c12b1 := decide_eq_true c12
        clear c12
        by_cases c13 : 3 ≤ (t377.size : Int)
        ·rw [if_pos c13] at H
         have c13b0 := eq_true c13
         have c13b1 := decide_eq_true c13
         clear c13
         replace H := Option.bind_eq_some_iff.mp H
         obtain ⟨t379, A140, H⟩ := H
         replace H : (impl_readFirst.j0 k t377 (!t379)) = some (r1, r2, r3, r4, r5, r6, r7, r8) := H
         have A14 := Aside0.mk A140
         clear A140
         have H' := Aside0.mk H
         clear H
         have p10 : 0 ≤ (3 : Int) := (by omega)
         have q10 : 3 < t377.size := (by have : (3 : Int) < (t377.size : Int) := of_decide_eq_true gq3; omega)
         have hx10 : ∀ h : 3 < t377.size, ((t377[3]'h).toNat : Int) = bt t377 3 := bt_at t377 3
         clear p10
         have qi10 : (3 < (t377.size : Int)) = True := eq_true (of_decide_eq_true gq3)
         replace q10 := eq_true q10
         go_wp2_with (first | (go_at_call 36; (with_reducible refine (impl_all__impl_isDigit.calls k (t377.extract 0 3)  t379 _ A14.out).mono ?_); rintro e w' ⟨rfl, ⟨nd, rfl⟩⟩))
         go_meet
         case rel => exact ⟨_, (!t379), gq4, H', ⟨gq20⟩, ⟨gBk⟩, ⟨gBe⟩⟩
        ·rw [if_neg c13] at H
         exact absurd H (by simp)
       ·rw [if_neg c12] at H
        exact absurd H (by simp)
      ·rw [if_neg c11] at H
       have c11b0 : ((bt t377 3) == 32) = false := beq_eq_false_iff_ne.mpr c11
       have c11b1 : ((bt t377 3) != 32) = true := bne_iff_ne.mpr c11
       have H' := Aside0.mk H
       clear H
       have p10 : 0 ≤ (3 : Int) := (by omega)
       have q10 : 3 < t377.size := (by have : (3 : Int) < (t377.size : Int) := of_decide_eq_true gq3; omega)
       have hx10 : ∀ h : 3 < t377.size, ((t377[3]'h).toNat : Int) = bt t377 3 := bt_at t377 3
       clear p10
       have qi10 : (3 < (t377.size : Int)) = True := eq_true (of_decide_eq_true gq3)
       replace q10 := eq_true q10
       go_wp2
       go_meet
       case rel => exact ⟨_, (true), gq4, H', ⟨gq20⟩, ⟨gBk⟩, ⟨gBe⟩⟩
     ·rw [if_neg c9] at H
      exact absurd H (by simp)
   ·replace c7 := Bool.eq_false_iff.mpr c7
    subst c7
    have H1 : (impl_readFirst.j0 k t377 true) = some (r1, r2, r3, r4, r5, r6, r7, r8) := by rw [if_neg (show ¬ (false = true) by decide)] at H; exact H
    clear H
    have H := H1
    clear H1
    have H' := Aside0.mk H
    clear H
    go_wp2
    go_meet
    case rel => exact ⟨_, (true), gq4, H', ⟨gq20⟩, ⟨gBk⟩, ⟨gBe⟩⟩
  case rest =>
   clear HC5
   try clear c1
   try clear p1
   try clear q1
   try clear hx1
   try clear qi1
   try clear c2
   try clear p2
   try clear c3
   try clear c7
   try clear c8
   try clear c8b0
   try clear c8b1
   try clear c9
   try clear c9b0
   try clear c9b1
   try clear p10
   try clear q10
   try clear hx10
   try clear qi10
   try clear c11
   try clear c11b0
   try clear c11b1
   try clear c12
   try clear c12b0
   try clear c12b1
   try clear c13
   try clear c13b0
   try clear c13b1
   try clear p10
   try clear q10
   obtain ⟨kq, x34_4, rfl, HA, HJ4, BK376, HB⟩ := hcut
   cases kq with
   | zero => exact absurd HA.out (by simp [impl_readFirst.j0])
   | succ kj4 =>
    have H := HA.out
    clear HA
    simp only [impl_readFirst.j0] at H
    by_cases c15 : x34_4 = true
    ·subst c15
     have H1 : (some ((⟨#[]⟩ : ByteArray), (⟨#[]⟩ : ByteArray), 0, (⟨#[]⟩ : ByteArray), false, ([] : List (S41)), (⟨#[]⟩ : ByteArray), false)) = some (r1, r2, r3, r4, r5, r6, r7, r8) := by rw [if_pos rfl] at H; exact H
     clear H
     have H := H1
     clear H1
     simp only [Option.some.injEq, Prod.mk.injEq] at H
     obtain ⟨rfl, rfl, rfl, rfl, rfl, rfl, rfl, rfl⟩ := H
     have hcz16_0 := cz0 BK376
     have hcz16_1 := cz1 BK376
     have hcz16_2 := cz2 BK376
     have hcz16_3 := cz3 BK376
     have hcz16_4 := cz4 BK376
     have hcz16_5 := cz5 BK376
     have hcz16_6 := cz6 BK376
     have hfz16_0 := blk_frozen BK376.out 0
     have hfz16_1 := blk_frozen BK376.out 1
     have hfz16_2 := blk_frozen BK376.out 2
     have hfz16_3 := blk_frozen BK376.out 3
     have hfz16_4 := blk_frozen BK376.out 4
     have hfz16_5 := blk_frozen BK376.out 5
     have hfz16_6 := blk_frozen BK376.out 6
     go_wp2
     refine rctA gb376 24 #[.string (⟨#[]⟩ : ByteArray), .string (⟨#[]⟩ : ByteArray), .int .i64 0, .string (⟨#[]⟩ : ByteArray), .bool false, .slice none 0 0, .string (⟨#[]⟩ : ByteArray)] Tryz.underlying24 ?_
     exact ⟨_, gq2, gq6, gBe⟩
    ·replace c15 := Bool.eq_false_iff.mpr c15
     subst c15
     have H1 : (if 0 ≤ 3 then (if 3 ≤ (t377.size : Int) then ((strconv_Atoi_38.f (t377.extract 0 3)).bind fun bt380 => (if 4 ≤ (t377.size : Int) then ((impl_isStatus.f bt380.1).bind fun t382 => (if t382 = true then ((impl_isReason.f kj4 (t377.extract 4 t377.size)).bind fun t383 => (some ((⟨#[]⟩ : ByteArray), (⟨#[]⟩ : ByteArray), bt380.1, t377.extract 4 t377.size, false, ([] : List (S41)), (⟨#[]⟩ : ByteArray), t383))) else (some ((⟨#[]⟩ : ByteArray), (⟨#[]⟩ : ByteArray), bt380.1, t377.extract 4 t377.size, false, ([] : List (S41)), (⟨#[]⟩ : ByteArray), false)))) else (none))) else (none)) else (none)) = some (r1, r2, r3, r4, r5, r6, r7, r8) := by rw [if_neg (show ¬ (false = true) by decide)] at H; exact H
     clear H
     have H := H1
     clear H1
     by_cases c17 : 0 ≤ 3
     ·rw [if_pos c17] at H
      have c17b0 := eq_true c17
      have c17b1 := decide_eq_true c17
      clear c17
      by_cases c18 : 3 ≤ (t377.size : Int)
      ·rw [if_pos c18] at H
       have c18b0 := eq_true c18
       have c18b1 := decide_eq_true c18
       clear c18
       replace H := Option.bind_eq_some_iff.mp H
       obtain ⟨⟨t380, t381⟩, A190, H⟩ := H
       replace H : (if 4 ≤ (t377.size : Int) then ((impl_isStatus.f t380).bind fun t382 => (if t382 = true then ((impl_isReason.f kj4 (t377.extract 4 t377.size)).bind fun t383 => (some ((⟨#[]⟩ : ByteArray), (⟨#[]⟩ : ByteArray), t380, t377.extract 4 t377.size, false, ([] : List (S41)), (⟨#[]⟩ : ByteArray), t383))) else (some ((⟨#[]⟩ : ByteArray), (⟨#[]⟩ : ByteArray), t380, t377.extract 4 t377.size, false, ([] : List (S41)), (⟨#[]⟩ : ByteArray), false)))) else (none)) = some (r1, r2, r3, r4, r5, r6, r7, r8) := H
       have A19 := Aside0.mk A190
       clear A190
       by_cases c20 : 4 ≤ (t377.size : Int)
       ·rw [if_pos c20] at H
        have c20b0 := eq_true c20
        have c20b1 := decide_eq_true c20
        clear c20
        replace H := Option.bind_eq_some_iff.mp H
        obtain ⟨t382, A210, H⟩ := H
        replace H : (if t382 = true then ((impl_isReason.f kj4 (t377.extract 4 t377.size)).bind fun t383 => (some ((⟨#[]⟩ : ByteArray), (⟨#[]⟩ : ByteArray), t380, t377.extract 4 t377.size, false, ([] : List (S41)), (⟨#[]⟩ : ByteArray), t383))) else (some ((⟨#[]⟩ : ByteArray), (⟨#[]⟩ : ByteArray), t380, t377.extract 4 t377.size, false, ([] : List (S41)), (⟨#[]⟩ : ByteArray), false))) = some (r1, r2, r3, r4, r5, r6, r7, r8) := H
        have A21 := Aside0.mk A210
        clear A210
        by_cases c22 : t382 = true
        ·subst c22
         have H1 : ((impl_isReason.f kj4 (t377.extract 4 t377.size)).bind fun t383 => (some ((⟨#[]⟩ : ByteArray), (⟨#[]⟩ : ByteArray), t380, t377.extract 4 t377.size, false, ([] : List (S41)), (⟨#[]⟩ : ByteArray), t383))) = some (r1, r2, r3, r4, r5, r6, r7, r8) := by rw [if_pos rfl] at H; exact H
         clear H
         have H := H1
         clear H1
         have c23b0 := eq_true (of_decide_eq_true gq3 : 4 ≤ (t377.size : Int))
         replace H := Option.bind_eq_some_iff.mp H
         obtain ⟨t383, A240, H⟩ := H
         replace H : (some ((⟨#[]⟩ : ByteArray), (⟨#[]⟩ : ByteArray), t380, t377.extract 4 t377.size, false, ([] : List (S41)), (⟨#[]⟩ : ByteArray), t383)) = some (r1, r2, r3, r4, r5, r6, r7, r8) := H
         have A24 := Aside0.mk A240
         clear A240
         simp only [Option.some.injEq, Prod.mk.injEq] at H
         obtain ⟨rfl, rfl, rfl, rfl, rfl, rfl, rfl, rfl⟩ := H
         try go_wp2_with (first | ((with_reducible refine gate_callee (f := 38) rfl ?_); refine goesL_ (some 39) rfl rfl Tryz.func38 (by kernel_rfl) rfl #[.string (t377.extract 0 3)] rfl gq1 ?_; (with_reducible refine (strconv_Atoi_38.calls (t377.extract 0 3) t380 t381 _ A19.out).mono ?_); rintro e w25 ⟨rfl, hb⟩; refine ⟨_, rfl, ?_⟩; replace BK376 := blA (g := gb376) hb; replace HB := beA hb; (try clear hb); (try clear hb2); (try clear hk); (try clear hi); (try simp only [errW_none, errW_some])))
         replace BK376 := Aside0.mk (blk_drew BK376.out)
         replace HB := Aside0.mk (below_drew1 HB.out)
         refine start_ (n := 13) (S := fun w' => True) (ds := []) #[false, false, false, false, false, false, false, false, false, false, false, false, false] (by kernel_rfl) rfl rfl trivial (fun hHeld => ?_); refine with_tabW impl_readFirst.tab6 impl_readFirst.bits6 (fun HT_ HW_ => ?_)
         generalize w25.drew = w26 at BK376 HB hHeld ⊢
         refine pureT 0 (some 42) ?_
         refine pureT 1 (some 43) ?_
         refine pureT 2 (some 44) ?_
         refine pureT 3 (some 45) ?_
         refine pureT 4 (some 46) ?_
         refine one_ (i := 5) (N := some 47) #[true, true, true, true, true, true, false, false, false, false, false, false, false] rfl rfl (one_of HT_.out (by kernel_rfl)) (by decide) (fun K hK => ?_)
         refine goes_ Tryz.func39 (by kernel_rfl) rfl #[.int .i64 t380] (by rfl) rfl rfl gq1 ?_
         with_reducible refine (impl_isStatus.calls t380 true _ A21.out).mono ?_
         rintro e w' ⟨rfl, ⟨nd, rfl⟩⟩
         refine ⟨_, rfl, ?_⟩
         refine hK.out _ _ trivial (fun hHeld => ?_)
         clear hK K
         refine normA (some 47) ?_
         refine pureT 6 (some 48) ?_
         refine pureT 7 (some 49) ?_
         refine pureT 8 (some 50) ?_
         refine one_ (i := 9) (N := some 51) #[true, true, true, true, true, true, true, true, true, true, false, false, false] rfl rfl (one_of HT_.out (by kernel_rfl)) (by decide) (fun K hK => ?_)
         refine goes_ Tryz.func40 (by kernel_rfl) rfl #[.string (t377.extract 4 t377.size)] (by rfl) rfl rfl gq1 ?_
         with_reducible refine (impl_isReason.calls kj4 (t377.extract 4 t377.size) t383 _ A24.out).mono ?_
         rintro e w' ⟨rfl, ⟨nd, rfl⟩⟩
         refine ⟨_, rfl, ?_⟩
         refine hK.out _ _ trivial (fun hHeld => ?_)
         clear hK K
         refine normA (some 51) ?_
         refine pureT 10 (some 52) ?_
         refine one_ (i := 11) (N := none) #[true, true, true, true, true, true, true, true, true, true, true, true, false] rfl rfl (one_of HT_.out (by kernel_rfl)) (by decide) (fun K hK => ?_)
         have hs27 := cz0 BK376
         have hfs27 := blk_frozen BK376.out 0
         have hs28 := cz1 BK376
         have hfs28 := blk_frozen BK376.out 1
         have hs29 := cz2 BK376
         have hfs29 := blk_frozen BK376.out 2
         have hs30 := cz3 BK376
         have hfs30 := blk_frozen BK376.out 3
         have hs31 := cz4 BK376
         have hfs31 := blk_frozen BK376.out 4
         have hs32 := cz5 BK376
         have hfs32 := blk_frozen BK376.out 5
         have hs33 := cz6 BK376
         have hfs33 := blk_frozen BK376.out 6
         refine skip_ (w1 := ?_) (by rfl) rfl ?_ ?_
         rotate_left
         ·go_simp
          rfl
         refine hK.out _ _ trivial (fun hHeld => ?_)
         clear hK K
         refine pureT 12 (some 5) ?_
         refine done_ (done_of HT_.out (by kernel_rfl)) ?_
         try go_wp2
         refine rctA gb376 24 #[.string (⟨#[]⟩ : ByteArray), .string (⟨#[]⟩ : ByteArray), .int .i64 t380, .string (t377.extract 4 t377.size), .bool false, .slice none 0 0, .string (⟨#[]⟩ : ByteArray)] Tryz.underlying24 ?_
         exact ⟨_, gq2, gq6, gBe⟩
        ·replace c22 := Bool.eq_false_iff.mpr c22
         subst c22
         have H1 : (some ((⟨#[]⟩ : ByteArray), (⟨#[]⟩ : ByteArray), t380, t377.extract 4 t377.size, false, ([] : List (S41)), (⟨#[]⟩ : ByteArray), false)) = some (r1, r2, r3, r4, r5, r6, r7, r8) := by rw [if_neg (show ¬ (false = true) by decide)] at H; exact H
         clear H
         have H := H1
         clear H1
         simp only [Option.some.injEq, Prod.mk.injEq] at H
         obtain ⟨rfl, rfl, rfl, rfl, rfl, rfl, rfl, rfl⟩ := H
         try go_wp2_with (first | ((with_reducible refine gate_callee (f := 38) rfl ?_); refine goesL_ (some 39) rfl rfl Tryz.func38 (by kernel_rfl) rfl #[.string (t377.extract 0 3)] rfl gq1 ?_; (with_reducible refine (strconv_Atoi_38.calls (t377.extract 0 3) t380 t381 _ A19.out).mono ?_); rintro e w34 ⟨rfl, hb⟩; refine ⟨_, rfl, ?_⟩; replace BK376 := blA (g := gb376) hb; replace HB := beA hb; (try clear hb); (try clear hb2); (try clear hk); (try clear hi); (try simp only [errW_none, errW_some])))
         replace BK376 := Aside0.mk (blk_drew BK376.out)
         replace HB := Aside0.mk (below_drew1 HB.out)
         refine start_ (n := 13) (S := fun w' => True) (ds := []) #[false, false, false, false, false, false, false, false, false, false, false, false, false] (by kernel_rfl) rfl rfl trivial (fun hHeld => ?_); refine with_tabW impl_readFirst.tab6 impl_readFirst.bits6 (fun HT_ HW_ => ?_)
         generalize w34.drew = w35 at BK376 HB hHeld ⊢
         refine pureT 0 (some 42) ?_
         refine pureT 1 (some 43) ?_
         refine pureT 2 (some 44) ?_
         refine pureT 3 (some 45) ?_
         refine pureT 4 (some 46) ?_
         refine one_ (i := 5) (N := some 47) #[true, true, true, true, true, true, false, false, false, false, false, false, false] rfl rfl (one_of HT_.out (by kernel_rfl)) (by decide) (fun K hK => ?_)
         refine goes_ Tryz.func39 (by kernel_rfl) rfl #[.int .i64 t380] (by rfl) rfl rfl gq1 ?_
         with_reducible refine (impl_isStatus.calls t380 false _ A21.out).mono ?_
         rintro e w' ⟨rfl, ⟨nd, rfl⟩⟩
         refine ⟨_, rfl, ?_⟩
         refine hK.out _ _ trivial (fun hHeld => ?_)
         clear hK K
         refine normA (some 47) ?_
         refine pureT 6 (some 48) ?_
         refine pureU 7 (some 49) ?_
         refine pureU 8 (some 50) ?_
         refine pureU 9 (some 51) ?_
         refine pureT 10 (some 52) ?_
         refine one_ (i := 11) (N := none) #[true, true, true, true, true, true, true, true, true, true, true, true, false] rfl rfl (one_of HT_.out (by kernel_rfl)) (by decide) (fun K hK => ?_)
         have hs36 := cz0 BK376
         have hfs36 := blk_frozen BK376.out 0
         have hs37 := cz1 BK376
         have hfs37 := blk_frozen BK376.out 1
         have hs38 := cz2 BK376
         have hfs38 := blk_frozen BK376.out 2
         have hs39 := cz3 BK376
         have hfs39 := blk_frozen BK376.out 3
         have hs40 := cz4 BK376
         have hfs40 := blk_frozen BK376.out 4
         have hs41 := cz5 BK376
         have hfs41 := blk_frozen BK376.out 5
         have hs42 := cz6 BK376
         have hfs42 := blk_frozen BK376.out 6
         refine skip_ (w1 := ?_) (by rfl) rfl ?_ ?_
         rotate_left
         ·go_simp
          rfl
         refine hK.out _ _ trivial (fun hHeld => ?_)
         clear hK K
         refine pureT 12 (some 5) ?_
         refine done_ (done_of HT_.out (by kernel_rfl)) ?_
         try go_wp2
         refine rctA gb376 24 #[.string (⟨#[]⟩ : ByteArray), .string (⟨#[]⟩ : ByteArray), .int .i64 t380, .string (t377.extract 4 t377.size), .bool false, .slice none 0 0, .string (⟨#[]⟩ : ByteArray)] Tryz.underlying24 ?_
         exact ⟨_, gq2, gq6, gBe⟩
       ·rw [if_neg c20] at H
        exact absurd H (by simp)
      ·rw [if_neg c18] at H
       exact absurd H (by simp)
     ·rw [if_neg c17] at H
      exact absurd H (by simp)
 ·replace c3 := Bool.eq_false_iff.mpr c3
  subst c3
  have H1 : ((strings_Split.f a0 (⟨#[32]⟩ : ByteArray)).bind fun t384 => (if (t384.length : Int) = 3 then (if 2 < (t384.length : Int) then (impl_readFirst.j1 k t384 ((rdOf ByteArray.empty t384 2).toList != ([72, 84, 84, 80, 47, 49, 46, 49] : List UInt8))) else (none)) else (impl_readFirst.j1 k t384 true))) = some (r1, r2, r3, r4, r5, r6, r7, r8) := by rw [if_neg (show ¬ (false = true) by decide)] at H; exact H
  clear H
  have H := H1
  clear H1
  replace H := Option.bind_eq_some_iff.mp H
  obtain ⟨t384, A430, H⟩ := H
  replace H : (if (t384.length : Int) = 3 then (if 2 < (t384.length : Int) then (impl_readFirst.j1 k t384 ((rdOf ByteArray.empty t384 2).toList != ([72, 84, 84, 80, 47, 49, 46, 49] : List UInt8))) else (none)) else (impl_readFirst.j1 k t384 true)) = some (r1, r2, r3, r4, r5, r6, r7, r8) := H
  have A43 := Aside0.mk A430
  clear A430
  have HC44 := Aside0.mk H
  clear H
  go_enter Tryz.func20, Tryz.ntmps20
  go_upto_region 8 with (first | ((with_reducible refine gate_dst (N := 4) rfl ?_); refine boxG #[.string (⟨#[]⟩ : ByteArray), .string (⟨#[]⟩ : ByteArray), .int .i64 0, .string (⟨#[]⟩ : ByteArray), .bool false, .slice none 0 0, .string (⟨#[]⟩ : ByteArray)] 24 ?_; intro gb376 hg w45 hbox hb; have BK376 := Aside0.mk (hbox); have GW376 := geA hg; have GE376 := geA hg; replace HB := beA hb; clear hb hbox hg) | ((with_reducible refine gate_callee (f := 41) rfl ?_); refine goesL_ (some 54) rfl rfl Tryz.func41 (by kernel_rfl) rfl #[.string a0, .string (⟨#[32]⟩ : ByteArray)] rfl gq1 ?_; (with_reducible refine (strings_Split.calls a0 (⟨#[32]⟩ : ByteArray) t384 _ A43.out).mono ?_); rintro e w46 ⟨v385, rfl, ho0, hb⟩; refine ⟨_, rfl, ?_⟩; have HO386 := Aside0.mk (Kd.R_lower ho0 (below_size gBe)); replace BK376 := blA (g := gb376) hb; replace HB := beA hb; (try clear hb); (try clear hb2); (try clear hk); (try clear hi); (try clear ho0)))
  (try simp only [Act.put, List.setIfInBounds_toArray, List.set_cons_zero, List.set_cons_succ])
  go_cut [63] (fun v63 wc => ∃ (kq : Nat) (x63_43 : Bool), v63 = .bool x63_43 ∧ Aside0 (impl_readFirst.j1 kq t384 x63_43 = some (r1, r2, r3, r4, r5, r6, r7, r8)) ∧ Aside0 (kq ≤ k) ∧ Aside0 (Kd.R Kd.string 9 wc w.heap.size (fun _ => True) v385 t384) ∧ Aside0 (wc.heap[gb376]? = some (.cells #[.string (⟨#[]⟩ : ByteArray), .string (⟨#[]⟩ : ByteArray), .int .i64 0, .string (⟨#[]⟩ : ByteArray), .bool false, (.slice none 0 0), .string (⟨#[]⟩ : ByteArray)] 24 (0, 0))) ∧ Aside0 (Below w.heap.size w wc))
  case first =>
   have H := HC44.out
   clear HC44
   by_cases c47 : (t384.length : Int) = 3
   ·rw [if_pos c47] at H
    have c47b0 : ((t384.length : Int) == 3) = true := beq_iff_eq.mpr c47
    have c47b1 : ((t384.length : Int) != 3) = false := bne_eq_false_iff_eq.mpr c47
    clear c47
    (first | rw [c47b0] | (simp only [i64_w, i32_w]; rw [c47b0]) | skip)
    by_cases c48 : 2 < (t384.length : Int)
    ·rw [if_pos c48] at H
     have c48b0 := decide_eq_true c48
     have c48b1 : decide (2 < t384.length) = true := decide_eq_true (by omega)
     clear c48
     have H' := Aside0.mk H
     clear H
     obtain ⟨Ao49, co49, eo49⟩ := Kd.R_slice HO386.out
     subst eo49
     have p387 : 0 ≤ (2 : Int) := (by omega)
     have q387 : 2 < (t384.length : Int) := of_decide_eq_true gq3
     obtain ⟨ad387, e387, hx387_0⟩ := Kd.at_string (Kd.R_reads' HO386.out).2.2 2 p387 q387
     cases e387
     (try simp only [show (2 : Int).toNat = 2 from rfl, Nat.reduceMul, Nat.reduceEqDiff, Go.Addr.add, ↓reduceIte] at hx387_0)
     have qi387 : (2 < t384.length) = True := eq_true (by omega)
     (try rw [show ((2 : Int)).toNat = 2 from rfl] at hx387_0)
     replace p387 := eq_true p387
     replace q387 := eq_true q387
     go_wp2
     go_meet
     case rel => exact ⟨_, (((rdOf ByteArray.empty t384 2).toList != ([72, 84, 84, 80, 47, 49, 46, 49] : List UInt8))), gq4, H', ⟨gq20⟩, ⟨gRo⟩, ⟨gBk⟩, ⟨gBe⟩⟩
    ·rw [if_neg c48] at H
     exact absurd H (by simp)
   ·rw [if_neg c47] at H
    have c47b0 : ((t384.length : Int) == 3) = false := beq_eq_false_iff_ne.mpr c47
    have c47b1 : ((t384.length : Int) != 3) = true := bne_iff_ne.mpr c47
    (first | rw [c47b0] | (simp only [i64_w, i32_w]; rw [c47b0]) | skip)
    have H' := Aside0.mk H
    clear H
    obtain ⟨Ao50, co50, eo50⟩ := Kd.R_slice HO386.out
    subst eo50
    go_wp2
    go_meet
    case rel => exact ⟨_, (true), gq4, H', ⟨gq20⟩, ⟨gRo⟩, ⟨gBk⟩, ⟨gBe⟩⟩
  case rest =>
   clear HC44
   try clear c1
   try clear p1
   try clear q1
   try clear hx1
   try clear qi1
   try clear c2
   try clear p2
   try clear c3
   try clear p3
   try clear q3
   try clear hx3
   try clear qi3
   try clear c4
   try clear c7
   try clear c8
   try clear c8b0
   try clear c8b1
   try clear c9
   try clear c9b0
   try clear c9b1
   try clear p10
   try clear q10
   try clear hx10
   try clear qi10
   try clear c11
   try clear c11b0
   try clear c11b1
   try clear c12
   try clear c12b0
   try clear c12b1
   try clear c13
   try clear c13b0
   try clear c13b1
   try clear c15
   try clear c17
   try clear c17b0
   try clear c17b1
   try clear c18
   try clear c18b0
   try clear c18b1
   try clear c20
   try clear c20b0
   try clear c20b1
   try clear c22
   try clear c23
   try clear c23b0
   try clear c35
   try clear c38
   try clear p38
   try clear q38
   try clear hx38
   try clear qi38
   try clear c39
   try clear c40
   try clear c41
   try clear c47
   try clear c47b0
   try clear c47b1
   try clear c48
   try clear c48b0
   try clear c48b1
   try clear hcz16_0
   try clear hcz16_1
   try clear hcz16_2
   try clear hcz16_3
   try clear hcz16_4
   try clear hcz16_5
   try clear hcz16_6
   try clear hfz16_0
   try clear hfz16_1
   try clear hfz16_2
   try clear hfz16_3
   try clear hfz16_4
   try clear hfz16_5
   try clear hfz16_6
   try clear hx387_0
   try clear p1
   try clear p10
   try clear p2
   try clear p387
   try clear q1
   try clear q10
   try clear q387
   obtain ⟨kq, x63_43, rfl, HA, HJ43, HO_10, BK376, HB⟩ := hcut
   cases kq with
   | zero => exact absurd HA.out (by simp [impl_readFirst.j1])
   | succ kj43 =>
    have H := HA.out
    clear HA
    simp only [impl_readFirst.j1] at H
    by_cases c51 : x63_43 = true
    ·subst c51
     have H1 : (some ((⟨#[]⟩ : ByteArray), (⟨#[]⟩ : ByteArray), 0, (⟨#[]⟩ : ByteArray), false, ([] : List (S41)), (⟨#[]⟩ : ByteArray), false)) = some (r1, r2, r3, r4, r5, r6, r7, r8) := by rw [if_pos rfl] at H; exact H
     clear H
     have H := H1
     clear H1
     simp only [Option.some.injEq, Prod.mk.injEq] at H
     obtain ⟨rfl, rfl, rfl, rfl, rfl, rfl, rfl, rfl⟩ := H
     have hcz52_0 := cz0 BK376
     have hcz52_1 := cz1 BK376
     have hcz52_2 := cz2 BK376
     have hcz52_3 := cz3 BK376
     have hcz52_4 := cz4 BK376
     have hcz52_5 := cz5 BK376
     have hcz52_6 := cz6 BK376
     have hfz52_0 := blk_frozen BK376.out 0
     have hfz52_1 := blk_frozen BK376.out 1
     have hfz52_2 := blk_frozen BK376.out 2
     have hfz52_3 := blk_frozen BK376.out 3
     have hfz52_4 := blk_frozen BK376.out 4
     have hfz52_5 := blk_frozen BK376.out 5
     have hfz52_6 := blk_frozen BK376.out 6
     go_wp2
     refine rctA gb376 24 #[.string (⟨#[]⟩ : ByteArray), .string (⟨#[]⟩ : ByteArray), .int .i64 0, .string (⟨#[]⟩ : ByteArray), .bool false, .slice none 0 0, .string (⟨#[]⟩ : ByteArray)] Tryz.underlying24 ?_
     exact ⟨_, gq2, gq6, gBe⟩
    ·replace c51 := Bool.eq_false_iff.mpr c51
     subst c51
     have H1 : (if 0 < (t384.length : Int) then (if 1 < (t384.length : Int) then ((impl_isMethod.f kj43 (rdOf ByteArray.empty t384 0)).bind fun t391 => (if t391 = true then ((impl_isTarget.f kj43 (rdOf ByteArray.empty t384 1)).bind fun t393 => (some (rdOf ByteArray.empty t384 0, rdOf ByteArray.empty t384 1, 0, (⟨#[]⟩ : ByteArray), false, ([] : List (S41)), (⟨#[]⟩ : ByteArray), t393))) else (some (rdOf ByteArray.empty t384 0, rdOf ByteArray.empty t384 1, 0, (⟨#[]⟩ : ByteArray), false, ([] : List (S41)), (⟨#[]⟩ : ByteArray), false)))) else (none)) else (none)) = some (r1, r2, r3, r4, r5, r6, r7, r8) := by rw [if_neg (show ¬ (false = true) by decide)] at H; exact H
     clear H
     have H := H1
     clear H1
     by_cases c53 : 0 < (t384.length : Int)
     ·rw [if_pos c53] at H
      have c53b0 := decide_eq_true c53
      have c53b1 : decide (0 < t384.length) = true := decide_eq_true (by omega)
      clear c53
      by_cases c54 : 1 < (t384.length : Int)
      ·rw [if_pos c54] at H
       have c54b0 := decide_eq_true c54
       have c54b1 : decide (1 < t384.length) = true := decide_eq_true (by omega)
       clear c54
       replace H := Option.bind_eq_some_iff.mp H
       obtain ⟨t391, A550, H⟩ := H
       replace H : (if t391 = true then ((impl_isTarget.f kj43 (rdOf ByteArray.empty t384 1)).bind fun t393 => (some (rdOf ByteArray.empty t384 0, rdOf ByteArray.empty t384 1, 0, (⟨#[]⟩ : ByteArray), false, ([] : List (S41)), (⟨#[]⟩ : ByteArray), t393))) else (some (rdOf ByteArray.empty t384 0, rdOf ByteArray.empty t384 1, 0, (⟨#[]⟩ : ByteArray), false, ([] : List (S41)), (⟨#[]⟩ : ByteArray), false))) = some (r1, r2, r3, r4, r5, r6, r7, r8) := H
       have A55 := Aside0.mk A550
       clear A550
       by_cases c56 : t391 = true
       ·subst c56
        have H1 : ((impl_isTarget.f kj43 (rdOf ByteArray.empty t384 1)).bind fun t393 => (some (rdOf ByteArray.empty t384 0, rdOf ByteArray.empty t384 1, 0, (⟨#[]⟩ : ByteArray), false, ([] : List (S41)), (⟨#[]⟩ : ByteArray), t393))) = some (r1, r2, r3, r4, r5, r6, r7, r8) := by rw [if_pos rfl] at H; exact H
        clear H
        have H := H1
        clear H1
        replace H := Option.bind_eq_some_iff.mp H
        obtain ⟨t393, A570, H⟩ := H
        replace H : (some (rdOf ByteArray.empty t384 0, rdOf ByteArray.empty t384 1, 0, (⟨#[]⟩ : ByteArray), false, ([] : List (S41)), (⟨#[]⟩ : ByteArray), t393)) = some (r1, r2, r3, r4, r5, r6, r7, r8) := H
        have A57 := Aside0.mk A570
        clear A570
        simp only [Option.some.injEq, Prod.mk.injEq] at H
        obtain ⟨rfl, rfl, rfl, rfl, rfl, rfl, rfl, rfl⟩ := H
        try go_wp2
        replace HO_10 := Aside0.mk (Kd.R_drew HO_10.out)
        replace BK376 := Aside0.mk (blk_drew BK376.out)
        replace HB := Aside0.mk (below_drew1 HB.out)
        obtain ⟨Ao59, co59, eo59⟩ := Kd.R_slice HO_10.out
        (first | subst eo59 | (injection eo59 with f1_ f2_ f3_; have f4_ := f1_.symm; have f5_ := f3_.symm; clear f1_ f2_ f3_; subst f4_; subst f5_))
        have p388 : 0 ≤ (0 : Int) := (by omega)
        have q388 : 0 < (t384.length : Int) := of_decide_eq_true gq3
        obtain ⟨ad388, e388, hx388_0⟩ := Kd.at_string (Kd.R_reads' HO_10.out).2.2 0 p388 q388
        cases e388
        have qi388 : (0 < t384.length) = True := eq_true (by omega)
        (try rw [show ((0 : Int)).toNat = 0 from rfl] at hx388_0)
        (try rw [Addr.add_zero'] at hx388_0)
        replace p388 := eq_true p388
        replace q388 := eq_true q388
        have p389 : 0 ≤ (1 : Int) := (by omega)
        have q389 : 1 < (t384.length : Int) := of_decide_eq_true gq3
        obtain ⟨ad389, e389, hx389_0⟩ := Kd.at_string (Kd.R_reads' HO_10.out).2.2 1 p389 q389
        obtain rfl : ad388 = ad389 := (by injection e389)
        (try simp only [show (1 : Int).toNat = 1 from rfl, Nat.reduceMul, Nat.reduceEqDiff, Go.Addr.add, ↓reduceIte] at hx389_0)
        have qi389 : (1 < t384.length) = True := eq_true (by omega)
        (try rw [show ((1 : Int)).toNat = 1 from rfl] at hx389_0)
        replace p389 := eq_true p389
        replace q389 := eq_true q389
        have p390 : 0 ≤ (0 : Int) := (by omega)
        have q390 : 0 < (t384.length : Int) := of_decide_eq_true gq3
        obtain ⟨ad390, e390, hx390_0⟩ := Kd.at_string (Kd.R_reads' HO_10.out).2.2 0 p390 q390
        obtain rfl : ad388 = ad390 := (by injection e390)
        have qi390 : (0 < t384.length) = True := eq_true (by omega)
        (try rw [show ((0 : Int)).toNat = 0 from rfl] at hx390_0)
        (try rw [Addr.add_zero'] at hx390_0)
        replace p390 := eq_true p390
        replace q390 := eq_true q390
        have p392 : 0 ≤ (1 : Int) := (by omega)
        have q392 : 1 < (t384.length : Int) := of_decide_eq_true gq3
        obtain ⟨ad392, e392, hx392_0⟩ := Kd.at_string (Kd.R_reads' HO_10.out).2.2 1 p392 q392
        obtain rfl : ad388 = ad392 := (by injection e392)
        (try simp only [show (1 : Int).toNat = 1 from rfl, Nat.reduceMul, Nat.reduceEqDiff, Go.Addr.add, ↓reduceIte] at hx392_0)
        have qi392 : (1 < t384.length) = True := eq_true (by omega)
        (try rw [show ((1 : Int)).toNat = 1 from rfl] at hx392_0)
        replace p392 := eq_true p392
        replace q392 := eq_true q392
        refine start_ (n := 19) (S := fun w' => w'.cell? ad388 = some (.string (rdOf ByteArray.empty t384 0)) ∧ w'.cell? ⟨ad388.block, ad388.off + 1, none⟩ = some (.string (rdOf ByteArray.empty t384 1)) ∧ w'.cell? ad388 = some (.string (rdOf ByteArray.empty t384 0)) ∧ w'.cell? ⟨ad388.block, ad388.off + 1, none⟩ = some (.string (rdOf ByteArray.empty t384 1))) (ds := []) #[false, false, false, false, false, false, false, false, false, false, false, false, false, false, false, false, false, false, false] (by kernel_rfl) rfl rfl ⟨hx388_0, hx389_0, hx390_0, hx392_0⟩ (fun hHeld => ?_); refine with_tabW impl_readFirst.tab10 impl_readFirst.bits10 (fun HT_ HW_ => ?_)
        generalize wc.drew = w58 at HO_10 BK376 HB hx388_0 hx389_0 hx390_0 hx392_0 hHeld ⊢
        refine pureT 0 (some 65) ?_
        refine pureT 1 (some 66) ?_
        refine pureT 3 (some 68) ?_
        refine pureT 4 (some 69) ?_
        refine pureT 7 (some 72) ?_
        refine pureT 8 (some 73) ?_
        refine takeT_ 2 (some 67) (hy := Or.inl ⟨by rfl, gq28⟩) ?_
        refine takeT_ 5 (some 70) (hy := Or.inl ⟨by rfl, gq28⟩) ?_
        refine pureT 6 (some 71) ?_
        refine takeT_ 9 (some 74) (hy := Or.inl ⟨by rfl, gq28⟩) ?_
        refine one_ (i := 10) (N := some 75) #[true, true, true, true, true, true, true, true, true, true, true, false, false, false, false, false, false, false, false] rfl rfl (one_of HT_.out (by kernel_rfl)) (by decide) (fun K hK => ?_)
        refine goes_ Tryz.func42 (by kernel_rfl) rfl #[.string (rdOf ByteArray.empty t384 0)] (by rfl) rfl rfl gq1 ?_
        with_reducible refine (impl_isMethod.calls kj43 (rdOf ByteArray.empty t384 0) true _ A55.out).mono ?_
        rintro e w' ⟨rfl, ⟨nd, rfl⟩⟩
        refine ⟨_, rfl, ?_⟩
        refine hK.out _ _ ⟨hHeld.1, hHeld.2.1, hHeld.2.2.1, hHeld.2.2.2⟩ (fun hHeld => ?_)
        clear hK K
        refine normA (some 75) ?_
        refine pureT 11 (some 76) ?_
        refine pureT 12 (some 77) ?_
        refine pureT 13 (some 78) ?_
        refine takeT_ 14 (some 79) (hy := Or.inl ⟨by rfl, gq28⟩) ?_
        refine one_ (i := 15) (N := some 80) #[true, true, true, true, true, true, true, true, true, true, true, true, true, true, true, true, false, false, false] rfl rfl (one_of HT_.out (by kernel_rfl)) (by decide) (fun K hK => ?_)
        refine goes_ Tryz.func43 (by kernel_rfl) rfl #[.string (rdOf ByteArray.empty t384 1)] (by rfl) rfl rfl gq1 ?_
        with_reducible refine (impl_isTarget.calls kj43 (rdOf ByteArray.empty t384 1) t393 _ A57.out).mono ?_
        rintro e w' ⟨rfl, ⟨nd, rfl⟩⟩
        refine ⟨_, rfl, ?_⟩
        refine hK.out _ _ ⟨hHeld.1, hHeld.2.1, hHeld.2.2.1, hHeld.2.2.2⟩ (fun hHeld => ?_)
        clear hK K
        refine normA (some 80) ?_
        refine pureT 16 (some 81) ?_
        refine one_ (i := 17) (N := none) #[true, true, true, true, true, true, true, true, true, true, true, true, true, true, true, true, true, true, false] rfl rfl (one_of HT_.out (by kernel_rfl)) (by decide) (fun K hK => ?_)
        have hs60 := cz0 BK376
        have hfs60 := blk_frozen BK376.out 0
        have hs61 := cz1 BK376
        have hfs61 := blk_frozen BK376.out 1
        have hs62 := cz2 BK376
        have hfs62 := blk_frozen BK376.out 2
        have hs63 := cz3 BK376
        have hfs63 := blk_frozen BK376.out 3
        have hs64 := cz4 BK376
        have hfs64 := blk_frozen BK376.out 4
        have hs65 := cz5 BK376
        have hfs65 := blk_frozen BK376.out 5
        have hs66 := cz6 BK376
        have hfs66 := blk_frozen BK376.out 6
        refine skip_ (w1 := ?_) (by rfl) rfl ?_ ?_
        rotate_left
        ·go_simp
         rfl
        refine hK.out _ _ ⟨((cell_far (p := ⟨gb376, _, none⟩) gq0 _).trans (((cell_far (p := ⟨gb376, _, none⟩) gq0 _).trans (((cell_far (p := ⟨gb376, _, none⟩) gq0 _).trans (((cell_far (p := ⟨gb376, _, none⟩) gq0 _).trans (((cell_far (p := ⟨gb376, _, none⟩) gq0 _).trans (((cell_far (p := ⟨gb376, _, none⟩) gq0 _).trans (((cell_far (p := ⟨gb376, _, none⟩) gq0 _).trans (hHeld.1)))))))))))))), ((cell_far (p := ⟨gb376, _, none⟩) gq0 _).trans (((cell_far (p := ⟨gb376, _, none⟩) gq0 _).trans (((cell_far (p := ⟨gb376, _, none⟩) gq0 _).trans (((cell_far (p := ⟨gb376, _, none⟩) gq0 _).trans (((cell_far (p := ⟨gb376, _, none⟩) gq0 _).trans (((cell_far (p := ⟨gb376, _, none⟩) gq0 _).trans (((cell_far (p := ⟨gb376, _, none⟩) gq0 _).trans (hHeld.2.1)))))))))))))), ((cell_far (p := ⟨gb376, _, none⟩) gq0 _).trans (((cell_far (p := ⟨gb376, _, none⟩) gq0 _).trans (((cell_far (p := ⟨gb376, _, none⟩) gq0 _).trans (((cell_far (p := ⟨gb376, _, none⟩) gq0 _).trans (((cell_far (p := ⟨gb376, _, none⟩) gq0 _).trans (((cell_far (p := ⟨gb376, _, none⟩) gq0 _).trans (((cell_far (p := ⟨gb376, _, none⟩) gq0 _).trans (hHeld.2.2.1)))))))))))))), ((cell_far (p := ⟨gb376, _, none⟩) gq0 _).trans (((cell_far (p := ⟨gb376, _, none⟩) gq0 _).trans (((cell_far (p := ⟨gb376, _, none⟩) gq0 _).trans (((cell_far (p := ⟨gb376, _, none⟩) gq0 _).trans (((cell_far (p := ⟨gb376, _, none⟩) gq0 _).trans (((cell_far (p := ⟨gb376, _, none⟩) gq0 _).trans (((cell_far (p := ⟨gb376, _, none⟩) gq0 _).trans (hHeld.2.2.2))))))))))))))⟩ (fun hHeld => ?_)
        clear hK K
        refine pureT 18 (some 5) ?_
        refine done_ (done_of HT_.out (by kernel_rfl)) ?_
        try go_wp2
        refine rctA gb376 24 #[.string (rdOf ByteArray.empty t384 0), .string (rdOf ByteArray.empty t384 1), .int .i64 0, .string (⟨#[]⟩ : ByteArray), .bool false, .slice none 0 0, .string (⟨#[]⟩ : ByteArray)] Tryz.underlying24 ?_
        exact ⟨_, gq2, gq6, gBe⟩
       ·replace c56 := Bool.eq_false_iff.mpr c56
        subst c56
        have H1 : (some (rdOf ByteArray.empty t384 0, rdOf ByteArray.empty t384 1, 0, (⟨#[]⟩ : ByteArray), false, ([] : List (S41)), (⟨#[]⟩ : ByteArray), false)) = some (r1, r2, r3, r4, r5, r6, r7, r8) := by rw [if_neg (show ¬ (false = true) by decide)] at H; exact H
        clear H
        have H := H1
        clear H1
        simp only [Option.some.injEq, Prod.mk.injEq] at H
        obtain ⟨rfl, rfl, rfl, rfl, rfl, rfl, rfl, rfl⟩ := H
        try go_wp2
        replace HO_10 := Aside0.mk (Kd.R_drew HO_10.out)
        replace BK376 := Aside0.mk (blk_drew BK376.out)
        replace HB := Aside0.mk (below_drew1 HB.out)
        obtain ⟨Ao68, co68, eo68⟩ := Kd.R_slice HO_10.out
        (first | subst eo68 | (injection eo68 with f1_ f2_ f3_; have f4_ := f1_.symm; have f5_ := f3_.symm; clear f1_ f2_ f3_; subst f4_; subst f5_))
        have p388 : 0 ≤ (0 : Int) := (by omega)
        have q388 : 0 < (t384.length : Int) := of_decide_eq_true gq3
        obtain ⟨ad388, e388, hx388_0⟩ := Kd.at_string (Kd.R_reads' HO_10.out).2.2 0 p388 q388
        cases e388
        have qi388 : (0 < t384.length) = True := eq_true (by omega)
        (try rw [show ((0 : Int)).toNat = 0 from rfl] at hx388_0)
        (try rw [Addr.add_zero'] at hx388_0)
        replace p388 := eq_true p388
        replace q388 := eq_true q388
        have p389 : 0 ≤ (1 : Int) := (by omega)
        have q389 : 1 < (t384.length : Int) := of_decide_eq_true gq3
        obtain ⟨ad389, e389, hx389_0⟩ := Kd.at_string (Kd.R_reads' HO_10.out).2.2 1 p389 q389
        obtain rfl : ad388 = ad389 := (by injection e389)
        (try simp only [show (1 : Int).toNat = 1 from rfl, Nat.reduceMul, Nat.reduceEqDiff, Go.Addr.add, ↓reduceIte] at hx389_0)
        have qi389 : (1 < t384.length) = True := eq_true (by omega)
        (try rw [show ((1 : Int)).toNat = 1 from rfl] at hx389_0)
        replace p389 := eq_true p389
        replace q389 := eq_true q389
        have p390 : 0 ≤ (0 : Int) := (by omega)
        have q390 : 0 < (t384.length : Int) := of_decide_eq_true gq3
        obtain ⟨ad390, e390, hx390_0⟩ := Kd.at_string (Kd.R_reads' HO_10.out).2.2 0 p390 q390
        obtain rfl : ad388 = ad390 := (by injection e390)
        have qi390 : (0 < t384.length) = True := eq_true (by omega)
        (try rw [show ((0 : Int)).toNat = 0 from rfl] at hx390_0)
        (try rw [Addr.add_zero'] at hx390_0)
        replace p390 := eq_true p390
        replace q390 := eq_true q390
        refine start_ (n := 19) (S := fun w' => w'.cell? ad388 = some (.string (rdOf ByteArray.empty t384 0)) ∧ w'.cell? ⟨ad388.block, ad388.off + 1, none⟩ = some (.string (rdOf ByteArray.empty t384 1)) ∧ w'.cell? ad388 = some (.string (rdOf ByteArray.empty t384 0))) (ds := []) #[false, false, false, false, false, false, false, false, false, false, false, false, false, false, false, false, false, false, false] (by kernel_rfl) rfl rfl ⟨hx388_0, hx389_0, hx390_0⟩ (fun hHeld => ?_); refine with_tabW impl_readFirst.tab10 impl_readFirst.bits10 (fun HT_ HW_ => ?_)
        generalize wc.drew = w67 at HO_10 BK376 HB hx388_0 hx389_0 hx390_0 hHeld ⊢
        refine pureT 0 (some 65) ?_
        refine pureT 1 (some 66) ?_
        refine pureT 3 (some 68) ?_
        refine pureT 4 (some 69) ?_
        refine pureT 7 (some 72) ?_
        refine pureT 8 (some 73) ?_
        refine takeT_ 2 (some 67) (hy := Or.inl ⟨by rfl, by rintro w' ⟨s0, s1, s2⟩; go_simp; with_reducible rfl⟩) ?_
        refine takeT_ 5 (some 70) (hy := Or.inl ⟨by rfl, by rintro w' ⟨s0, s1, s2⟩; go_simp; with_reducible rfl⟩) ?_
        refine pureT 6 (some 71) ?_
        refine takeT_ 9 (some 74) (hy := Or.inl ⟨by rfl, by rintro w' ⟨s0, s1, s2⟩; go_simp; with_reducible rfl⟩) ?_
        refine one_ (i := 10) (N := some 75) #[true, true, true, true, true, true, true, true, true, true, true, false, false, false, false, false, false, false, false] rfl rfl (one_of HT_.out (by kernel_rfl)) (by decide) (fun K hK => ?_)
        refine goes_ Tryz.func42 (by kernel_rfl) rfl #[.string (rdOf ByteArray.empty t384 0)] (by rfl) rfl rfl gq1 ?_
        with_reducible refine (impl_isMethod.calls kj43 (rdOf ByteArray.empty t384 0) false _ A55.out).mono ?_
        rintro e w' ⟨rfl, ⟨nd, rfl⟩⟩
        refine ⟨_, rfl, ?_⟩
        refine hK.out _ _ ⟨hHeld.1, hHeld.2.1, hHeld.2.2⟩ (fun hHeld => ?_)
        clear hK K
        refine normA (some 75) ?_
        refine pureT 11 (some 76) ?_
        refine pureU 12 (some 77) ?_
        refine pureU 13 (some 78) ?_
        refine pureU 14 (some 79) ?_
        refine pureU 15 (some 80) ?_
        refine pureT 16 (some 81) ?_
        refine one_ (i := 17) (N := none) #[true, true, true, true, true, true, true, true, true, true, true, true, true, true, true, true, true, true, false] rfl rfl (one_of HT_.out (by kernel_rfl)) (by decide) (fun K hK => ?_)
        have hs69 := cz0 BK376
        have hfs69 := blk_frozen BK376.out 0
        have hs70 := cz1 BK376
        have hfs70 := blk_frozen BK376.out 1
        have hs71 := cz2 BK376
        have hfs71 := blk_frozen BK376.out 2
        have hs72 := cz3 BK376
        have hfs72 := blk_frozen BK376.out 3
        have hs73 := cz4 BK376
        have hfs73 := blk_frozen BK376.out 4
        have hs74 := cz5 BK376
        have hfs74 := blk_frozen BK376.out 5
        have hs75 := cz6 BK376
        have hfs75 := blk_frozen BK376.out 6
        refine skip_ (w1 := ?_) (by rfl) rfl ?_ ?_
        rotate_left
        ·go_simp
         rfl
        refine hK.out _ _ ⟨((cell_far (p := ⟨gb376, _, none⟩) gq0 _).trans (((cell_far (p := ⟨gb376, _, none⟩) gq0 _).trans (((cell_far (p := ⟨gb376, _, none⟩) gq0 _).trans (((cell_far (p := ⟨gb376, _, none⟩) gq0 _).trans (((cell_far (p := ⟨gb376, _, none⟩) gq0 _).trans (((cell_far (p := ⟨gb376, _, none⟩) gq0 _).trans (((cell_far (p := ⟨gb376, _, none⟩) gq0 _).trans (hHeld.1)))))))))))))), ((cell_far (p := ⟨gb376, _, none⟩) gq0 _).trans (((cell_far (p := ⟨gb376, _, none⟩) gq0 _).trans (((cell_far (p := ⟨gb376, _, none⟩) gq0 _).trans (((cell_far (p := ⟨gb376, _, none⟩) gq0 _).trans (((cell_far (p := ⟨gb376, _, none⟩) gq0 _).trans (((cell_far (p := ⟨gb376, _, none⟩) gq0 _).trans (((cell_far (p := ⟨gb376, _, none⟩) gq0 _).trans (hHeld.2.1)))))))))))))), ((cell_far (p := ⟨gb376, _, none⟩) gq0 _).trans (((cell_far (p := ⟨gb376, _, none⟩) gq0 _).trans (((cell_far (p := ⟨gb376, _, none⟩) gq0 _).trans (((cell_far (p := ⟨gb376, _, none⟩) gq0 _).trans (((cell_far (p := ⟨gb376, _, none⟩) gq0 _).trans (((cell_far (p := ⟨gb376, _, none⟩) gq0 _).trans (((cell_far (p := ⟨gb376, _, none⟩) gq0 _).trans (hHeld.2.2))))))))))))))⟩ (fun hHeld => ?_)
        clear hK K
        refine pureT 18 (some 5) ?_
        refine done_ (done_of HT_.out (by kernel_rfl)) ?_
        try go_wp2
        refine rctA gb376 24 #[.string (rdOf ByteArray.empty t384 0), .string (rdOf ByteArray.empty t384 1), .int .i64 0, .string (⟨#[]⟩ : ByteArray), .bool false, .slice none 0 0, .string (⟨#[]⟩ : ByteArray)] Tryz.underlying24 ?_
        exact ⟨_, gq2, gq6, gBe⟩
      ·rw [if_neg c54] at H
       exact absurd H (by simp)
     ·rw [if_neg c53] at H
      exact absurd H (by simp)

end Go.Proofs.YtonmpnghlopnoaaGreatDoor.P
