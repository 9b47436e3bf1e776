-- Written by a program of ours (myprint.py, by way of the kit's print) out of Lean's print of the translation.
import Derived.Test.YtonmpnghlopnoaaGreatDoorPx0
import Derived.Test.YtonmpnghlopnoaaGreatDoorPximpl01c
import Derived.Test.YtonmpnghlopnoaaGreatDoorPxlibb
import Derived.Test.YtonmpnghlopnoaaGreatDoorWC
namespace Go.Proofs.YtonmpnghlopnoaaGreatDoor.P
open Go.RowKit Go.Proofs.YtonmpnghlopnoaaGreatDoorW.PrintWords Go.Proofs.YtonmpnghlopnoaaGreatDoorW.PrintLast Go.Proofs.YtonmpnghlopnoaaGreatDoorW.PrintMore
attribute [local go_sem] max2_int min2_int max_two min_two max_three min_three max_four min_four   -- for this text's walks alone
set_option linter.unusedVariables false
set_option linter.unusedSimpArgs false

def impl_isTokenByte.f (a0 : Int) : Option (Bool) := (impl_isLower.f a0).bind fun t347 => (if t347 = true then (some true) else ((impl_isUpper.f a0).bind fun t348 => (if t348 = true then (some true) else ((impl_isDigit.f a0).bind fun t349 => (if t349 = true then (some true) else (if a0 = 96 then (some true) else ((strings_IndexByte.f (⟨#[33, 35, 36, 37, 38, 39, 42, 43, 45, 46, 94, 95, 124, 126]⟩ : ByteArray) a0).bind fun t350 => (some (decide (t350 ≥ 0))))))))))
set_option maxHeartbeats 8000000 in
set_option maxRecDepth 100000 in
theorem impl_isTokenByte.calls (a0 : Int) (r : Bool) (w : World) (h : impl_isTokenByte.f a0 = some r) :
  Calls Tryz.prog 116 #[.int .u8 a0] w fun e w' => e = .returned (.bool r) ∧ Drawn0 w w' := by
 have H : ((impl_isLower.f a0).bind fun t347 => (if t347 = true then (some true) else ((impl_isUpper.f a0).bind fun t348 => (if t348 = true then (some true) else ((impl_isDigit.f a0).bind fun t349 => (if t349 = true then (some true) else (if a0 = 96 then (some true) else ((strings_IndexByte.f (⟨#[33, 35, 36, 37, 38, 39, 42, 43, 45, 46, 94, 95, 124, 126]⟩ : ByteArray) a0).bind fun t350 => (some (decide (t350 ≥ 0))))))))))) = some r := h
 clear h
 replace H := Option.bind_eq_some_iff.mp H
 obtain ⟨t347, A20, H⟩ := H
 replace H : (if t347 = true then (some true) else ((impl_isUpper.f a0).bind fun t348 => (if t348 = true then (some true) else ((impl_isDigit.f a0).bind fun t349 => (if t349 = true then (some true) else (if a0 = 96 then (some true) else ((strings_IndexByte.f (⟨#[33, 35, 36, 37, 38, 39, 42, 43, 45, 46, 94, 95, 124, 126]⟩ : ByteArray) a0).bind fun t350 => (some (decide (t350 ≥ 0)))))))))) = some r := H
 have A2 := Aside0.mk A20
 clear A20
 by_cases c3 : t347 = true
 ·subst c3
  have H1 : (some true) = some r := by rw [if_pos rfl] at H; exact H
  clear H
  have H := H1
  clear H1
  obtain rfl := Option.some.inj H
  go_enter Tryz.func116, Tryz.ntmps116
  go_wp2_with (first | ((with_reducible refine gate_callee (f := 144) rfl ?_); refine goesL_ (some 4) rfl rfl Tryz.func144 (by kernel_rfl) rfl #[.int .u8 a0] rfl gq1 ?_; (with_reducible refine (impl_isLower.calls a0 true _ A2.out).mono ?_); rintro e w' ⟨rfl, ⟨nd, rfl⟩⟩; refine ⟨_, rfl, ?_⟩))
  go_ret
  exact ⟨gq4, gq5⟩
 ·replace c3 := Bool.eq_false_iff.mpr c3
  subst c3
  have H1 : ((impl_isUpper.f a0).bind fun t348 => (if t348 = true then (some true) else ((impl_isDigit.f a0).bind fun t349 => (if t349 = true then (some true) else (if a0 = 96 then (some true) else ((strings_IndexByte.f (⟨#[33, 35, 36, 37, 38, 39, 42, 43, 45, 46, 94, 95, 124, 126]⟩ : ByteArray) a0).bind fun t350 => (some (decide (t350 ≥ 0))))))))) = some r := by rw [if_neg (show ¬ (false = true) by decide)] at H; exact H
  clear H
  have H := H1
  clear H1
  replace H := Option.bind_eq_some_iff.mp H
  obtain ⟨t348, A40, H⟩ := H
  replace H : (if t348 = true then (some true) else ((impl_isDigit.f a0).bind fun t349 => (if t349 = true then (some true) else (if a0 = 96 then (some true) else ((strings_IndexByte.f (⟨#[33, 35, 36, 37, 38, 39, 42, 43, 45, 46, 94, 95, 124, 126]⟩ : ByteArray) a0).bind fun t350 => (some (decide (t350 ≥ 0)))))))) = some r := H
  have A4 := Aside0.mk A40
  clear A40
  by_cases c5 : t348 = true
  ·subst c5
   have H1 : (some true) = some r := by rw [if_pos rfl] at H; exact H
   clear H
   have H := H1
   clear H1
   obtain rfl := Option.some.inj H
   go_enter Tryz.func116, Tryz.ntmps116
   go_wp2_with (first | ((with_reducible refine gate_callee (f := 144) rfl ?_); refine goesL_ (some 4) rfl rfl Tryz.func144 (by kernel_rfl) rfl #[.int .u8 a0] rfl gq1 ?_; (with_reducible refine (impl_isLower.calls a0 false _ A2.out).mono ?_); rintro e w' ⟨rfl, ⟨nd, rfl⟩⟩; refine ⟨_, rfl, ?_⟩) | (go_at_call 100; (with_reducible refine (impl_isUpper.calls a0 true _ A4.out).mono ?_); rintro e w' ⟨rfl, ⟨nd, rfl⟩⟩))
   go_ret
   exact ⟨gq4, gq5⟩
  ·replace c5 := Bool.eq_false_iff.mpr c5
   subst c5
   have H1 : ((impl_isDigit.f a0).bind fun t349 => (if t349 = true then (some true) else (if a0 = 96 then (some true) else ((strings_IndexByte.f (⟨#[33, 35, 36, 37, 38, 39, 42, 43, 45, 46, 94, 95, 124, 126]⟩ : ByteArray) a0).bind fun t350 => (some (decide (t350 ≥ 0))))))) = some r := by rw [if_neg (show ¬ (false = true) by decide)] at H; exact H
   clear H
   have H := H1
   clear H1
   replace H := Option.bind_eq_some_iff.mp H
   obtain ⟨t349, A60, H⟩ := H
   replace H : (if t349 = true then (some true) else (if a0 = 96 then (some true) else ((strings_IndexByte.f (⟨#[33, 35, 36, 37, 38, 39, 42, 43, 45, 46, 94, 95, 124, 126]⟩ : ByteArray) a0).bind fun t350 => (some (decide (t350 ≥ 0)))))) = some r := H
   have A6 := Aside0.mk A60
   clear A60
   by_cases c7 : t349 = true
   ·subst c7
    have H1 : (some true) = some r := by rw [if_pos rfl] at H; exact H
    clear H
    have H := H1
    clear H1
    obtain rfl := Option.some.inj H
    go_enter Tryz.func116, Tryz.ntmps116
    go_wp2_with (first | ((with_reducible refine gate_callee (f := 144) rfl ?_); refine goesL_ (some 4) rfl rfl Tryz.func144 (by kernel_rfl) rfl #[.int .u8 a0] rfl gq1 ?_; (with_reducible refine (impl_isLower.calls a0 false _ A2.out).mono ?_); rintro e w' ⟨rfl, ⟨nd, rfl⟩⟩; refine ⟨_, rfl, ?_⟩) | (go_at_call 100; (with_reducible refine (impl_isUpper.calls a0 false _ A4.out).mono ?_); rintro e w' ⟨rfl, ⟨nd, rfl⟩⟩) | (go_at_call 37; (with_reducible refine (impl_isDigit.calls a0 true _ A6.out).mono ?_); rintro e w' ⟨rfl, ⟨nd, rfl⟩⟩))
    go_ret
    exact ⟨gq4, gq5⟩
   ·replace c7 := Bool.eq_false_iff.mpr c7
    subst c7
    have H1 : (if a0 = 96 then (some true) else ((strings_IndexByte.f (⟨#[33, 35, 36, 37, 38, 39, 42, 43, 45, 46, 94, 95, 124, 126]⟩ : ByteArray) a0).bind fun t350 => (some (decide (t350 ≥ 0))))) = some r := by rw [if_neg (show ¬ (false = true) by decide)] at H; exact H
    clear H
    have H := H1
    clear H1
    by_cases c8 : a0 = 96
    ·rw [if_pos c8] at H
     have c8b0 : (a0 == 96) = true := beq_iff_eq.mpr c8
     have c8b1 : (a0 != 96) = false := bne_eq_false_iff_eq.mpr c8
     clear c8
     obtain rfl := Option.some.inj H
     go_enter Tryz.func116, Tryz.ntmps116
     go_wp2_with (first | ((with_reducible refine gate_callee (f := 144) rfl ?_); refine goesL_ (some 4) rfl rfl Tryz.func144 (by kernel_rfl) rfl #[.int .u8 a0] rfl gq1 ?_; (with_reducible refine (impl_isLower.calls a0 false _ A2.out).mono ?_); rintro e w' ⟨rfl, ⟨nd, rfl⟩⟩; refine ⟨_, rfl, ?_⟩) | (go_at_call 100; (with_reducible refine (impl_isUpper.calls a0 false _ A4.out).mono ?_); rintro e w' ⟨rfl, ⟨nd, rfl⟩⟩) | (go_at_call 37; (with_reducible refine (impl_isDigit.calls a0 false _ A6.out).mono ?_); rintro e w' ⟨rfl, ⟨nd, rfl⟩⟩))
     go_ret
     exact ⟨gq4, gq5⟩
    ·rw [if_neg c8] at H
     have c8b0 : (a0 == 96) = false := beq_eq_false_iff_ne.mpr c8
     have c8b1 : (a0 != 96) = true := bne_iff_ne.mpr c8
     replace H := Option.bind_eq_some_iff.mp H
     obtain ⟨t350, A90, H⟩ := H
     replace H : (some (decide (t350 ≥ 0))) = some r := H
     have A9 := Aside0.mk A90
     clear A90
     obtain rfl := Option.some.inj H
     go_enter Tryz.func116, Tryz.ntmps116
     go_wp2_with (first | ((with_reducible refine gate_callee (f := 144) rfl ?_); refine goesL_ (some 4) rfl rfl Tryz.func144 (by kernel_rfl) rfl #[.int .u8 a0] rfl gq1 ?_; (with_reducible refine (impl_isLower.calls a0 false _ A2.out).mono ?_); rintro e w' ⟨rfl, ⟨nd, rfl⟩⟩; refine ⟨_, rfl, ?_⟩) | (go_at_call 100; (with_reducible refine (impl_isUpper.calls a0 false _ A4.out).mono ?_); rintro e w' ⟨rfl, ⟨nd, rfl⟩⟩) | (go_at_call 37; (with_reducible refine (impl_isDigit.calls a0 false _ A6.out).mono ?_); rintro e w' ⟨rfl, ⟨nd, rfl⟩⟩) | (go_at_call 103; (with_reducible refine (strings_IndexByte.calls (⟨#[33, 35, 36, 37, 38, 39, 42, 43, 45, 46, 94, 95, 124, 126]⟩ : ByteArray) a0 t350 _ A9.out).mono ?_); rintro e w' ⟨rfl, ⟨nd, rfl⟩⟩))
     go_ret
     exact ⟨gq4, gq5⟩

def impl_all__impl_isTokenByte.l0 : Nat → ByteArray → Int → Option (Bool)
 | 0, _, _ => none
 | k + 1, x0, x5 => if x5 < (x0.size : Int) then (if 0 ≤ x5 then ((impl_isTokenByte.f (bt x0 x5)).bind fun t351 => (if t351 = true then (impl_all__impl_isTokenByte.l0 k x0 (wrap64 (x5 + 1))) else (some false))) else (none)) else (some true)
def impl_all__impl_isTokenByte.f (k : Nat) (a0 : ByteArray)  : Option (Bool) := impl_all__impl_isTokenByte.l0 k a0 0
theorem impl_all__impl_isTokenByte.mono_l : ∀ k, (∀ y0 y1, LeO (impl_all__impl_isTokenByte.l0 k y0 y1) (impl_all__impl_isTokenByte.l0 (k + 1) y0 y1))
 | 0 => fun _ _ r h => by simp [impl_all__impl_isTokenByte.l0] at h
 | k + 1 => by
  have ih0 := impl_all__impl_isTokenByte.mono_l k
  ·intro y0 y1
   unfold impl_all__impl_isTokenByte.l0
   repeat' first
   | (with_reducible exact ih0 _ _)
   | (with_reducible exact LeO.refl _)
   | (with_reducible exact LeO.none _)
   | (with_reducible refine LeO.ite ?_ ?_)
   | (with_reducible refine LeO.bind ?_ (fun _ => ?_))
   | exact ih0 _ _
   | exact LeO.none _
   | refine LeO.ite ?_ ?_
   | refine LeO.bind ?_ (fun _ => ?_)
theorem impl_all__impl_isTokenByte.mono : ∀ a0 k, LeO (impl_all__impl_isTokenByte.f k a0) (impl_all__impl_isTokenByte.f (k + 1) a0) := by
 intro a0 k
 have ih0 := impl_all__impl_isTokenByte.mono_l k
 unfold impl_all__impl_isTokenByte.f
 repeat' first
   | (with_reducible exact ih0 _ _)
   | (with_reducible exact LeO.refl _)
   | (with_reducible exact LeO.none _)
   | (with_reducible refine LeO.ite ?_ ?_)
   | (with_reducible refine LeO.bind ?_ (fun _ => ?_))
   | exact ih0 _ _
   | exact LeO.none _
   | refine LeO.ite ?_ ?_
   | refine LeO.bind ?_ (fun _ => ?_)
set_option maxHeartbeats 8000000 in
set_option maxRecDepth 100000 in
theorem impl_all__impl_isTokenByte.calls (k : Nat) (a0 : ByteArray)  (r : Bool) (w : World) (h : impl_all__impl_isTokenByte.f k a0 = some r) :
  Calls Tryz.prog 36 #[.string a0, .func (.func 116) #[] #[]] w fun e w' => e = .returned (.bool r) ∧ Drawn0 w w' := by
 have H : (impl_all__impl_isTokenByte.l0 k a0 0) = some r := h
 clear h
 have H' := Aside0.mk H
 clear H
 go_enter Tryz.func36, Tryz.ntmps36
 go_wp2
 go_loopg [5] k (fun kq v5 w' => ∃ (x5_1 : Int), v5 = .int .i64 x5_1 ∧ Aside0 (impl_all__impl_isTokenByte.l0 kq a0 x5_1 = some r) ∧ Aside0 (kq ≤ k) ∧ Drawn0 w w')
 case atStart => exact ⟨(0), gq4, H', ⟨Nat.le_refl _⟩, gq5⟩
 case round =>
  clear H'
  try clear p2
  obtain ⟨x5_1, rfl, HA, HK1, ⟨m1, rfl⟩⟩ := hrel
  cases gk with
  | zero => exact absurd HA.out (by simp [impl_all__impl_isTokenByte.l0])
  | succ k1 =>
   have H := HA.out
   clear HA
   simp only [impl_all__impl_isTokenByte.l0] at H
   by_cases c3 : x5_1 < (a0.size : Int)
   ·rw [if_pos c3] at H
    have c3b0 := decide_eq_true c3
    clear c3
    by_cases c4 : 0 ≤ x5_1
    ·rw [if_pos c4] at H
     have c4b0 := decide_eq_true c4
     clear c4
     replace H := Option.bind_eq_some_iff.mp H
     obtain ⟨t351, A60, H⟩ := H
     replace H : (if t351 = true then (impl_all__impl_isTokenByte.l0 k1 a0 (wrap64 (x5_1 + 1))) else (some false)) = some r := H
     have A6 := Aside0.mk A60
     clear A60
     by_cases c7 : t351 = true
     ·subst c7
      have H1 : (impl_all__impl_isTokenByte.l0 k1 a0 (wrap64 (x5_1 + 1))) = some r := by rw [if_pos rfl] at H; exact H
      clear H
      have H := H1
      clear H1
      have H' := Aside0.mk H
      clear H
      have p5 : 0 ≤ (x5_1 : Int) := of_decide_eq_true gq3
      have q5 : x5_1 < (a0.size : Int) := of_decide_eq_true gq3
      have hx5 := bt_at a0 x5_1
      replace p5 := eq_true p5
      replace q5 := eq_true q5
      go_wp2_with (first | (go_at_call 116; (with_reducible refine (impl_isTokenByte.calls (bt a0 x5_1) true _ A6.out).mono ?_); rintro e w' ⟨rfl, ⟨nd, rfl⟩⟩))
      go_roundg k1
      case measure => have := HK1.out; omega
      case rel => exact ⟨(wrap64 (x5_1 + 1)), gq4, H', ⟨by have := HK1.out; omega⟩, gq5⟩
     ·replace c7 := Bool.eq_false_iff.mpr c7
      subst c7
      have H1 : (some false) = some r := by rw [if_neg (show ¬ (false = true) by decide)] at H; exact H
      clear H
      have H := H1
      clear H1
      obtain rfl := Option.some.inj H
      have p5 : 0 ≤ (x5_1 : Int) := of_decide_eq_true gq3
      have q5 : x5_1 < (a0.size : Int) := of_decide_eq_true gq3
      have hx5 := bt_at a0 x5_1
      replace p5 := eq_true p5
      replace q5 := eq_true q5
      go_wp2_with (first | (go_at_call 116; (with_reducible refine (impl_isTokenByte.calls (bt a0 x5_1) false _ A6.out).mono ?_); rintro e w' ⟨rfl, ⟨nd, rfl⟩⟩))
      go_ret
      exact ⟨gq4, gq5⟩
    ·rw [if_neg c4] at H
     exact absurd H (by simp)
   ·rw [if_neg c3] at H
    have c3b0 := decide_eq_false c3
    clear c3
    obtain rfl := Option.some.inj H
    go_wp2
    go_ret
    exact ⟨gq4, gq5⟩

def impl_Token.f (k : Nat) (a0 : ByteArray) : Option (Bool) := (impl_within.f (a0.size : Int) 1 4000).bind fun t352 => (if t352 = true then ((impl_all__impl_isTokenByte.f k a0).bind fun t353 => (some t353)) else (some false))
theorem impl_Token.mono : ∀ a0 k, LeO (impl_Token.f k a0) (impl_Token.f (k + 1) a0) := by
 intro a0 k
 unfold impl_Token.f
 repeat' first
   | (with_reducible exact impl_all__impl_isTokenByte.mono _ _)
   | (with_reducible exact LeO.refl _)
   | (with_reducible exact LeO.none _)
   | (with_reducible refine LeO.ite ?_ ?_)
   | (with_reducible refine LeO.bind ?_ (fun _ => ?_))
   | exact impl_all__impl_isTokenByte.mono _ _
   | exact LeO.none _
   | refine LeO.ite ?_ ?_
   | refine LeO.bind ?_ (fun _ => ?_)
set_option maxHeartbeats 8000000 in
set_option maxRecDepth 100000 in
theorem impl_Token.calls (k : Nat) (a0 : ByteArray) (r : Bool) (w : World) (h : impl_Token.f k a0 = some r) :
  Calls Tryz.prog 79 #[.string a0] w fun e w' => e = .returned (.bool r) ∧ Drawn0 w w' := by
 have H : ((impl_within.f (a0.size : Int) 1 4000).bind fun t352 => (if t352 = true then ((impl_all__impl_isTokenByte.f k a0).bind fun t353 => (some t353)) else (some false))) = some r := h
 clear h
 replace H := Option.bind_eq_some_iff.mp H
 obtain ⟨t352, A20, H⟩ := H
 replace H : (if t352 = true then ((impl_all__impl_isTokenByte.f k a0).bind fun t353 => (some t353)) else (some false)) = some r := H
 have A2 := Aside0.mk A20
 clear A20
 by_cases c3 : t352 = true
 ·subst c3
  have H1 : ((impl_all__impl_isTokenByte.f k a0).bind fun t353 => (some t353)) = some r := by rw [if_pos rfl] at H; exact H
  clear H
  have H := H1
  clear H1
  replace H := Option.bind_eq_some_iff.mp H
  obtain ⟨t353, A40, H⟩ := H
  replace H : (some t353) = some r := H
  have A4 := Aside0.mk A40
  clear A40
  obtain rfl := Option.some.inj H
  go_enter Tryz.func79, Tryz.ntmps79
  go_wp2_with (first | ((with_reducible refine gate_callee (f := 69) rfl ?_); refine goesL_ (some 5) rfl rfl Tryz.func69 (by kernel_rfl) rfl #[.int .i64 (a0.size : Int), .int .i64 1, .int .i64 4000] rfl gq1 ?_; (with_reducible refine (impl_within.calls (a0.size : Int) 1 4000 true _ A2.out).mono ?_); rintro e w' ⟨rfl, ⟨nd, rfl⟩⟩; refine ⟨_, rfl, ?_⟩) | (go_at_call 36; (with_reducible refine (impl_all__impl_isTokenByte.calls k a0  t353 _ A4.out).mono ?_); rintro e w' ⟨rfl, ⟨nd, rfl⟩⟩))
  go_ret
  exact ⟨gq4, gq5⟩
 ·replace c3 := Bool.eq_false_iff.mpr c3
  subst c3
  have H1 : (some false) = some r := by rw [if_neg (show ¬ (false = true) by decide)] at H; exact H
  clear H
  have H := H1
  clear H1
  obtain rfl := Option.some.inj H
  go_enter Tryz.func79, Tryz.ntmps79
  go_wp2_with (first | ((with_reducible refine gate_callee (f := 69) rfl ?_); refine goesL_ (some 5) rfl rfl Tryz.func69 (by kernel_rfl) rfl #[.int .i64 (a0.size : Int), .int .i64 1, .int .i64 4000] rfl gq1 ?_; (with_reducible refine (impl_within.calls (a0.size : Int) 1 4000 false _ A2.out).mono ?_); rintro e w' ⟨rfl, ⟨nd, rfl⟩⟩; refine ⟨_, rfl, ?_⟩))
  go_ret
  exact ⟨gq4, gq5⟩

def impl_isSpace.f (a0 : Int) : Option (Bool) := if a0 = 32 then (some true) else (some (a0 == 9))
set_option maxHeartbeats 8000000 in
set_option maxRecDepth 100000 in
theorem impl_isSpace.calls (a0 : Int) (r : Bool) (w : World) (h : impl_isSpace.f a0 = some r) :
  Calls Tryz.prog 82 #[.int .u8 a0] w fun e w' => e = .returned (.bool r) ∧ Drawn0 w w' := by
 have H : (if a0 = 32 then (some true) else (some (a0 == 9))) = some r := h
 clear h
 by_cases c2 : a0 = 32
 ·rw [if_pos c2] at H
  have c2b0 : (a0 == 32) = true := beq_iff_eq.mpr c2
  have c2b1 : (a0 != 32) = false := bne_eq_false_iff_eq.mpr c2
  clear c2
  obtain rfl := Option.some.inj H
  go_enter Tryz.func82, Tryz.ntmps82
  go_wp2
  go_ret
  exact ⟨gq4, gq5⟩
 ·rw [if_neg c2] at H
  have c2b0 : (a0 == 32) = false := beq_eq_false_iff_ne.mpr c2
  have c2b1 : (a0 != 32) = true := bne_iff_ne.mpr c2
  obtain rfl := Option.some.inj H
  go_enter Tryz.func82, Tryz.ntmps82
  go_wp2
  go_ret
  exact ⟨gq4, gq5⟩

end Go.Proofs.YtonmpnghlopnoaaGreatDoor.P
