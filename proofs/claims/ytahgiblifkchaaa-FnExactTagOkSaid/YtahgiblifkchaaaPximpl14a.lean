-- Written by a program of ours (myprint.py, by way of the kit's print) out of Lean's print of the translation.
import Derived.Test.YtahgiblifkchaaaPx0
import Derived.Test.YtahgiblifkchaaaPxliba
namespace Go.Proofs.Ytahgiblifkchaaa.P
open Go.RowKit Go.Proofs.YtahgiblifkchaaaW.PrintWords Go.Proofs.YtahgiblifkchaaaW.PrintLast Go.Proofs.YtahgiblifkchaaaW.PrintMore
attribute [local go_sem] max2_int min2_int max_two min_two max_three min_three max_four min_four   -- for this text's walks alone
set_option linter.unusedVariables false
set_option linter.unusedSimpArgs false

/-! ### impl_TagOk_1: function 76 -/
def impl_TagOk_1.f (a0 : Int) : Option (Bool) := if a0 > 32 then (if a0 = 34 then (some false) else (some (a0 != 127))) else (some false)
set_option maxHeartbeats 8000000 in
set_option maxRecDepth 100000 in
theorem impl_TagOk_1.calls (a0 : Int) (r : Bool) (w : World) (h : impl_TagOk_1.f a0 = some r) :
    Calls Try.prog 76 #[.int .u8 a0] w fun e w' => e = .returned (.bool r) ∧ Drawn0 w w' := by
  have H : (if a0 > 32 then (if a0 = 34 then (some false) else (some (a0 != 127))) else (some false)) = some r := h
  clear h
  by_cases c2 : a0 > 32
  · rw [if_pos c2] at H
    have c2b0 : decide (32 < a0) = true := decide_eq_true c2
    clear c2
    by_cases c3 : a0 = 34
    · rw [if_pos c3] at H
      have c3b0 : (a0 == 34) = true := beq_iff_eq.mpr c3
      have c3b1 : (a0 != 34) = false := bne_eq_false_iff_eq.mpr c3
      clear c3
      obtain rfl := Option.some.inj H
      go_enter Try.func76, Try.ntmps76
      go_wp2
      go_ret
      exact ⟨by first | rfl | (simp; done) | (simp [*]; done), by repeat (first | exact Drawn0.refl _ | apply Drawn0.step)⟩
    · rw [if_neg c3] at H
      have c3b0 : (a0 == 34) = false := beq_eq_false_iff_ne.mpr c3
      have c3b1 : (a0 != 34) = true := bne_iff_ne.mpr c3
      obtain rfl := Option.some.inj H
      go_enter Try.func76, Try.ntmps76
      go_wp2
      go_ret
      exact ⟨by first | rfl | (simp; done) | (simp [*]; done), by repeat (first | exact Drawn0.refl _ | apply Drawn0.step)⟩
  · rw [if_neg c2] at H
    have c2b0 : decide (32 < a0) = false := decide_eq_false c2
    clear c2
    obtain rfl := Option.some.inj H
    go_enter Try.func76, Try.ntmps76
    go_wp2
    go_ret
    exact ⟨by first | rfl | (simp; done) | (simp [*]; done), by repeat (first | exact Drawn0.refl _ | apply Drawn0.step)⟩

/-! ### impl_all__impl_TagOk_1: function 200 -/
def impl_all__impl_TagOk_1.l0 : Nat → ByteArray → Int → Option (Bool)
  | 0, _, _ => none
  | k + 1, x0, x5 => if x5 < (x0.size : Int) then (if 0 ≤ x5 then ((impl_TagOk_1.f (bt x0 x5)).bind fun t188 => (if t188 = true then (impl_all__impl_TagOk_1.l0 k x0 (wrap64 (x5 + 1))) else (some false))) else (none)) else (some true)
def impl_all__impl_TagOk_1.f (k : Nat) (a0 : ByteArray)  : Option (Bool) := impl_all__impl_TagOk_1.l0 k a0 0
theorem impl_all__impl_TagOk_1.mono_l : ∀ k, (∀ y0 y1, LeO (impl_all__impl_TagOk_1.l0 k y0 y1) (impl_all__impl_TagOk_1.l0 (k + 1) y0 y1))
  | 0 => fun _ _ r h => by simp [impl_all__impl_TagOk_1.l0] at h
  | k + 1 => by
    have ih0 := impl_all__impl_TagOk_1.mono_l k
    · intro y0 y1
      unfold impl_all__impl_TagOk_1.l0
      repeat' first
      | (with_reducible exact ih0 _ _)
      | (with_reducible exact LeO.refl _)
      | (with_reducible exact LeO.none _)
      | (with_reducible refine LeO.ite ?_ ?_)
      | (with_reducible refine LeO.bind ?_ (fun _ => ?_))
      | exact ih0 _ _
      | exact LeO.none _
      | refine LeO.ite ?_ ?_
      | refine LeO.bind ?_ (fun _ => ?_)
theorem impl_all__impl_TagOk_1.mono : ∀ a0 k, LeO (impl_all__impl_TagOk_1.f k a0) (impl_all__impl_TagOk_1.f (k + 1) a0) := by
  intro a0 k
  have ih0 := impl_all__impl_TagOk_1.mono_l k
  unfold impl_all__impl_TagOk_1.f
  repeat' first
      | (with_reducible exact ih0 _ _)
      | (with_reducible exact LeO.refl _)
      | (with_reducible exact LeO.none _)
      | (with_reducible refine LeO.ite ?_ ?_)
      | (with_reducible refine LeO.bind ?_ (fun _ => ?_))
      | exact ih0 _ _
      | exact LeO.none _
      | refine LeO.ite ?_ ?_
      | refine LeO.bind ?_ (fun _ => ?_)
set_option maxHeartbeats 8000000 in
set_option maxRecDepth 100000 in
theorem impl_all__impl_TagOk_1.calls (k : Nat) (a0 : ByteArray)  (r : Bool) (w : World) (h : impl_all__impl_TagOk_1.f k a0 = some r) :
    Calls Try.prog 72 #[.string a0, .func (.func 76) #[] #[]] w fun e w' => e = .returned (.bool r) ∧ Drawn0 w w' := by
  have H : (impl_all__impl_TagOk_1.l0 k a0 0) = some r := h
  clear h
  have H' := Aside0.mk H
  clear H
  go_enter Try.func72, Try.ntmps72
  go_wp2
  go_loopg [5] k (fun kq v5 w' => ∃ (x5_1 : Int), v5 = .int .i64 x5_1 ∧ Aside0 (impl_all__impl_TagOk_1.l0 kq a0 x5_1 = some r) ∧ Aside0 (kq ≤ k) ∧ Drawn0 w w')
  case atStart => exact ⟨(0), (by first | rfl | (simp; done) | (simp [*]; done)), H', ⟨Nat.le_refl _⟩, by repeat (first | exact Drawn0.refl _ | apply Drawn0.step)⟩
  case round =>
    clear H'
    try clear p2
    obtain ⟨x5_1, rfl, HA, HK1, ⟨m1, rfl⟩⟩ := hrel
    cases gk with
    | zero => exact absurd HA.out (by simp [impl_all__impl_TagOk_1.l0])
    | succ k1 =>
      have H := HA.out
      clear HA
      simp only [impl_all__impl_TagOk_1.l0] at H
      by_cases c3 : x5_1 < (a0.size : Int)
      · rw [if_pos c3] at H
        have c3b0 : decide (x5_1 < (a0.size : Int)) = true := decide_eq_true c3
        clear c3
        by_cases c4 : 0 ≤ x5_1
        · rw [if_pos c4] at H
          have c4b0 : decide (0 ≤ x5_1) = true := decide_eq_true c4
          clear c4
          replace H := Option.bind_eq_some_iff.mp H
          obtain ⟨t188, A60, H⟩ := H
          replace H : (if t188 = true then (impl_all__impl_TagOk_1.l0 k1 a0 (wrap64 (x5_1 + 1))) else (some false)) = some r := H
          have A6 := Aside0.mk A60
          clear A60
          by_cases c7 : t188 = true
          · subst c7
            have H1 : (impl_all__impl_TagOk_1.l0 k1 a0 (wrap64 (x5_1 + 1))) = some r := by rw [if_pos rfl] at H; exact H
            clear H
            have H := H1
            clear H1
            have H' := Aside0.mk H
            clear H
            have p5 : 0 ≤ (x5_1 : Int) := of_decide_eq_true (by first | (with_reducible assumption) | assumption)
            have q5 : x5_1 < (a0.size : Int) := of_decide_eq_true (by first | (with_reducible assumption) | assumption)
            have hx5 := bt_at a0 x5_1
            replace p5 := eq_true p5
            replace q5 := eq_true q5
            go_wp2_with (first | (go_at_call 76; (with_reducible refine (impl_TagOk_1.calls (bt a0 x5_1) true _ A6.out).mono ?_); rintro e w' ⟨rfl, ⟨nd, rfl⟩⟩))
            go_roundg k1
            case measure => have := HK1.out; omega
            case rel => exact ⟨(wrap64 (x5_1 + 1)), (by first | rfl | (simp; done) | (simp [*]; done)), H', ⟨by have := HK1.out; omega⟩, by repeat (first | exact Drawn0.refl _ | apply Drawn0.step)⟩
          · replace c7 := Bool.eq_false_iff.mpr c7
            subst c7
            have H1 : (some false) = some r := by rw [if_neg (show ¬ (false = true) by decide)] at H; exact H
            clear H
            have H := H1
            clear H1
            obtain rfl := Option.some.inj H
            have p5 : 0 ≤ (x5_1 : Int) := of_decide_eq_true (by first | (with_reducible assumption) | assumption)
            have q5 : x5_1 < (a0.size : Int) := of_decide_eq_true (by first | (with_reducible assumption) | assumption)
            have hx5 := bt_at a0 x5_1
            replace p5 := eq_true p5
            replace q5 := eq_true q5
            go_wp2_with (first | (go_at_call 76; (with_reducible refine (impl_TagOk_1.calls (bt a0 x5_1) false _ A6.out).mono ?_); rintro e w' ⟨rfl, ⟨nd, rfl⟩⟩))
            go_ret
            exact ⟨by first | rfl | (simp; done) | (simp [*]; done), by repeat (first | exact Drawn0.refl _ | apply Drawn0.step)⟩
        · rw [if_neg c4] at H
          exact absurd H (by simp)
      · rw [if_neg c3] at H
        have c3b0 : decide (x5_1 < (a0.size : Int)) = false := decide_eq_false c3
        clear c3
        obtain rfl := Option.some.inj H
        go_wp2
        go_ret
        exact ⟨by first | rfl | (simp; done) | (simp [*]; done), by repeat (first | exact Drawn0.refl _ | apply Drawn0.step)⟩

/-! ### impl_TagOk: function 24 -/
def impl_TagOk.f (k : Nat) (a0 : ByteArray) : Option (Bool) := (strings_TrimPrefix.f a0 (⟨#[87, 47]⟩ : ByteArray)).bind fun t189 => (if (a0.size : Int) > 190 then (some false) else (if (t189.size : Int) < 2 then (some false) else (if 0 < (t189.size : Int) then (if (bt t189 0) = 34 then (if 0 ≤ (wrap64 ((t189.size : Int) - 1)) then (if (wrap64 ((t189.size : Int) - 1)) < (t189.size : Int) then (if (bt t189 (wrap64 ((t189.size : Int) - 1))) = 34 then (if 1 ≤ (wrap64 ((t189.size : Int) - 1)) then (if (wrap64 ((t189.size : Int) - 1)) ≤ (t189.size : Int) then ((impl_all__impl_TagOk_1.f k (t189.extract 1 ((wrap64 ((t189.size : Int) - 1)) : Int).toNat)).bind fun t190 => (some t190)) else (none)) else (none)) else (some false)) else (none)) else (none)) else (some false)) else (none))))
theorem impl_TagOk.mono : ∀ a0 k, LeO (impl_TagOk.f k a0) (impl_TagOk.f (k + 1) a0) := by
  intro a0 k
  unfold impl_TagOk.f
  repeat' first
      | (with_reducible exact impl_all__impl_TagOk_1.mono _ _)
      | (with_reducible exact LeO.refl _)
      | (with_reducible exact LeO.none _)
      | (with_reducible refine LeO.ite ?_ ?_)
      | (with_reducible refine LeO.bind ?_ (fun _ => ?_))
      | exact impl_all__impl_TagOk_1.mono _ _
      | exact LeO.none _
      | refine LeO.ite ?_ ?_
      | refine LeO.bind ?_ (fun _ => ?_)
set_option maxHeartbeats 8000000 in
set_option maxRecDepth 100000 in
theorem impl_TagOk.calls (k : Nat) (a0 : ByteArray) (r : Bool) (w : World) (h : impl_TagOk.f k a0 = some r) :
    Calls Try.prog 24 #[.string a0] w fun e w' => e = .returned (.bool r) ∧ Drawn0 w w' := by
  have H : ((strings_TrimPrefix.f a0 (⟨#[87, 47]⟩ : ByteArray)).bind fun t189 => (if (a0.size : Int) > 190 then (some false) else (if (t189.size : Int) < 2 then (some false) else (if 0 < (t189.size : Int) then (if (bt t189 0) = 34 then (if 0 ≤ (wrap64 ((t189.size : Int) - 1)) then (if (wrap64 ((t189.size : Int) - 1)) < (t189.size : Int) then (if (bt t189 (wrap64 ((t189.size : Int) - 1))) = 34 then (if 1 ≤ (wrap64 ((t189.size : Int) - 1)) then (if (wrap64 ((t189.size : Int) - 1)) ≤ (t189.size : Int) then ((impl_all__impl_TagOk_1.f k (t189.extract 1 ((wrap64 ((t189.size : Int) - 1)) : Int).toNat)).bind fun t190 => (some t190)) else (none)) else (none)) else (some false)) else (none)) else (none)) else (some false)) else (none))))) = some r := h
  clear h
  replace H := Option.bind_eq_some_iff.mp H
  obtain ⟨t189, A20, H⟩ := H
  replace H : (if (a0.size : Int) > 190 then (some false) else (if (t189.size : Int) < 2 then (some false) else (if 0 < (t189.size : Int) then (if (bt t189 0) = 34 then (if 0 ≤ (wrap64 ((t189.size : Int) - 1)) then (if (wrap64 ((t189.size : Int) - 1)) < (t189.size : Int) then (if (bt t189 (wrap64 ((t189.size : Int) - 1))) = 34 then (if 1 ≤ (wrap64 ((t189.size : Int) - 1)) then (if (wrap64 ((t189.size : Int) - 1)) ≤ (t189.size : Int) then ((impl_all__impl_TagOk_1.f k (t189.extract 1 ((wrap64 ((t189.size : Int) - 1)) : Int).toNat)).bind fun t190 => (some t190)) else (none)) else (none)) else (some false)) else (none)) else (none)) else (some false)) else (none)))) = some r := H
  have A2 := Aside0.mk A20
  clear A20
  by_cases c3 : (a0.size : Int) > 190
  · rw [if_pos c3] at H
    have c3b0 : decide (190 < (a0.size : Int)) = true := decide_eq_true c3
    have c3b1 : decide (190 < a0.size) = true := decide_eq_true (by omega)
    clear c3
    obtain rfl := Option.some.inj H
    go_enter Try.func24, Try.ntmps24
    go_wp2_with (first | ((with_reducible refine gate_callee (f := 75) rfl ?_); refine goesL_ (some 5) rfl rfl Try.func75 (by kernel_rfl) rfl #[.string a0, .string (⟨#[87, 47]⟩ : ByteArray)] rfl (by (try simp only [List.map_toArray, List.map_cons, List.map_nil]); first | done | rfl | (simp only [List.length_drop, List.length_take]; rfl)) ?_; (with_reducible refine (strings_TrimPrefix.calls a0 (⟨#[87, 47]⟩ : ByteArray) t189 _ A2.out).mono ?_); rintro e w' ⟨rfl, ⟨nd, rfl⟩⟩; refine ⟨_, rfl, ?_⟩))
    go_ret
    exact ⟨by first | rfl | (simp; done) | (simp [*]; done), by repeat (first | exact Drawn0.refl _ | apply Drawn0.step)⟩
  · rw [if_neg c3] at H
    have c3b0 : decide (190 < (a0.size : Int)) = false := decide_eq_false c3
    have c3b1 : decide (190 < a0.size) = false := decide_eq_false (by omega)
    clear c3
    by_cases c4 : (t189.size : Int) < 2
    · rw [if_pos c4] at H
      have c4b0 : decide ((t189.size : Int) < 2) = true := decide_eq_true c4
      have c4b1 : decide (t189.size < 2) = true := decide_eq_true (by omega)
      clear c4
      obtain rfl := Option.some.inj H
      go_enter Try.func24, Try.ntmps24
      go_wp2_with (first | ((with_reducible refine gate_callee (f := 75) rfl ?_); refine goesL_ (some 5) rfl rfl Try.func75 (by kernel_rfl) rfl #[.string a0, .string (⟨#[87, 47]⟩ : ByteArray)] rfl (by (try simp only [List.map_toArray, List.map_cons, List.map_nil]); first | done | rfl | (simp only [List.length_drop, List.length_take]; rfl)) ?_; (with_reducible refine (strings_TrimPrefix.calls a0 (⟨#[87, 47]⟩ : ByteArray) t189 _ A2.out).mono ?_); rintro e w' ⟨rfl, ⟨nd, rfl⟩⟩; refine ⟨_, rfl, ?_⟩))
      go_ret
      exact ⟨by first | rfl | (simp; done) | (simp [*]; done), by repeat (first | exact Drawn0.refl _ | apply Drawn0.step)⟩
    · rw [if_neg c4] at H
      have c4b0 : decide ((t189.size : Int) < 2) = false := decide_eq_false c4
      have c4b1 : decide (t189.size < 2) = false := decide_eq_false (by omega)
      clear c4
      by_cases c5 : 0 < (t189.size : Int)
      · rw [if_pos c5] at H
        have c5b0 : decide (0 < (t189.size : Int)) = true := decide_eq_true c5
        have c5b1 : decide (0 < t189.size) = true := decide_eq_true (by omega)
        clear c5
        by_cases c7 : (bt t189 0) = 34
        · rw [if_pos c7] at H
          have c7b0 : ((bt t189 0) == 34) = true := beq_iff_eq.mpr c7
          have c7b1 : ((bt t189 0) != 34) = false := bne_eq_false_iff_eq.mpr c7
          clear c7
          obtain ⟨ji8, hji8⟩ : ∃ j_ : Int, (wrap64 ((t189.size : Int) - 1)) = j_ := ⟨_, rfl⟩
          replace H : (if 0 ≤ (ji8) then (if (ji8) < (t189.size : Int) then (if (bt t189 (ji8)) = 34 then (if 1 ≤ (ji8) then (if (ji8) ≤ (t189.size : Int) then ((impl_all__impl_TagOk_1.f k (t189.extract 1 ((ji8) : Int).toNat)).bind fun t190 => (some t190)) else (none)) else (none)) else (some false)) else (none)) else (none)) = some r := by first | (rw [hji8] at H; exact H) | (simp only [hji8] at H ⊢; exact H)
          (try rw [hji8] at A2)
          have hji8w : (IntKind.i64.wrap ((t189.size : Int) - 1)) = ji8 := (i64_w _).trans hji8
          by_cases c9 : 0 ≤ (ji8)
          · rw [if_pos c9] at H
            have c9b0 : decide (0 ≤ (ji8)) = true := decide_eq_true c9
            clear c9
            by_cases c10 : (ji8) < (t189.size : Int)
            · rw [if_pos c10] at H
              have c10b0 : decide ((ji8) < (t189.size : Int)) = true := decide_eq_true c10
              clear c10
              by_cases c12 : (bt t189 (ji8)) = 34
              · rw [if_pos c12] at H
                have c12b0 : ((bt t189 (ji8)) == 34) = true := beq_iff_eq.mpr c12
                have c12b1 : ((bt t189 (ji8)) != 34) = false := bne_eq_false_iff_eq.mpr c12
                clear c12
                by_cases c13 : 1 ≤ (ji8)
                · rw [if_pos c13] at H
                  have c13b0 := eq_true c13
                  have c13b1 : decide (1 ≤ (ji8)) = true := decide_eq_true c13
                  clear c13
                  by_cases c14 : (ji8) ≤ (t189.size : Int)
                  · rw [if_pos c14] at H
                    have c14b0 := eq_true c14
                    have c14b1 : decide ((ji8) ≤ (t189.size : Int)) = true := decide_eq_true c14
                    clear c14
                    replace H := Option.bind_eq_some_iff.mp H
                    obtain ⟨t190, A150, H⟩ := H
                    replace H : (some t190) = some r := H
                    have A15 := Aside0.mk A150
                    clear A150
                    obtain rfl := Option.some.inj H
                    go_enter Try.func24, Try.ntmps24
                    go_wp2_with (first | ((with_reducible refine gate_callee (f := 75) rfl ?_); refine goesL_ (some 5) rfl rfl Try.func75 (by kernel_rfl) rfl #[.string a0, .string (⟨#[87, 47]⟩ : ByteArray)] rfl (by (try simp only [List.map_toArray, List.map_cons, List.map_nil]); first | done | rfl | (simp only [List.length_drop, List.length_take]; rfl)) ?_; (with_reducible refine (strings_TrimPrefix.calls a0 (⟨#[87, 47]⟩ : ByteArray) t189 _ A2.out).mono ?_); rintro e w' ⟨rfl, ⟨nd, rfl⟩⟩; refine ⟨_, rfl, ?_⟩; have p6 : 0 ≤ (0 : Int) := (by omega); have q6 : 0 < t189.size := (by have : (0 : Int) < (t189.size : Int) := of_decide_eq_true (by first | (with_reducible assumption) | assumption); omega); have hx6 : ∀ h : 0 < t189.size, ((t189[0]'h).toNat : Int) = bt t189 0 := bt_at t189 0; clear p6; have qi6 : (0 < (t189.size : Int)) = True := eq_true (of_decide_eq_true (by first | (with_reducible assumption) | assumption)); replace q6 := eq_true q6; have p11 : 0 ≤ ((ji8) : Int) := of_decide_eq_true (by first | (with_reducible assumption) | assumption); have q11 : (ji8) < (t189.size : Int) := of_decide_eq_true (by first | (with_reducible assumption) | assumption); have hx11 := bt_at t189 (ji8); replace p11 := eq_true p11; replace q11 := eq_true q11) | ((with_reducible refine gate_callee (f := 72) rfl ?_); refine goesL_ (some 32) rfl rfl Try.func72 (by kernel_rfl) rfl #[.string (t189.extract 1 ((ji8) : Int).toNat), .func (.func 76) #[] #[]] rfl (by (try simp only [List.map_toArray, List.map_cons, List.map_nil]); first | done | (simp only [hji8]; rfl) | rfl | (simp only [List.length_drop, List.length_take]; rfl)) ?_; (with_reducible refine (impl_all__impl_TagOk_1.calls k (t189.extract 1 ((ji8) : Int).toNat)  t190 _ A15.out).mono ?_); rintro e w' ⟨rfl, ⟨nd, rfl⟩⟩; refine ⟨_, rfl, ?_⟩))
                    go_ret
                    exact ⟨by first | rfl | (simp; done) | (simp only [← hji8] <;> (first | rfl | simp)) | (simp [*]; done), by repeat (first | exact Drawn0.refl _ | apply Drawn0.step)⟩
                  · rw [if_neg c14] at H
                    exact absurd H (by simp)
                · rw [if_neg c13] at H
                  exact absurd H (by simp)
              · rw [if_neg c12] at H
                have c12b0 : ((bt t189 (ji8)) == 34) = false := beq_eq_false_iff_ne.mpr c12
                have c12b1 : ((bt t189 (ji8)) != 34) = true := bne_iff_ne.mpr c12
                obtain rfl := Option.some.inj H
                go_enter Try.func24, Try.ntmps24
                go_wp2_with (first | ((with_reducible refine gate_callee (f := 75) rfl ?_); refine goesL_ (some 5) rfl rfl Try.func75 (by kernel_rfl) rfl #[.string a0, .string (⟨#[87, 47]⟩ : ByteArray)] rfl (by (try simp only [List.map_toArray, List.map_cons, List.map_nil]); first | done | rfl | (simp only [List.length_drop, List.length_take]; rfl)) ?_; (with_reducible refine (strings_TrimPrefix.calls a0 (⟨#[87, 47]⟩ : ByteArray) t189 _ A2.out).mono ?_); rintro e w' ⟨rfl, ⟨nd, rfl⟩⟩; refine ⟨_, rfl, ?_⟩; have p6 : 0 ≤ (0 : Int) := (by omega); have q6 : 0 < t189.size := (by have : (0 : Int) < (t189.size : Int) := of_decide_eq_true (by first | (with_reducible assumption) | assumption); omega); have hx6 : ∀ h : 0 < t189.size, ((t189[0]'h).toNat : Int) = bt t189 0 := bt_at t189 0; clear p6; have qi6 : (0 < (t189.size : Int)) = True := eq_true (of_decide_eq_true (by first | (with_reducible assumption) | assumption)); replace q6 := eq_true q6; have p11 : 0 ≤ ((ji8) : Int) := of_decide_eq_true (by first | (with_reducible assumption) | assumption); have q11 : (ji8) < (t189.size : Int) := of_decide_eq_true (by first | (with_reducible assumption) | assumption); have hx11 := bt_at t189 (ji8); replace p11 := eq_true p11; replace q11 := eq_true q11))
                go_ret
                exact ⟨by first | rfl | (simp; done) | (simp only [← hji8] <;> (first | rfl | simp)) | (simp [*]; done), by repeat (first | exact Drawn0.refl _ | apply Drawn0.step)⟩
            · rw [if_neg c10] at H
              exact absurd H (by simp)
          · rw [if_neg c9] at H
            exact absurd H (by simp)
        · rw [if_neg c7] at H
          have c7b0 : ((bt t189 0) == 34) = false := beq_eq_false_iff_ne.mpr c7
          have c7b1 : ((bt t189 0) != 34) = true := bne_iff_ne.mpr c7
          obtain rfl := Option.some.inj H
          go_enter Try.func24, Try.ntmps24
          go_wp2_with (first | ((with_reducible refine gate_callee (f := 75) rfl ?_); refine goesL_ (some 5) rfl rfl Try.func75 (by kernel_rfl) rfl #[.string a0, .string (⟨#[87, 47]⟩ : ByteArray)] rfl (by (try simp only [List.map_toArray, List.map_cons, List.map_nil]); first | done | rfl | (simp only [List.length_drop, List.length_take]; rfl)) ?_; (with_reducible refine (strings_TrimPrefix.calls a0 (⟨#[87, 47]⟩ : ByteArray) t189 _ A2.out).mono ?_); rintro e w' ⟨rfl, ⟨nd, rfl⟩⟩; refine ⟨_, rfl, ?_⟩; have p6 : 0 ≤ (0 : Int) := (by omega); have q6 : 0 < t189.size := (by have : (0 : Int) < (t189.size : Int) := of_decide_eq_true (by first | (with_reducible assumption) | assumption); omega); have hx6 : ∀ h : 0 < t189.size, ((t189[0]'h).toNat : Int) = bt t189 0 := bt_at t189 0; clear p6; have qi6 : (0 < (t189.size : Int)) = True := eq_true (of_decide_eq_true (by first | (with_reducible assumption) | assumption)); replace q6 := eq_true q6))
          go_ret
          exact ⟨by first | rfl | (simp; done) | (simp [*]; done), by repeat (first | exact Drawn0.refl _ | apply Drawn0.step)⟩
      · rw [if_neg c5] at H
        exact absurd H (by simp)

/-! ### impl_WeakSame: function 26 -/
def impl_WeakSame.f (k : Nat) (a0 : ByteArray) (a1 : ByteArray) : Option (Bool) := (impl_TagOk.f k a0).bind fun t198 => (if t198 = true then ((impl_TagOk.f k a1).bind fun t199 => (if t199 = true then ((strings_TrimPrefix.f a0 (⟨#[87, 47]⟩ : ByteArray)).bind fun t200 => ((strings_TrimPrefix.f a1 (⟨#[87, 47]⟩ : ByteArray)).bind fun t201 => (some (t200.toList == t201.toList)))) else (some false))) else (some false))
theorem impl_WeakSame.mono : ∀ a0 a1 k, LeO (impl_WeakSame.f k a0 a1) (impl_WeakSame.f (k + 1) a0 a1) := by
  intro a0 a1 k
  unfold impl_WeakSame.f
  repeat' first
      | (with_reducible exact impl_TagOk.mono _ _)
      | (with_reducible exact LeO.refl _)
      | (with_reducible exact LeO.none _)
      | (with_reducible refine LeO.ite ?_ ?_)
      | (with_reducible refine LeO.bind ?_ (fun _ => ?_))
      | exact impl_TagOk.mono _ _
      | exact LeO.none _
      | refine LeO.ite ?_ ?_
      | refine LeO.bind ?_ (fun _ => ?_)
set_option maxHeartbeats 8000000 in
set_option maxRecDepth 100000 in
theorem impl_WeakSame.calls (k : Nat) (a0 : ByteArray) (a1 : ByteArray) (r : Bool) (w : World) (h : impl_WeakSame.f k a0 a1 = some r) :
    Calls Try.prog 26 #[.string a0, .string a1] w fun e w' => e = .returned (.bool r) ∧ Drawn0 w w' := by
  have H : ((impl_TagOk.f k a0).bind fun t198 => (if t198 = true then ((impl_TagOk.f k a1).bind fun t199 => (if t199 = true then ((strings_TrimPrefix.f a0 (⟨#[87, 47]⟩ : ByteArray)).bind fun t200 => ((strings_TrimPrefix.f a1 (⟨#[87, 47]⟩ : ByteArray)).bind fun t201 => (some (t200.toList == t201.toList)))) else (some false))) else (some false))) = some r := h
  clear h
  replace H := Option.bind_eq_some_iff.mp H
  obtain ⟨t198, A30, H⟩ := H
  replace H : (if t198 = true then ((impl_TagOk.f k a1).bind fun t199 => (if t199 = true then ((strings_TrimPrefix.f a0 (⟨#[87, 47]⟩ : ByteArray)).bind fun t200 => ((strings_TrimPrefix.f a1 (⟨#[87, 47]⟩ : ByteArray)).bind fun t201 => (some (t200.toList == t201.toList)))) else (some false))) else (some false)) = some r := H
  have A3 := Aside0.mk A30
  clear A30
  by_cases c4 : t198 = true
  · subst c4
    have H1 : ((impl_TagOk.f k a1).bind fun t199 => (if t199 = true then ((strings_TrimPrefix.f a0 (⟨#[87, 47]⟩ : ByteArray)).bind fun t200 => ((strings_TrimPrefix.f a1 (⟨#[87, 47]⟩ : ByteArray)).bind fun t201 => (some (t200.toList == t201.toList)))) else (some false))) = some r := by rw [if_pos rfl] at H; exact H
    clear H
    have H := H1
    clear H1
    replace H := Option.bind_eq_some_iff.mp H
    obtain ⟨t199, A50, H⟩ := H
    replace H : (if t199 = true then ((strings_TrimPrefix.f a0 (⟨#[87, 47]⟩ : ByteArray)).bind fun t200 => ((strings_TrimPrefix.f a1 (⟨#[87, 47]⟩ : ByteArray)).bind fun t201 => (some (t200.toList == t201.toList)))) else (some false)) = some r := H
    have A5 := Aside0.mk A50
    clear A50
    by_cases c6 : t199 = true
    · subst c6
      have H1 : ((strings_TrimPrefix.f a0 (⟨#[87, 47]⟩ : ByteArray)).bind fun t200 => ((strings_TrimPrefix.f a1 (⟨#[87, 47]⟩ : ByteArray)).bind fun t201 => (some (t200.toList == t201.toList)))) = some r := by rw [if_pos rfl] at H; exact H
      clear H
      have H := H1
      clear H1
      replace H := Option.bind_eq_some_iff.mp H
      obtain ⟨t200, A70, H⟩ := H
      replace H : ((strings_TrimPrefix.f a1 (⟨#[87, 47]⟩ : ByteArray)).bind fun t201 => (some (t200.toList == t201.toList))) = some r := H
      have A7 := Aside0.mk A70
      clear A70
      replace H := Option.bind_eq_some_iff.mp H
      obtain ⟨t201, A80, H⟩ := H
      replace H : (some (t200.toList == t201.toList)) = some r := H
      have A8 := Aside0.mk A80
      clear A80
      obtain rfl := Option.some.inj H
      go_enter Try.func26, Try.ntmps26
      go_wp2_with (first | ((with_reducible refine gate_callee (f := 24) rfl ?_); refine goesL_ (some 6) rfl rfl Try.func24 (by kernel_rfl) rfl #[.string a0] rfl (by (try simp only [List.map_toArray, List.map_cons, List.map_nil]); first | done | rfl | (simp only [List.length_drop, List.length_take]; rfl)) ?_; (with_reducible refine (impl_TagOk.calls k a0 true _ A3.out).mono ?_); rintro e w' ⟨rfl, ⟨nd, rfl⟩⟩; refine ⟨_, rfl, ?_⟩) | (go_at_call 24; (with_reducible refine (impl_TagOk.calls k a1 true _ A5.out).mono ?_); rintro e w' ⟨rfl, ⟨nd, rfl⟩⟩) | (go_at_call 75; (with_reducible refine (strings_TrimPrefix.calls a0 (⟨#[87, 47]⟩ : ByteArray) t200 _ A7.out).mono ?_); rintro e w' ⟨rfl, ⟨nd, rfl⟩⟩) | (go_at_call 75; (with_reducible refine (strings_TrimPrefix.calls a1 (⟨#[87, 47]⟩ : ByteArray) t201 _ A8.out).mono ?_); rintro e w' ⟨rfl, ⟨nd, rfl⟩⟩))
      go_ret
      exact ⟨by first | rfl | (simp; done) | (simp [*]; done), by repeat (first | exact Drawn0.refl _ | apply Drawn0.step)⟩
    · replace c6 := Bool.eq_false_iff.mpr c6
      subst c6
      have H1 : (some false) = some r := by rw [if_neg (show ¬ (false = true) by decide)] at H; exact H
      clear H
      have H := H1
      clear H1
      obtain rfl := Option.some.inj H
      go_enter Try.func26, Try.ntmps26
      go_wp2_with (first | ((with_reducible refine gate_callee (f := 24) rfl ?_); refine goesL_ (some 6) rfl rfl Try.func24 (by kernel_rfl) rfl #[.string a0] rfl (by (try simp only [List.map_toArray, List.map_cons, List.map_nil]); first | done | rfl | (simp only [List.length_drop, List.length_take]; rfl)) ?_; (with_reducible refine (impl_TagOk.calls k a0 true _ A3.out).mono ?_); rintro e w' ⟨rfl, ⟨nd, rfl⟩⟩; refine ⟨_, rfl, ?_⟩) | (go_at_call 24; (with_reducible refine (impl_TagOk.calls k a1 false _ A5.out).mono ?_); rintro e w' ⟨rfl, ⟨nd, rfl⟩⟩))
      go_ret
      exact ⟨by first | rfl | (simp; done) | (simp [*]; done), by repeat (first | exact Drawn0.refl _ | apply Drawn0.step)⟩
  · replace c4 := Bool.eq_false_iff.mpr c4
    subst c4
    have H1 : (some false) = some r := by rw [if_neg (show ¬ (false = true) by decide)] at H; exact H
    clear H
    have H := H1
    clear H1
    obtain rfl := Option.some.inj H
    go_enter Try.func26, Try.ntmps26
    go_wp2_with (first | ((with_reducible refine gate_callee (f := 24) rfl ?_); refine goesL_ (some 6) rfl rfl Try.func24 (by kernel_rfl) rfl #[.string a0] rfl (by (try simp only [List.map_toArray, List.map_cons, List.map_nil]); first | done | rfl | (simp only [List.length_drop, List.length_take]; rfl)) ?_; (with_reducible refine (impl_TagOk.calls k a0 false _ A3.out).mono ?_); rintro e w' ⟨rfl, ⟨nd, rfl⟩⟩; refine ⟨_, rfl, ?_⟩))
    go_ret
    exact ⟨by first | rfl | (simp; done) | (simp [*]; done), by repeat (first | exact Drawn0.refl _ | apply Drawn0.step)⟩

end Go.Proofs.Ytahgiblifkchaaa.P
