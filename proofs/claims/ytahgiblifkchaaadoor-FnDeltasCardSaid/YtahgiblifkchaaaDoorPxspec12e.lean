-- Written by a program of ours (myprint.py, by way of the kit's print) out of Lean's print of the translation.
import Derived.Test.YtahgiblifkchaaaDoorPx0
import Derived.Test.YtahgiblifkchaaaDoorPxspec01c
import Derived.Test.YtahgiblifkchaaaDoorPxspec12d
namespace Go.Proofs.YtahgiblifkchaaaDoor.P
open Go.RowKit Go.Proofs.YtahgiblifkchaaaDoorW.PrintWords Go.Proofs.YtahgiblifkchaaaDoorW.PrintLast Go.Proofs.YtahgiblifkchaaaDoorW.PrintMore
attribute [local go_sem] max2_int min2_int max_two min_two max_three min_three max_four min_four   -- for this text's walks alone
set_option linter.unusedVariables false
set_option linter.unusedSimpArgs false

def spec_DirsText.f (k : Nat) (a0_0 : Bool) (a0_1 : Bool) (a0_2 : Bool) (a0_3 : Bool) (a0_4 : Bool) (a0_5 : Bool) (a0_6 : Int) (a0_7 : Int) (a0_8 : Int) (a0_9 : Int) : Option (ByteArray) := (spec_DirsOk.f a0_0 a0_1 a0_2 a0_3 a0_4 a0_5 a0_6 a0_7 a0_8 a0_9).bind fun t502 => (if t502 = true then ((spec_l12word.f (⟨#[]⟩ : ByteArray) a0_0 (⟨#[110, 111, 45, 115, 116, 111, 114, 101]⟩ : ByteArray)).bind fun t503 => ((spec_l12word.f t503 a0_1 (⟨#[110, 111, 45, 99, 97, 99, 104, 101]⟩ : ByteArray)).bind fun t504 => ((spec_l12word.f t504 a0_2 (⟨#[112, 114, 105, 118, 97, 116, 101]⟩ : ByteArray)).bind fun t505 => ((spec_l12word.f t505 a0_3 (⟨#[112, 117, 98, 108, 105, 99]⟩ : ByteArray)).bind fun t506 => ((spec_l12word.f t506 a0_4 (⟨#[109, 117, 115, 116, 45, 114, 101, 118, 97, 108, 105, 100, 97, 116, 101]⟩ : ByteArray)).bind fun t507 => ((spec_l12word.f t507 a0_5 (⟨#[111, 110, 108, 121, 45, 105, 102, 45, 99, 97, 99, 104, 101, 100]⟩ : ByteArray)).bind fun t508 => ((spec_DecText.f k a0_6).bind fun t509 => (if 8 + t509.size ≤ 9223372036854775807 then ((spec_l12word.f t508 (decide (a0_6 ≥ 0)) ((⟨#[109, 97, 120, 45, 97, 103, 101, 61]⟩ : ByteArray) ++ t509)).bind fun t510 => ((spec_DecText.f k a0_7).bind fun t511 => (if 9 + t511.size ≤ 9223372036854775807 then ((spec_l12word.f t510 (decide (a0_7 ≥ 0)) ((⟨#[115, 45, 109, 97, 120, 97, 103, 101, 61]⟩ : ByteArray) ++ t511)).bind fun t512 => ((spec_DecText.f k a0_8).bind fun t513 => (if 10 + t513.size ≤ 9223372036854775807 then ((spec_l12word.f t512 (decide (a0_8 ≥ 0)) ((⟨#[109, 97, 120, 45, 115, 116, 97, 108, 101, 61]⟩ : ByteArray) ++ t513)).bind fun t514 => ((spec_DecText.f k a0_9).bind fun t515 => (if 10 + t515.size ≤ 9223372036854775807 then ((spec_l12word.f t514 (decide (a0_9 ≥ 0)) ((⟨#[109, 105, 110, 45, 102, 114, 101, 115, 104, 61]⟩ : ByteArray) ++ t515)).bind fun t516 => (some t516)) else (none)))) else (none)))) else (none)))) else (none))))))))) else (some (⟨#[]⟩ : ByteArray)))
theorem spec_DirsText.mono : ∀ a0 a1 a2 a3 a4 a5 a6 a7 a8 a9 k, LeO (spec_DirsText.f k a0 a1 a2 a3 a4 a5 a6 a7 a8 a9) (spec_DirsText.f (k + 1) a0 a1 a2 a3 a4 a5 a6 a7 a8 a9) := by
 intro a0 a1 a2 a3 a4 a5 a6 a7 a8 a9 k
 unfold spec_DirsText.f
 repeat' first
   | (with_reducible exact spec_DecText.mono _ _)
   | (with_reducible exact LeO.refl _)
   | (with_reducible exact LeO.none _)
   | (with_reducible refine LeO.ite ?_ ?_)
   | (with_reducible refine LeO.bind ?_ (fun _ => ?_))
   | exact spec_DecText.mono _ _
   | exact LeO.none _
   | refine LeO.ite ?_ ?_
   | refine LeO.bind ?_ (fun _ => ?_)
def spec_DirsText.T9 : Bool × List (List Nat × List Nat) := (true, [([], []), ([], []), ([1], [1]), ([2], [2]), ([], []), ([4], [4]), ([5], [5]), ([6], [6]), ([0, 3, 7, 6], [0, 3, 7]), ([8, 8, 0, 1, 2, 3, 4, 5, 6, 7, 8], [0, 8])])
def spec_DirsText.B9 : List Nat := [0, 0, 2, 6, 0, 16, 48, 112, 255, 511]
theorem spec_DirsText.tab9 : rtab .any (opsOf Tryd.f6 9) = spec_DirsText.T9 := by kernel_rfl
theorem spec_DirsText.bits9 : waitsOk spec_DirsText.T9.2 spec_DirsText.B9 = true := by kernel_rfl
def spec_DirsText.T10 : Bool × List (List Nat × List Nat) := (true, [([], []), ([], []), ([1], [1]), ([2], [2]), ([], []), ([4], [4]), ([5], [5]), ([6], [6]), ([0, 3, 7, 6], [0, 3, 7]), ([8, 8, 0, 1, 2, 3, 4, 5, 6, 7, 8], [0, 8])])
def spec_DirsText.B10 : List Nat := [0, 0, 2, 6, 0, 16, 48, 112, 255, 511]
theorem spec_DirsText.tab10 : rtab .any (opsOf Tryd.f6 10) = spec_DirsText.T10 := by kernel_rfl
theorem spec_DirsText.bits10 : waitsOk spec_DirsText.T10.2 spec_DirsText.B10 = true := by kernel_rfl
def spec_DirsText.T11 : Bool × List (List Nat × List Nat) := (true, [([], []), ([], []), ([1], [1]), ([2], [2]), ([], []), ([4], [4]), ([5], [5]), ([6], [6]), ([0, 3, 7, 6], [0, 3, 7]), ([8, 8, 0, 1, 2, 3, 4, 5, 6, 7, 8], [0, 8])])
def spec_DirsText.B11 : List Nat := [0, 0, 2, 6, 0, 16, 48, 112, 255, 511]
theorem spec_DirsText.tab11 : rtab .any (opsOf Tryd.f6 11) = spec_DirsText.T11 := by kernel_rfl
theorem spec_DirsText.bits11 : waitsOk spec_DirsText.T11.2 spec_DirsText.B11 = true := by kernel_rfl
def spec_DirsText.T12 : Bool × List (List Nat × List Nat) := (true, [([], []), ([], []), ([1], [1]), ([2], [2]), ([], []), ([4], [4]), ([5], [5]), ([6], [6]), ([0, 3, 7, 6], [0, 3, 7]), ([8, 8, 0, 1, 2, 3, 4, 5, 6, 7, 8], [8])])
def spec_DirsText.B12 : List Nat := [0, 0, 2, 6, 0, 16, 48, 112, 255, 511]
theorem spec_DirsText.tab12 : rtab .any (opsOf Tryd.f6 12) = spec_DirsText.T12 := by kernel_rfl
theorem spec_DirsText.bits12 : waitsOk spec_DirsText.T12.2 spec_DirsText.B12 = true := by kernel_rfl
set_option maxHeartbeats 8000000 in
set_option maxRecDepth 100000 in
theorem spec_DirsText.calls (k : Nat) (a0_0 : Bool) (a0_1 : Bool) (a0_2 : Bool) (a0_3 : Bool) (a0_4 : Bool) (a0_5 : Bool) (a0_6 : Int) (a0_7 : Int) (a0_8 : Int) (a0_9 : Int) (r : ByteArray) (w : World) (h : spec_DirsText.f k a0_0 a0_1 a0_2 a0_3 a0_4 a0_5 a0_6 a0_7 a0_8 a0_9 = some r) :
  Calls Tryd.prog 6 #[.agg #[.bool a0_0, .bool a0_1, .bool a0_2, .bool a0_3, .bool a0_4, .bool a0_5, .int .i64 a0_6, .int .i64 a0_7, .int .i64 a0_8, .int .i64 a0_9]] w fun e w' => e = .returned (.string r) ∧ Below w.heap.size w w' := by
 have hu25 := Tryd.underlying25
 have HB := Aside0.mk (Below.refl w.heap.size w)
 have H : ((spec_DirsOk.f a0_0 a0_1 a0_2 a0_3 a0_4 a0_5 a0_6 a0_7 a0_8 a0_9).bind fun t502 => (if t502 = true then ((spec_l12word.f (⟨#[]⟩ : ByteArray) a0_0 (⟨#[110, 111, 45, 115, 116, 111, 114, 101]⟩ : ByteArray)).bind fun t503 => ((spec_l12word.f t503 a0_1 (⟨#[110, 111, 45, 99, 97, 99, 104, 101]⟩ : ByteArray)).bind fun t504 => ((spec_l12word.f t504 a0_2 (⟨#[112, 114, 105, 118, 97, 116, 101]⟩ : ByteArray)).bind fun t505 => ((spec_l12word.f t505 a0_3 (⟨#[112, 117, 98, 108, 105, 99]⟩ : ByteArray)).bind fun t506 => ((spec_l12word.f t506 a0_4 (⟨#[109, 117, 115, 116, 45, 114, 101, 118, 97, 108, 105, 100, 97, 116, 101]⟩ : ByteArray)).bind fun t507 => ((spec_l12word.f t507 a0_5 (⟨#[111, 110, 108, 121, 45, 105, 102, 45, 99, 97, 99, 104, 101, 100]⟩ : ByteArray)).bind fun t508 => ((spec_DecText.f k a0_6).bind fun t509 => (if 8 + t509.size ≤ 9223372036854775807 then ((spec_l12word.f t508 (decide (a0_6 ≥ 0)) ((⟨#[109, 97, 120, 45, 97, 103, 101, 61]⟩ : ByteArray) ++ t509)).bind fun t510 => ((spec_DecText.f k a0_7).bind fun t511 => (if 9 + t511.size ≤ 9223372036854775807 then ((spec_l12word.f t510 (decide (a0_7 ≥ 0)) ((⟨#[115, 45, 109, 97, 120, 97, 103, 101, 61]⟩ : ByteArray) ++ t511)).bind fun t512 => ((spec_DecText.f k a0_8).bind fun t513 => (if 10 + t513.size ≤ 9223372036854775807 then ((spec_l12word.f t512 (decide (a0_8 ≥ 0)) ((⟨#[109, 97, 120, 45, 115, 116, 97, 108, 101, 61]⟩ : ByteArray) ++ t513)).bind fun t514 => ((spec_DecText.f k a0_9).bind fun t515 => (if 10 + t515.size ≤ 9223372036854775807 then ((spec_l12word.f t514 (decide (a0_9 ≥ 0)) ((⟨#[109, 105, 110, 45, 102, 114, 101, 115, 104, 61]⟩ : ByteArray) ++ t515)).bind fun t516 => (some t516)) else (none)))) else (none)))) else (none)))) else (none))))))))) else (some (⟨#[]⟩ : ByteArray)))) = some r := h
 clear h
 replace H := Option.bind_eq_some_iff.mp H
 obtain ⟨t502, A20, H⟩ := H
 replace H : (if t502 = true then ((spec_l12word.f (⟨#[]⟩ : ByteArray) a0_0 (⟨#[110, 111, 45, 115, 116, 111, 114, 101]⟩ : ByteArray)).bind fun t503 => ((spec_l12word.f t503 a0_1 (⟨#[110, 111, 45, 99, 97, 99, 104, 101]⟩ : ByteArray)).bind fun t504 => ((spec_l12word.f t504 a0_2 (⟨#[112, 114, 105, 118, 97, 116, 101]⟩ : ByteArray)).bind fun t505 => ((spec_l12word.f t505 a0_3 (⟨#[112, 117, 98, 108, 105, 99]⟩ : ByteArray)).bind fun t506 => ((spec_l12word.f t506 a0_4 (⟨#[109, 117, 115, 116, 45, 114, 101, 118, 97, 108, 105, 100, 97, 116, 101]⟩ : ByteArray)).bind fun t507 => ((spec_l12word.f t507 a0_5 (⟨#[111, 110, 108, 121, 45, 105, 102, 45, 99, 97, 99, 104, 101, 100]⟩ : ByteArray)).bind fun t508 => ((spec_DecText.f k a0_6).bind fun t509 => (if 8 + t509.size ≤ 9223372036854775807 then ((spec_l12word.f t508 (decide (a0_6 ≥ 0)) ((⟨#[109, 97, 120, 45, 97, 103, 101, 61]⟩ : ByteArray) ++ t509)).bind fun t510 => ((spec_DecText.f k a0_7).bind fun t511 => (if 9 + t511.size ≤ 9223372036854775807 then ((spec_l12word.f t510 (decide (a0_7 ≥ 0)) ((⟨#[115, 45, 109, 97, 120, 97, 103, 101, 61]⟩ : ByteArray) ++ t511)).bind fun t512 => ((spec_DecText.f k a0_8).bind fun t513 => (if 10 + t513.size ≤ 9223372036854775807 then ((spec_l12word.f t512 (decide (a0_8 ≥ 0)) ((⟨#[109, 97, 120, 45, 115, 116, 97, 108, 101, 61]⟩ : ByteArray) ++ t513)).bind fun t514 => ((spec_DecText.f k a0_9).bind fun t515 => (if 10 + t515.size ≤ 9223372036854775807 then ((spec_l12word.f t514 (decide (a0_9 ≥ 0)) ((⟨#[109, 105, 110, 45, 102, 114, 101, 115, 104, 61]⟩ : ByteArray) ++ t515)).bind fun t516 => (some t516)) else (none)))) else (none)))) else (none)))) else (none))))))))) else (some (⟨#[]⟩ : ByteArray))) = some r := H
 have A2 := Aside0.mk A20
 clear A20
 by_cases c3 : t502 = true
 ·subst c3
  have H1 : ((spec_l12word.f (⟨#[]⟩ : ByteArray) a0_0 (⟨#[110, 111, 45, 115, 116, 111, 114, 101]⟩ : ByteArray)).bind fun t503 => ((spec_l12word.f t503 a0_1 (⟨#[110, 111, 45, 99, 97, 99, 104, 101]⟩ : ByteArray)).bind fun t504 => ((spec_l12word.f t504 a0_2 (⟨#[112, 114, 105, 118, 97, 116, 101]⟩ : ByteArray)).bind fun t505 => ((spec_l12word.f t505 a0_3 (⟨#[112, 117, 98, 108, 105, 99]⟩ : ByteArray)).bind fun t506 => ((spec_l12word.f t506 a0_4 (⟨#[109, 117, 115, 116, 45, 114, 101, 118, 97, 108, 105, 100, 97, 116, 101]⟩ : ByteArray)).bind fun t507 => ((spec_l12word.f t507 a0_5 (⟨#[111, 110, 108, 121, 45, 105, 102, 45, 99, 97, 99, 104, 101, 100]⟩ : ByteArray)).bind fun t508 => ((spec_DecText.f k a0_6).bind fun t509 => (if 8 + t509.size ≤ 9223372036854775807 then ((spec_l12word.f t508 (decide (a0_6 ≥ 0)) ((⟨#[109, 97, 120, 45, 97, 103, 101, 61]⟩ : ByteArray) ++ t509)).bind fun t510 => ((spec_DecText.f k a0_7).bind fun t511 => (if 9 + t511.size ≤ 9223372036854775807 then ((spec_l12word.f t510 (decide (a0_7 ≥ 0)) ((⟨#[115, 45, 109, 97, 120, 97, 103, 101, 61]⟩ : ByteArray) ++ t511)).bind fun t512 => ((spec_DecText.f k a0_8).bind fun t513 => (if 10 + t513.size ≤ 9223372036854775807 then ((spec_l12word.f t512 (decide (a0_8 ≥ 0)) ((⟨#[109, 97, 120, 45, 115, 116, 97, 108, 101, 61]⟩ : ByteArray) ++ t513)).bind fun t514 => ((spec_DecText.f k a0_9).bind fun t515 => (if 10 + t515.size ≤ 9223372036854775807 then ((spec_l12word.f t514 (decide (a0_9 ≥ 0)) ((⟨#[109, 105, 110, 45, 102, 114, 101, 115, 104, 61]⟩ : ByteArray) ++ t515)).bind fun t516 => (some t516)) else (none)))) else (none)))) else (none)))) else (none))))))))) = some r := by rw [if_pos rfl] at H; exact H
  clear H
  have H := H1
  clear H1
  replace H := Option.bind_eq_some_iff.mp H
  obtain ⟨t503, A40, H⟩ := H
  replace H : ((spec_l12word.f t503 a0_1 (⟨#[110, 111, 45, 99, 97, 99, 104, 101]⟩ : ByteArray)).bind fun t504 => ((spec_l12word.f t504 a0_2 (⟨#[112, 114, 105, 118, 97, 116, 101]⟩ : ByteArray)).bind fun t505 => ((spec_l12word.f t505 a0_3 (⟨#[112, 117, 98, 108, 105, 99]⟩ : ByteArray)).bind fun t506 => ((spec_l12word.f t506 a0_4 (⟨#[109, 117, 115, 116, 45, 114, 101, 118, 97, 108, 105, 100, 97, 116, 101]⟩ : ByteArray)).bind fun t507 => ((spec_l12word.f t507 a0_5 (⟨#[111, 110, 108, 121, 45, 105, 102, 45, 99, 97, 99, 104, 101, 100]⟩ : ByteArray)).bind fun t508 => ((spec_DecText.f k a0_6).bind fun t509 => (if 8 + t509.size ≤ 9223372036854775807 then ((spec_l12word.f t508 (decide (a0_6 ≥ 0)) ((⟨#[109, 97, 120, 45, 97, 103, 101, 61]⟩ : ByteArray) ++ t509)).bind fun t510 => ((spec_DecText.f k a0_7).bind fun t511 => (if 9 + t511.size ≤ 9223372036854775807 then ((spec_l12word.f t510 (decide (a0_7 ≥ 0)) ((⟨#[115, 45, 109, 97, 120, 97, 103, 101, 61]⟩ : ByteArray) ++ t511)).bind fun t512 => ((spec_DecText.f k a0_8).bind fun t513 => (if 10 + t513.size ≤ 9223372036854775807 then ((spec_l12word.f t512 (decide (a0_8 ≥ 0)) ((⟨#[109, 97, 120, 45, 115, 116, 97, 108, 101, 61]⟩ : ByteArray) ++ t513)).bind fun t514 => ((spec_DecText.f k a0_9).bind fun t515 => (if 10 + t515.size ≤ 9223372036854775807 then ((spec_l12word.f t514 (decide (a0_9 ≥ 0)) ((⟨#[109, 105, 110, 45, 102, 114, 101, 115, 104, 61]⟩ : ByteArray) ++ t515)).bind fun t516 => (some t516)) else (none)))) else (none)))) else (none)))) else (none)))))))) = some r := H
  have A4 := Aside0.mk A40
  clear A40
  replace H := Option.bind_eq_some_iff.mp H
  obtain ⟨t504, A50, H⟩ := H
  replace H : ((spec_l12word.f t504 a0_2 (⟨#[112, 114, 105, 118, 97, 116, 101]⟩ : ByteArray)).bind fun t505 => ((spec_l12word.f t505 a0_3 (⟨#[112, 117, 98, 108, 105, 99]⟩ : ByteArray)).bind fun t506 => ((spec_l12word.f t506 a0_4 (⟨#[109, 117, 115, 116, 45, 114, 101, 118, 97, 108, 105, 100, 97, 116, 101]⟩ : ByteArray)).bind fun t507 => ((spec_l12word.f t507 a0_5 (⟨#[111, 110, 108, 121, 45, 105, 102, 45, 99, 97, 99, 104, 101, 100]⟩ : ByteArray)).bind fun t508 => ((spec_DecText.f k a0_6).bind fun t509 => (if 8 + t509.size ≤ 9223372036854775807 then ((spec_l12word.f t508 (decide (a0_6 ≥ 0)) ((⟨#[109, 97, 120, 45, 97, 103, 101, 61]⟩ : ByteArray) ++ t509)).bind fun t510 => ((spec_DecText.f k a0_7).bind fun t511 => (if 9 + t511.size ≤ 9223372036854775807 then ((spec_l12word.f t510 (decide (a0_7 ≥ 0)) ((⟨#[115, 45, 109, 97, 120, 97, 103, 101, 61]⟩ : ByteArray) ++ t511)).bind fun t512 => ((spec_DecText.f k a0_8).bind fun t513 => (if 10 + t513.size ≤ 9223372036854775807 then ((spec_l12word.f t512 (decide (a0_8 ≥ 0)) ((⟨#[109, 97, 120, 45, 115, 116, 97, 108, 101, 61]⟩ : ByteArray) ++ t513)).bind fun t514 => ((spec_DecText.f k a0_9).bind fun t515 => (if 10 + t515.size ≤ 9223372036854775807 then ((spec_l12word.f t514 (decide (a0_9 ≥ 0)) ((⟨#[109, 105, 110, 45, 102, 114, 101, 115, 104, 61]⟩ : ByteArray) ++ t515)).bind fun t516 => (some t516)) else (none)))) else (none)))) else (none)))) else (none))))))) = some r := H
  have A5 := Aside0.mk A50
  clear A50
  replace H := Option.bind_eq_some_iff.mp H
  obtain ⟨t505, A60, H⟩ := H
  replace H : ((spec_l12word.f t505 a0_3 (⟨#[112, 117, 98, 108, 105, 99]⟩ : ByteArray)).bind fun t506 => ((spec_l12word.f t506 a0_4 (⟨#[109, 117, 115, 116, 45, 114, 101, 118, 97, 108, 105, 100, 97, 116, 101]⟩ : ByteArray)).bind fun t507 => ((spec_l12word.f t507 a0_5 (⟨#[111, 110, 108, 121, 45, 105, 102, 45, 99, 97, 99, 104, 101, 100]⟩ : ByteArray)).bind fun t508 => ((spec_DecText.f k a0_6).bind fun t509 => (if 8 + t509.size ≤ 9223372036854775807 then ((spec_l12word.f t508 (decide (a0_6 ≥ 0)) ((⟨#[109, 97, 120, 45, 97, 103, 101, 61]⟩ : ByteArray) ++ t509)).bind fun t510 => ((spec_DecText.f k a0_7).bind fun t511 => (if 9 + t511.size ≤ 9223372036854775807 then ((spec_l12word.f t510 (decide (a0_7 ≥ 0)) ((⟨#[115, 45, 109, 97, 120, 97, 103, 101, 61]⟩ : ByteArray) ++ t511)).bind fun t512 => ((spec_DecText.f k a0_8).bind fun t513 => (if 10 + t513.size ≤ 9223372036854775807 then ((spec_l12word.f t512 (decide (a0_8 ≥ 0)) ((⟨#[109, 97, 120, 45, 115, 116, 97, 108, 101, 61]⟩ : ByteArray) ++ t513)).bind fun t514 => ((spec_DecText.f k a0_9).bind fun t515 => (if 10 + t515.size ≤ 9223372036854775807 then ((spec_l12word.f t514 (decide (a0_9 ≥ 0)) ((⟨#[109, 105, 110, 45, 102, 114, 101, 115, 104, 61]⟩ : ByteArray) ++ t515)).bind fun t516 => (some t516)) else (none)))) else (none)))) else (none)))) else (none)))))) = some r := H
  have A6 := Aside0.mk A60
  clear A60
  replace H := Option.bind_eq_some_iff.mp H
  obtain ⟨t506, A70, H⟩ := H
  replace H : ((spec_l12word.f t506 a0_4 (⟨#[109, 117, 115, 116, 45, 114, 101, 118, 97, 108, 105, 100, 97, 116, 101]⟩ : ByteArray)).bind fun t507 => ((spec_l12word.f t507 a0_5 (⟨#[111, 110, 108, 121, 45, 105, 102, 45, 99, 97, 99, 104, 101, 100]⟩ : ByteArray)).bind fun t508 => ((spec_DecText.f k a0_6).bind fun t509 => (if 8 + t509.size ≤ 9223372036854775807 then ((spec_l12word.f t508 (decide (a0_6 ≥ 0)) ((⟨#[109, 97, 120, 45, 97, 103, 101, 61]⟩ : ByteArray) ++ t509)).bind fun t510 => ((spec_DecText.f k a0_7).bind fun t511 => (if 9 + t511.size ≤ 9223372036854775807 then ((spec_l12word.f t510 (decide (a0_7 ≥ 0)) ((⟨#[115, 45, 109, 97, 120, 97, 103, 101, 61]⟩ : ByteArray) ++ t511)).bind fun t512 => ((spec_DecText.f k a0_8).bind fun t513 => (if 10 + t513.size ≤ 9223372036854775807 then ((spec_l12word.f t512 (decide (a0_8 ≥ 0)) ((⟨#[109, 97, 120, 45, 115, 116, 97, 108, 101, 61]⟩ : ByteArray) ++ t513)).bind fun t514 => ((spec_DecText.f k a0_9).bind fun t515 => (if 10 + t515.size ≤ 9223372036854775807 then ((spec_l12word.f t514 (decide (a0_9 ≥ 0)) ((⟨#[109, 105, 110, 45, 102, 114, 101, 115, 104, 61]⟩ : ByteArray) ++ t515)).bind fun t516 => (some t516)) else (none)))) else (none)))) else (none)))) else (none))))) = some r := H
  have A7 := Aside0.mk A70
  clear A70
  replace H := Option.bind_eq_some_iff.mp H
  obtain ⟨t507, A80, H⟩ := H
  replace H : ((spec_l12word.f t507 a0_5 (⟨#[111, 110, 108, 121, 45, 105, 102, 45, 99, 97, 99, 104, 101, 100]⟩ : ByteArray)).bind fun t508 => ((spec_DecText.f k a0_6).bind fun t509 => (if 8 + t509.size ≤ 9223372036854775807 then ((spec_l12word.f t508 (decide (a0_6 ≥ 0)) ((⟨#[109, 97, 120, 45, 97, 103, 101, 61]⟩ : ByteArray) ++ t509)).bind fun t510 => ((spec_DecText.f k a0_7).bind fun t511 => (if 9 + t511.size ≤ 9223372036854775807 then ((spec_l12word.f t510 (decide (a0_7 ≥ 0)) ((⟨#[115, 45, 109, 97, 120, 97, 103, 101, 61]⟩ : ByteArray) ++ t511)).bind fun t512 => ((spec_DecText.f k a0_8).bind fun t513 => (if 10 + t513.size ≤ 9223372036854775807 then ((spec_l12word.f t512 (decide (a0_8 ≥ 0)) ((⟨#[109, 97, 120, 45, 115, 116, 97, 108, 101, 61]⟩ : ByteArray) ++ t513)).bind fun t514 => ((spec_DecText.f k a0_9).bind fun t515 => (if 10 + t515.size ≤ 9223372036854775807 then ((spec_l12word.f t514 (decide (a0_9 ≥ 0)) ((⟨#[109, 105, 110, 45, 102, 114, 101, 115, 104, 61]⟩ : ByteArray) ++ t515)).bind fun t516 => (some t516)) else (none)))) else (none)))) else (none)))) else (none)))) = some r := H
  have A8 := Aside0.mk A80
  clear A80
  replace H := Option.bind_eq_some_iff.mp H
  obtain ⟨t508, A90, H⟩ := H
  replace H : ((spec_DecText.f k a0_6).bind fun t509 => (if 8 + t509.size ≤ 9223372036854775807 then ((spec_l12word.f t508 (decide (a0_6 ≥ 0)) ((⟨#[109, 97, 120, 45, 97, 103, 101, 61]⟩ : ByteArray) ++ t509)).bind fun t510 => ((spec_DecText.f k a0_7).bind fun t511 => (if 9 + t511.size ≤ 9223372036854775807 then ((spec_l12word.f t510 (decide (a0_7 ≥ 0)) ((⟨#[115, 45, 109, 97, 120, 97, 103, 101, 61]⟩ : ByteArray) ++ t511)).bind fun t512 => ((spec_DecText.f k a0_8).bind fun t513 => (if 10 + t513.size ≤ 9223372036854775807 then ((spec_l12word.f t512 (decide (a0_8 ≥ 0)) ((⟨#[109, 97, 120, 45, 115, 116, 97, 108, 101, 61]⟩ : ByteArray) ++ t513)).bind fun t514 => ((spec_DecText.f k a0_9).bind fun t515 => (if 10 + t515.size ≤ 9223372036854775807 then ((spec_l12word.f t514 (decide (a0_9 ≥ 0)) ((⟨#[109, 105, 110, 45, 102, 114, 101, 115, 104, 61]⟩ : ByteArray) ++ t515)).bind fun t516 => (some t516)) else (none)))) else (none)))) else (none)))) else (none))) = some r := H
  have A9 := Aside0.mk A90
  clear A90
  replace H := Option.bind_eq_some_iff.mp H
  obtain ⟨t509, A100, H⟩ := H
  replace H : (if 8 + t509.size ≤ 9223372036854775807 then ((spec_l12word.f t508 (decide (a0_6 ≥ 0)) ((⟨#[109, 97, 120, 45, 97, 103, 101, 61]⟩ : ByteArray) ++ t509)).bind fun t510 => ((spec_DecText.f k a0_7).bind fun t511 => (if 9 + t511.size ≤ 9223372036854775807 then ((spec_l12word.f t510 (decide (a0_7 ≥ 0)) ((⟨#[115, 45, 109, 97, 120, 97, 103, 101, 61]⟩ : ByteArray) ++ t511)).bind fun t512 => ((spec_DecText.f k a0_8).bind fun t513 => (if 10 + t513.size ≤ 9223372036854775807 then ((spec_l12word.f t512 (decide (a0_8 ≥ 0)) ((⟨#[109, 97, 120, 45, 115, 116, 97, 108, 101, 61]⟩ : ByteArray) ++ t513)).bind fun t514 => ((spec_DecText.f k a0_9).bind fun t515 => (if 10 + t515.size ≤ 9223372036854775807 then ((spec_l12word.f t514 (decide (a0_9 ≥ 0)) ((⟨#[109, 105, 110, 45, 102, 114, 101, 115, 104, 61]⟩ : ByteArray) ++ t515)).bind fun t516 => (some t516)) else (none)))) else (none)))) else (none)))) else (none)) = some r := H
  have A10 := Aside0.mk A100
  clear A100
  by_cases c11 : 8 + t509.size ≤ 9223372036854775807
  ·rw [if_pos c11] at H
   have c11b0 := eq_true c11
   have c11b1 : decide (8 + t509.size ≤ 9223372036854775807) = true := decide_eq_true c11
   try have c11b2 : (9223372036854775807 < 8 + t509.size) = False := eq_false (Nat.not_lt.2 c11)
   replace H := Option.bind_eq_some_iff.mp H
   obtain ⟨t510, A120, H⟩ := H
   replace H : ((spec_DecText.f k a0_7).bind fun t511 => (if 9 + t511.size ≤ 9223372036854775807 then ((spec_l12word.f t510 (decide (a0_7 ≥ 0)) ((⟨#[115, 45, 109, 97, 120, 97, 103, 101, 61]⟩ : ByteArray) ++ t511)).bind fun t512 => ((spec_DecText.f k a0_8).bind fun t513 => (if 10 + t513.size ≤ 9223372036854775807 then ((spec_l12word.f t512 (decide (a0_8 ≥ 0)) ((⟨#[109, 97, 120, 45, 115, 116, 97, 108, 101, 61]⟩ : ByteArray) ++ t513)).bind fun t514 => ((spec_DecText.f k a0_9).bind fun t515 => (if 10 + t515.size ≤ 9223372036854775807 then ((spec_l12word.f t514 (decide (a0_9 ≥ 0)) ((⟨#[109, 105, 110, 45, 102, 114, 101, 115, 104, 61]⟩ : ByteArray) ++ t515)).bind fun t516 => (some t516)) else (none)))) else (none)))) else (none))) = some r := H
   have A12 := Aside0.mk A120
   clear A120
   replace H := Option.bind_eq_some_iff.mp H
   obtain ⟨t511, A130, H⟩ := H
   replace H : (if 9 + t511.size ≤ 9223372036854775807 then ((spec_l12word.f t510 (decide (a0_7 ≥ 0)) ((⟨#[115, 45, 109, 97, 120, 97, 103, 101, 61]⟩ : ByteArray) ++ t511)).bind fun t512 => ((spec_DecText.f k a0_8).bind fun t513 => (if 10 + t513.size ≤ 9223372036854775807 then ((spec_l12word.f t512 (decide (a0_8 ≥ 0)) ((⟨#[109, 97, 120, 45, 115, 116, 97, 108, 101, 61]⟩ : ByteArray) ++ t513)).bind fun t514 => ((spec_DecText.f k a0_9).bind fun t515 => (if 10 + t515.size ≤ 9223372036854775807 then ((spec_l12word.f t514 (decide (a0_9 ≥ 0)) ((⟨#[109, 105, 110, 45, 102, 114, 101, 115, 104, 61]⟩ : ByteArray) ++ t515)).bind fun t516 => (some t516)) else (none)))) else (none)))) else (none)) = some r := H
   have A13 := Aside0.mk A130
   clear A130
   by_cases c14 : 9 + t511.size ≤ 9223372036854775807
   ·rw [if_pos c14] at H
    have c14b0 := eq_true c14
    have c14b1 : decide (9 + t511.size ≤ 9223372036854775807) = true := decide_eq_true c14
    try have c14b2 : (9223372036854775807 < 9 + t511.size) = False := eq_false (Nat.not_lt.2 c14)
    replace H := Option.bind_eq_some_iff.mp H
    obtain ⟨t512, A150, H⟩ := H
    replace H : ((spec_DecText.f k a0_8).bind fun t513 => (if 10 + t513.size ≤ 9223372036854775807 then ((spec_l12word.f t512 (decide (a0_8 ≥ 0)) ((⟨#[109, 97, 120, 45, 115, 116, 97, 108, 101, 61]⟩ : ByteArray) ++ t513)).bind fun t514 => ((spec_DecText.f k a0_9).bind fun t515 => (if 10 + t515.size ≤ 9223372036854775807 then ((spec_l12word.f t514 (decide (a0_9 ≥ 0)) ((⟨#[109, 105, 110, 45, 102, 114, 101, 115, 104, 61]⟩ : ByteArray) ++ t515)).bind fun t516 => (some t516)) else (none)))) else (none))) = some r := H
    have A15 := Aside0.mk A150
    clear A150
    replace H := Option.bind_eq_some_iff.mp H
    obtain ⟨t513, A160, H⟩ := H
    replace H : (if 10 + t513.size ≤ 9223372036854775807 then ((spec_l12word.f t512 (decide (a0_8 ≥ 0)) ((⟨#[109, 97, 120, 45, 115, 116, 97, 108, 101, 61]⟩ : ByteArray) ++ t513)).bind fun t514 => ((spec_DecText.f k a0_9).bind fun t515 => (if 10 + t515.size ≤ 9223372036854775807 then ((spec_l12word.f t514 (decide (a0_9 ≥ 0)) ((⟨#[109, 105, 110, 45, 102, 114, 101, 115, 104, 61]⟩ : ByteArray) ++ t515)).bind fun t516 => (some t516)) else (none)))) else (none)) = some r := H
    have A16 := Aside0.mk A160
    clear A160
    by_cases c17 : 10 + t513.size ≤ 9223372036854775807
    ·rw [if_pos c17] at H
     have c17b0 := eq_true c17
     have c17b1 : decide (10 + t513.size ≤ 9223372036854775807) = true := decide_eq_true c17
     try have c17b2 : (9223372036854775807 < 10 + t513.size) = False := eq_false (Nat.not_lt.2 c17)
     replace H := Option.bind_eq_some_iff.mp H
     obtain ⟨t514, A180, H⟩ := H
     replace H : ((spec_DecText.f k a0_9).bind fun t515 => (if 10 + t515.size ≤ 9223372036854775807 then ((spec_l12word.f t514 (decide (a0_9 ≥ 0)) ((⟨#[109, 105, 110, 45, 102, 114, 101, 115, 104, 61]⟩ : ByteArray) ++ t515)).bind fun t516 => (some t516)) else (none))) = some r := H
     have A18 := Aside0.mk A180
     clear A180
     replace H := Option.bind_eq_some_iff.mp H
     obtain ⟨t515, A190, H⟩ := H
     replace H : (if 10 + t515.size ≤ 9223372036854775807 then ((spec_l12word.f t514 (decide (a0_9 ≥ 0)) ((⟨#[109, 105, 110, 45, 102, 114, 101, 115, 104, 61]⟩ : ByteArray) ++ t515)).bind fun t516 => (some t516)) else (none)) = some r := H
     have A19 := Aside0.mk A190
     clear A190
     by_cases c20 : 10 + t515.size ≤ 9223372036854775807
     ·rw [if_pos c20] at H
      have c20b0 := eq_true c20
      have c20b1 : decide (10 + t515.size ≤ 9223372036854775807) = true := decide_eq_true c20
      try have c20b2 : (9223372036854775807 < 10 + t515.size) = False := eq_false (Nat.not_lt.2 c20)
      replace H := Option.bind_eq_some_iff.mp H
      obtain ⟨t516, A210, H⟩ := H
      replace H : (some t516) = some r := H
      have A21 := Aside0.mk A210
      clear A210
      obtain rfl := Option.some.inj H
      go_enter Tryd.func6, Tryd.ntmps6
      try go_wp2_with (first | ((with_reducible refine gate_dst (N := 1) rfl ?_); refine box_event ?hg (N := 1) ?hd (cs := #[.bool a0_0, .bool a0_1, .bool a0_2, .bool a0_3, .bool a0_4, .bool a0_5, .int .i64 a0_6, .int .i64 a0_7, .int .i64 a0_8, .int .i64 a0_9]) (t := 25) ?hr ?_; (case hd => rfl); (case hg => rfl); (case hr => first | (go_simp; done) | (go_simp; rfl)); intro gb501 hg w22 hbox hb; have n0_ := Aside0.mk (below_step (by repeat (first | (with_reducible first | exact HB.out | apply below_alloc | apply pw_below_drewN | apply below_drew1) | exact HB.out)) hb); have n1_ := Aside0.mk (hbox); have n2_ := Aside0.mk ((by rw [hg]; exact (below_size (by repeat (first | (with_reducible first | exact HB.out | apply below_alloc | apply pw_below_drewN | apply below_drew1) | exact HB.out))) : w.heap.size ≤ gb501)); have n3_ := Aside0.mk ((by rw [hg]; exact (below_size (by repeat (first | (with_reducible first | exact HB.out | apply below_alloc | apply pw_below_drewN | apply below_drew1) | exact HB.out))) : w.heap.size ≤ gb501)); clear HB; have HB := n0_; have BK501 := n1_; have GW501 := n2_; have GE501 := n3_; clear n0_ n1_ n2_ n3_; clear hb hbox hg; have hcz23_0 : w22.cell? ⟨gb501, 0, none⟩ = some (.bool a0_0) := (blk_cell BK501.out 0).trans rfl; have hcz23_1 : w22.cell? ⟨gb501, 1, none⟩ = some (.bool a0_1) := (blk_cell BK501.out 1).trans rfl; have hcz23_2 : w22.cell? ⟨gb501, 2, none⟩ = some (.bool a0_2) := (blk_cell BK501.out 2).trans rfl; have hcz23_3 : w22.cell? ⟨gb501, 3, none⟩ = some (.bool a0_3) := (blk_cell BK501.out 3).trans rfl; have hcz23_4 : w22.cell? ⟨gb501, 4, none⟩ = some (.bool a0_4) := (blk_cell BK501.out 4).trans rfl; have hcz23_5 : w22.cell? ⟨gb501, 5, none⟩ = some (.bool a0_5) := (blk_cell BK501.out 5).trans rfl; have hcz23_6 : w22.cell? ⟨gb501, 6, none⟩ = some (.int .i64 a0_6) := (blk_cell BK501.out 6).trans rfl; have hcz23_7 : w22.cell? ⟨gb501, 7, none⟩ = some (.int .i64 a0_7) := (blk_cell BK501.out 7).trans rfl; have hcz23_8 : w22.cell? ⟨gb501, 8, none⟩ = some (.int .i64 a0_8) := (blk_cell BK501.out 8).trans rfl; have hcz23_9 : w22.cell? ⟨gb501, 9, none⟩ = some (.int .i64 a0_9) := (blk_cell BK501.out 9).trans rfl; have hfz23_0 := blk_frozen BK501.out 0; have hfz23_1 := blk_frozen BK501.out 1; have hfz23_2 := blk_frozen BK501.out 2; have hfz23_3 := blk_frozen BK501.out 3; have hfz23_4 := blk_frozen BK501.out 4; have hfz23_5 := blk_frozen BK501.out 5; have hfz23_6 := blk_frozen BK501.out 6; have hfz23_7 := blk_frozen BK501.out 7; have hfz23_8 := blk_frozen BK501.out 8; have hfz23_9 := blk_frozen BK501.out 9) | ((with_reducible refine gate_callee (f := 10) rfl ?_); refine goesL_ (some 5) rfl rfl Tryd.func10 (by kernel_rfl) rfl #[.agg #[.bool a0_0, .bool a0_1, .bool a0_2, .bool a0_3, .bool a0_4, .bool a0_5, .int .i64 a0_6, .int .i64 a0_7, .int .i64 a0_8, .int .i64 a0_9]] rfl (by (try simp only [List.map_toArray, List.map_cons, List.map_nil]); first | done | rfl | (simp only [List.length_drop, List.length_take]; rfl)) ?_; (with_reducible refine (spec_DirsOk.calls a0_0 a0_1 a0_2 a0_3 a0_4 a0_5 a0_6 a0_7 a0_8 a0_9 true _ A2.out).mono ?_); rintro e w24 ⟨rfl, hb⟩; refine ⟨_, rfl, ?_⟩; have n0_ := Aside0.mk (blk_below (g := gb501) (o := .cells #[.bool a0_0, .bool a0_1, .bool a0_2, .bool a0_3, .bool a0_4, .bool a0_5, .int .i64 a0_6, .int .i64 a0_7, .int .i64 a0_8, .int .i64 a0_9] 25 (0, 0)) (by (with_reducible repeat (first | refine blk_drewN ?_ _ | refine blk_drew ?_ | refine blk_alloc ?_ _)); exact BK501.out) hb); have n1_ := Aside0.mk (below_step (by repeat (first | (with_reducible first | exact HB.out | apply below_alloc | apply pw_below_drewN | apply below_drew1 | refine below_set ?_ GE501.out) | exact HB.out)) hb); clear BK501; clear HB; have BK501 := n0_; have HB := n1_; clear n0_ n1_; (try clear hb); (try clear hb2); (try clear hk); (try clear hi); have hcz25_0 : w24.cell? ⟨gb501, 0, none⟩ = some (.bool a0_0) := (blk_cell BK501.out 0).trans rfl; have hcz25_1 : w24.cell? ⟨gb501, 1, none⟩ = some (.bool a0_1) := (blk_cell BK501.out 1).trans rfl; have hcz25_2 : w24.cell? ⟨gb501, 2, none⟩ = some (.bool a0_2) := (blk_cell BK501.out 2).trans rfl; have hcz25_3 : w24.cell? ⟨gb501, 3, none⟩ = some (.bool a0_3) := (blk_cell BK501.out 3).trans rfl; have hcz25_4 : w24.cell? ⟨gb501, 4, none⟩ = some (.bool a0_4) := (blk_cell BK501.out 4).trans rfl; have hcz25_5 : w24.cell? ⟨gb501, 5, none⟩ = some (.bool a0_5) := (blk_cell BK501.out 5).trans rfl; have hcz25_6 : w24.cell? ⟨gb501, 6, none⟩ = some (.int .i64 a0_6) := (blk_cell BK501.out 6).trans rfl; have hcz25_7 : w24.cell? ⟨gb501, 7, none⟩ = some (.int .i64 a0_7) := (blk_cell BK501.out 7).trans rfl; have hcz25_8 : w24.cell? ⟨gb501, 8, none⟩ = some (.int .i64 a0_8) := (blk_cell BK501.out 8).trans rfl; have hcz25_9 : w24.cell? ⟨gb501, 9, none⟩ = some (.int .i64 a0_9) := (blk_cell BK501.out 9).trans rfl; have hfz25_0 := blk_frozen BK501.out 0; have hfz25_1 := blk_frozen BK501.out 1; have hfz25_2 := blk_frozen BK501.out 2; have hfz25_3 := blk_frozen BK501.out 3; have hfz25_4 := blk_frozen BK501.out 4; have hfz25_5 := blk_frozen BK501.out 5; have hfz25_6 := blk_frozen BK501.out 6; have hfz25_7 := blk_frozen BK501.out 7; have hfz25_8 := blk_frozen BK501.out 8; have hfz25_9 := blk_frozen BK501.out 9) | ((with_reducible refine gate_callee (f := 19) rfl ?_); refine goesL_ (some 9) rfl rfl Tryd.func19 (by kernel_rfl) rfl #[.string (⟨#[]⟩ : ByteArray), .bool a0_0, .string (⟨#[110, 111, 45, 115, 116, 111, 114, 101]⟩ : ByteArray)] rfl (by (try simp only [List.map_toArray, List.map_cons, List.map_nil]); first | done | rfl | (simp only [List.length_drop, List.length_take]; rfl)) ?_; (with_reducible refine (spec_l12word.calls (⟨#[]⟩ : ByteArray) a0_0 (⟨#[110, 111, 45, 115, 116, 111, 114, 101]⟩ : ByteArray) t503 _ A4.out).mono ?_); rintro e w' ⟨rfl, ⟨nd, rfl⟩⟩; refine ⟨_, rfl, ?_⟩) | ((with_reducible refine gate_callee (f := 19) rfl ?_); refine goesL_ (some 13) rfl rfl Tryd.func19 (by kernel_rfl) rfl #[.string t503, .bool a0_1, .string (⟨#[110, 111, 45, 99, 97, 99, 104, 101]⟩ : ByteArray)] rfl (by (try simp only [List.map_toArray, List.map_cons, List.map_nil]); first | done | rfl | (simp only [List.length_drop, List.length_take]; rfl)) ?_; (with_reducible refine (spec_l12word.calls t503 a0_1 (⟨#[110, 111, 45, 99, 97, 99, 104, 101]⟩ : ByteArray) t504 _ A5.out).mono ?_); rintro e w' ⟨rfl, ⟨nd, rfl⟩⟩; refine ⟨_, rfl, ?_⟩) | ((with_reducible refine gate_callee (f := 19) rfl ?_); refine goesL_ (some 17) rfl rfl Tryd.func19 (by kernel_rfl) rfl #[.string t504, .bool a0_2, .string (⟨#[112, 114, 105, 118, 97, 116, 101]⟩ : ByteArray)] rfl (by (try simp only [List.map_toArray, List.map_cons, List.map_nil]); first | done | rfl | (simp only [List.length_drop, List.length_take]; rfl)) ?_; (with_reducible refine (spec_l12word.calls t504 a0_2 (⟨#[112, 114, 105, 118, 97, 116, 101]⟩ : ByteArray) t505 _ A6.out).mono ?_); rintro e w' ⟨rfl, ⟨nd, rfl⟩⟩; refine ⟨_, rfl, ?_⟩) | ((with_reducible refine gate_callee (f := 19) rfl ?_); refine goesL_ (some 21) rfl rfl Tryd.func19 (by kernel_rfl) rfl #[.string t505, .bool a0_3, .string (⟨#[112, 117, 98, 108, 105, 99]⟩ : ByteArray)] rfl (by (try simp only [List.map_toArray, List.map_cons, List.map_nil]); first | done | rfl | (simp only [List.length_drop, List.length_take]; rfl)) ?_; (with_reducible refine (spec_l12word.calls t505 a0_3 (⟨#[112, 117, 98, 108, 105, 99]⟩ : ByteArray) t506 _ A7.out).mono ?_); rintro e w' ⟨rfl, ⟨nd, rfl⟩⟩; refine ⟨_, rfl, ?_⟩) | ((with_reducible refine gate_callee (f := 19) rfl ?_); refine goesL_ (some 25) rfl rfl Tryd.func19 (by kernel_rfl) rfl #[.string t506, .bool a0_4, .string (⟨#[109, 117, 115, 116, 45, 114, 101, 118, 97, 108, 105, 100, 97, 116, 101]⟩ : ByteArray)] rfl (by (try simp only [List.map_toArray, List.map_cons, List.map_nil]); first | done | rfl | (simp only [List.length_drop, List.length_take]; rfl)) ?_; (with_reducible refine (spec_l12word.calls t506 a0_4 (⟨#[109, 117, 115, 116, 45, 114, 101, 118, 97, 108, 105, 100, 97, 116, 101]⟩ : ByteArray) t507 _ A8.out).mono ?_); rintro e w' ⟨rfl, ⟨nd, rfl⟩⟩; refine ⟨_, rfl, ?_⟩) | ((with_reducible refine gate_callee (f := 19) rfl ?_); refine goesL_ (some 29) rfl rfl Tryd.func19 (by kernel_rfl) rfl #[.string t507, .bool a0_5, .string (⟨#[111, 110, 108, 121, 45, 105, 102, 45, 99, 97, 99, 104, 101, 100]⟩ : ByteArray)] rfl (by (try simp only [List.map_toArray, List.map_cons, List.map_nil]); first | done | rfl | (simp only [List.length_drop, List.length_take]; rfl)) ?_; (with_reducible refine (spec_l12word.calls t507 a0_5 (⟨#[111, 110, 108, 121, 45, 105, 102, 45, 99, 97, 99, 104, 101, 100]⟩ : ByteArray) t508 _ A9.out).mono ?_); rintro e w' ⟨rfl, ⟨nd, rfl⟩⟩; refine ⟨_, rfl, ?_⟩))
      (try (rw [drewN_self w24]; generalize hq_ : World.drewN w24 _ = w24; have n0_ : Aside0 (w24.heap[gb501]? = some (.cells #[.bool a0_0, .bool a0_1, .bool a0_2, .bool a0_3, .bool a0_4, .bool a0_5, .int .i64 a0_6, .int .i64 a0_7, .int .i64 a0_8, .int .i64 a0_9] 25 (0, 0))) := ⟨by rw [← hq_]; exact (by (with_reducible repeat (first | refine blk_drewN ?_ _ | refine blk_drew ?_ | refine blk_alloc ?_ _)); exact BK501.out)⟩; have n1_ : Aside0 (Below w.heap.size w w24) := ⟨by rw [← hq_]; exact (by repeat (first | (with_reducible first | exact HB.out | apply below_alloc | apply pw_below_drewN | apply below_drew1 | refine below_set ?_ GE501.out) | exact HB.out))⟩; clear BK501 HB hq_; have BK501 := n0_; have HB := n1_; clear n0_ n1_))
      have n0_ := Aside0.mk (blk_drew BK501.out)
      have n1_ := Aside0.mk (below_drew1 HB.out)
      clear BK501
      clear HB
      have BK501 := n0_
      have HB := n1_
      clear n0_ n1_
      refine start_ (n := 10) (S := fun w' => w'.cell? ⟨gb501, 0, none⟩ = some (.bool a0_0) ∧ w'.cell? ⟨gb501, 1, none⟩ = some (.bool a0_1) ∧ w'.cell? ⟨gb501, 2, none⟩ = some (.bool a0_2) ∧ w'.cell? ⟨gb501, 3, none⟩ = some (.bool a0_3) ∧ w'.cell? ⟨gb501, 4, none⟩ = some (.bool a0_4) ∧ w'.cell? ⟨gb501, 5, none⟩ = some (.bool a0_5) ∧ w'.cell? ⟨gb501, 6, none⟩ = some (.int .i64 a0_6) ∧ w'.cell? ⟨gb501, 7, none⟩ = some (.int .i64 a0_7) ∧ w'.cell? ⟨gb501, 8, none⟩ = some (.int .i64 a0_8) ∧ w'.cell? ⟨gb501, 9, none⟩ = some (.int .i64 a0_9)) (ds := []) #[false, false, false, false, false, false, false, false, false, false] (by kernel_rfl) rfl rfl ⟨(blk_cell BK501.out 0).trans rfl, (blk_cell BK501.out 1).trans rfl, (blk_cell BK501.out 2).trans rfl, (blk_cell BK501.out 3).trans rfl, (blk_cell BK501.out 4).trans rfl, (blk_cell BK501.out 5).trans rfl, (blk_cell BK501.out 6).trans rfl, (blk_cell BK501.out 7).trans rfl, (blk_cell BK501.out 8).trans rfl, (blk_cell BK501.out 9).trans rfl⟩ (fun hHeld => ?_); refine with_tabW spec_DirsText.tab9 spec_DirsText.bits9 (fun HT_ HW_ => ?_)
      generalize w24.drew = w26 at BK501 HB hHeld ⊢
      refine pure_ (i := 0) (N := some 30) (v := ?_) (a' := ?_) #[true, false, false, false, false, false, false, false, false, false] rfl rfl (any_of HT_.out (by kernel_rfl)) (fun _ _ _ h => h) (Or.inl ⟨by rfl, ?_⟩) ?_ ?_
      rotate_left
      ·intro w'
       go_simp
       with_reducible rfl
      rotate_left
      ·simp only [Act.put, List.setIfInBounds_toArray, List.set_cons_zero, List.set_cons_succ, i64_w, i32_w]
       rfl
      refine pure_ (i := 1) (N := some 31) (v := ?_) (a' := ?_) #[true, true, false, false, false, false, false, false, false, false] rfl rfl (any_of HT_.out (by kernel_rfl)) (fun _ _ _ h => h) (Or.inl ⟨by rfl, ?_⟩) ?_ ?_
      rotate_left
      ·intro w'
       go_simp
       with_reducible rfl
      rotate_left
      ·simp only [Act.put, List.setIfInBounds_toArray, List.set_cons_zero, List.set_cons_succ, i64_w, i32_w]
       rfl
      refine pure_ (i := 4) (N := some 34) (v := ?_) (a' := ?_) #[true, true, false, false, true, false, false, false, false, false] rfl rfl (any_of HT_.out (by kernel_rfl)) (fun _ _ _ h => h) (Or.inl ⟨by rfl, ?_⟩) ?_ ?_
      rotate_left
      ·intro w'
       go_simp
       with_reducible rfl
      rotate_left
      ·simp only [Act.put, List.setIfInBounds_toArray, List.set_cons_zero, List.set_cons_succ, i64_w, i32_w]
       rfl
      refine take_ (i := 2) (N := some 32) (v := ?_) (a' := ?_) #[true, true, true, false, true, false, false, false, false, false] rfl rfl (take_ofW HT_.out HW_.out (by kernel_rfl)) (fun _ _ _ h => h) (Or.inl ⟨by rfl, ?_⟩) hHeld ?_ ?_
      rotate_left
      ·rintro w' ⟨s0, s1, s2, s3, s4, s5, s6, s7, s8, s9⟩
       go_simp
       with_reducible rfl
      rotate_left
      ·simp only [Act.put, List.setIfInBounds_toArray, List.set_cons_zero, List.set_cons_succ, i64_w, i32_w]
       rfl
      refine pure_ (i := 3) (N := some 33) (v := ?_) (a' := ?_) #[true, true, true, true, true, false, false, false, false, false] rfl rfl (any_of HT_.out (by kernel_rfl)) (fun _ _ _ h => h) (Or.inl ⟨by rfl, ?_⟩) ?_ ?_
      rotate_left
      ·intro w'
       go_simp
       with_reducible rfl
      rotate_left
      ·simp only [Act.put, List.setIfInBounds_toArray, List.set_cons_zero, List.set_cons_succ, i64_w, i32_w]
       rfl
      refine take_ (i := 5) (N := some 35) (v := ?_) (a' := ?_) #[true, true, true, true, true, true, false, false, false, false] rfl rfl (take_ofW HT_.out HW_.out (by kernel_rfl)) (fun _ _ _ h => h) (Or.inl ⟨by rfl, ?_⟩) hHeld ?_ ?_
      rotate_left
      ·rintro w' ⟨s0, s1, s2, s3, s4, s5, s6, s7, s8, s9⟩
       go_simp
       with_reducible rfl
      rotate_left
      ·simp only [Act.put, List.setIfInBounds_toArray, List.set_cons_zero, List.set_cons_succ, i64_w, i32_w]
       rfl
      refine one_ (i := 6) (N := some 36) #[true, true, true, true, true, true, true, false, false, false] rfl rfl (one_of HT_.out (by kernel_rfl)) (by decide) (fun K hK => ?_)
      refine goes_ Tryd.func18 (by kernel_rfl) rfl #[.int .i64 a0_6] (by rfl) rfl rfl (by (try simp only [List.map_toArray, List.map_cons, List.map_nil]); first | done | rfl | (simp only [List.length_drop, List.length_take]; rfl)) ?_
      with_reducible refine (spec_DecText.calls k a0_6 t509 _ A10.out).mono ?_
      rintro e w27 ⟨rfl, hb⟩
      refine ⟨_, rfl, ?_⟩
      have n0_ := Aside0.mk (blk_below (g := gb501) (o := .cells #[.bool a0_0, .bool a0_1, .bool a0_2, .bool a0_3, .bool a0_4, .bool a0_5, .int .i64 a0_6, .int .i64 a0_7, .int .i64 a0_8, .int .i64 a0_9] 25 (0, 0)) (by (with_reducible repeat (first | refine blk_drewN ?_ _ | refine blk_drew ?_ | refine blk_alloc ?_ _)); exact BK501.out) hb)
      have n1_ := Aside0.mk (below_step (by repeat (first | (with_reducible first | exact HB.out | apply below_alloc | apply pw_below_drewN | apply below_drew1 | refine below_set ?_ GE501.out) | exact HB.out)) hb)
      clear BK501
      clear HB
      have BK501 := n0_
      have HB := n1_
      clear n0_ n1_
      (try clear hb)
      (try clear hb2)
      (try clear hk)
      (try clear hi)
      refine hK.out _ _ ⟨(blk_cell BK501.out 0).trans rfl, (blk_cell BK501.out 1).trans rfl, (blk_cell BK501.out 2).trans rfl, (blk_cell BK501.out 3).trans rfl, (blk_cell BK501.out 4).trans rfl, (blk_cell BK501.out 5).trans rfl, (blk_cell BK501.out 6).trans rfl, (blk_cell BK501.out 7).trans rfl, (blk_cell BK501.out 8).trans rfl, (blk_cell BK501.out 9).trans rfl⟩ (fun hHeld => ?_)
      clear hK K
      refine norm_ (a' := ?_) ?_ ?_
      rotate_left
      ·show Act.put _ (some 36) _ = _
       simp only [Act.put, List.setIfInBounds_toArray, List.set_cons_zero, List.set_cons_succ, i64_w, i32_w]
       rfl
      refine pure_ (i := 7) (N := some 37) (v := ?_) (a' := ?_) #[true, true, true, true, true, true, true, true, false, false] rfl rfl (any_of HT_.out (by kernel_rfl)) (fun _ _ _ h => h) (Or.inl ⟨by rfl, ?_⟩) ?_ ?_
      rotate_left
      ·intro w'
       go_simp
       with_reducible rfl
      rotate_left
      ·simp only [Act.put, List.setIfInBounds_toArray, List.set_cons_zero, List.set_cons_succ, i64_w, i32_w]
       rfl
      refine one_ (i := 8) (N := some 38) #[true, true, true, true, true, true, true, true, true, false] rfl rfl (one_of HT_.out (by kernel_rfl)) (by decide) (fun K hK => ?_)
      refine goes_ Tryd.func19 (by kernel_rfl) rfl #[.string t508, .bool (decide (a0_6 ≥ 0)), .string ((⟨#[109, 97, 120, 45, 97, 103, 101, 61]⟩ : ByteArray) ++ t509)] (by rfl) rfl rfl (by (try simp only [List.map_toArray, List.map_cons, List.map_nil]); first | done | rfl | (simp only [List.length_drop, List.length_take]; rfl)) ?_
      with_reducible refine (spec_l12word.calls t508 (decide (a0_6 ≥ 0)) ((⟨#[109, 97, 120, 45, 97, 103, 101, 61]⟩ : ByteArray) ++ t509) t510 _ A12.out).mono ?_
      rintro e w' ⟨rfl, ⟨nd, rfl⟩⟩
      refine ⟨_, rfl, ?_⟩
      refine hK.out _ _ ⟨(blk_cell BK501.out 0).trans rfl, (blk_cell BK501.out 1).trans rfl, (blk_cell BK501.out 2).trans rfl, (blk_cell BK501.out 3).trans rfl, (blk_cell BK501.out 4).trans rfl, (blk_cell BK501.out 5).trans rfl, (blk_cell BK501.out 6).trans rfl, (blk_cell BK501.out 7).trans rfl, (blk_cell BK501.out 8).trans rfl, (blk_cell BK501.out 9).trans rfl⟩ (fun hHeld => ?_)
      clear hK K
      refine norm_ (a' := ?_) ?_ ?_
      rotate_left
      ·show Act.put _ (some 38) _ = _
       simp only [Act.put, List.setIfInBounds_toArray, List.set_cons_zero, List.set_cons_succ, i64_w, i32_w]
       rfl
      refine pure_ (i := 9) (N := some 3) (v := ?_) (a' := ?_) #[true, true, true, true, true, true, true, true, true, true] rfl rfl (any_of HT_.out (by kernel_rfl)) (fun _ _ _ h => h) (Or.inl ⟨by rfl, ?_⟩) ?_ ?_
      rotate_left
      ·intro w'
       go_simp
       with_reducible rfl
      rotate_left
      ·simp only [Act.put, List.setIfInBounds_toArray, List.set_cons_zero, List.set_cons_succ, i64_w, i32_w]
       rfl
      refine done_ (done_of HT_.out (by kernel_rfl)) ?_
      try go_wp2
      (try (rw [drewN_self w27]; generalize hq_ : World.drewN w27 _ = w27; have n0_ : Aside0 (w27.heap[gb501]? = some (.cells #[.bool a0_0, .bool a0_1, .bool a0_2, .bool a0_3, .bool a0_4, .bool a0_5, .int .i64 a0_6, .int .i64 a0_7, .int .i64 a0_8, .int .i64 a0_9] 25 (0, 0))) := ⟨by rw [← hq_]; exact (by (with_reducible repeat (first | refine blk_drewN ?_ _ | refine blk_drew ?_ | refine blk_alloc ?_ _)); exact BK501.out)⟩; have n1_ : Aside0 (Below w.heap.size w w27) := ⟨by rw [← hq_]; exact (by repeat (first | (with_reducible first | exact HB.out | apply below_alloc | apply pw_below_drewN | apply below_drew1 | refine below_set ?_ GE501.out) | exact HB.out))⟩; clear BK501 HB hq_; have BK501 := n0_; have HB := n1_; clear n0_ n1_))
      have n0_ := Aside0.mk (blk_drew BK501.out)
      have n1_ := Aside0.mk (below_drew1 HB.out)
      clear BK501
      clear HB
      have BK501 := n0_
      have HB := n1_
      clear n0_ n1_
      refine start_ (n := 10) (S := fun w' => w'.cell? ⟨gb501, 0, none⟩ = some (.bool a0_0) ∧ w'.cell? ⟨gb501, 1, none⟩ = some (.bool a0_1) ∧ w'.cell? ⟨gb501, 2, none⟩ = some (.bool a0_2) ∧ w'.cell? ⟨gb501, 3, none⟩ = some (.bool a0_3) ∧ w'.cell? ⟨gb501, 4, none⟩ = some (.bool a0_4) ∧ w'.cell? ⟨gb501, 5, none⟩ = some (.bool a0_5) ∧ w'.cell? ⟨gb501, 6, none⟩ = some (.int .i64 a0_6) ∧ w'.cell? ⟨gb501, 7, none⟩ = some (.int .i64 a0_7) ∧ w'.cell? ⟨gb501, 8, none⟩ = some (.int .i64 a0_8) ∧ w'.cell? ⟨gb501, 9, none⟩ = some (.int .i64 a0_9)) (ds := []) #[false, false, false, false, false, false, false, false, false, false] (by kernel_rfl) rfl rfl ⟨(blk_cell BK501.out 0).trans rfl, (blk_cell BK501.out 1).trans rfl, (blk_cell BK501.out 2).trans rfl, (blk_cell BK501.out 3).trans rfl, (blk_cell BK501.out 4).trans rfl, (blk_cell BK501.out 5).trans rfl, (blk_cell BK501.out 6).trans rfl, (blk_cell BK501.out 7).trans rfl, (blk_cell BK501.out 8).trans rfl, (blk_cell BK501.out 9).trans rfl⟩ (fun hHeld => ?_); refine with_tabW spec_DirsText.tab10 spec_DirsText.bits10 (fun HT_ HW_ => ?_)
      generalize w27.drew = w28 at BK501 HB hHeld ⊢
      refine pure_ (i := 0) (N := some 39) (v := ?_) (a' := ?_) #[true, false, false, false, false, false, false, false, false, false] rfl rfl (any_of HT_.out (by kernel_rfl)) (fun _ _ _ h => h) (Or.inl ⟨by rfl, ?_⟩) ?_ ?_
      rotate_left
      ·intro w'
       go_simp
       with_reducible rfl
      rotate_left
      ·simp only [Act.put, List.setIfInBounds_toArray, List.set_cons_zero, List.set_cons_succ, i64_w, i32_w]
       rfl
      refine pure_ (i := 1) (N := some 40) (v := ?_) (a' := ?_) #[true, true, false, false, false, false, false, false, false, false] rfl rfl (any_of HT_.out (by kernel_rfl)) (fun _ _ _ h => h) (Or.inl ⟨by rfl, ?_⟩) ?_ ?_
      rotate_left
      ·intro w'
       go_simp
       with_reducible rfl
      rotate_left
      ·simp only [Act.put, List.setIfInBounds_toArray, List.set_cons_zero, List.set_cons_succ, i64_w, i32_w]
       rfl
      refine pure_ (i := 4) (N := some 43) (v := ?_) (a' := ?_) #[true, true, false, false, true, false, false, false, false, false] rfl rfl (any_of HT_.out (by kernel_rfl)) (fun _ _ _ h => h) (Or.inl ⟨by rfl, ?_⟩) ?_ ?_
      rotate_left
      ·intro w'
       go_simp
       with_reducible rfl
      rotate_left
      ·simp only [Act.put, List.setIfInBounds_toArray, List.set_cons_zero, List.set_cons_succ, i64_w, i32_w]
       rfl
      refine take_ (i := 2) (N := some 41) (v := ?_) (a' := ?_) #[true, true, true, false, true, false, false, false, false, false] rfl rfl (take_ofW HT_.out HW_.out (by kernel_rfl)) (fun _ _ _ h => h) (Or.inl ⟨by rfl, ?_⟩) hHeld ?_ ?_
      rotate_left
      ·rintro w' ⟨s0, s1, s2, s3, s4, s5, s6, s7, s8, s9⟩
       go_simp
       with_reducible rfl
      rotate_left
      ·simp only [Act.put, List.setIfInBounds_toArray, List.set_cons_zero, List.set_cons_succ, i64_w, i32_w]
       rfl
      refine pure_ (i := 3) (N := some 42) (v := ?_) (a' := ?_) #[true, true, true, true, true, false, false, false, false, false] rfl rfl (any_of HT_.out (by kernel_rfl)) (fun _ _ _ h => h) (Or.inl ⟨by rfl, ?_⟩) ?_ ?_
      rotate_left
      ·intro w'
       go_simp
       with_reducible rfl
      rotate_left
      ·simp only [Act.put, List.setIfInBounds_toArray, List.set_cons_zero, List.set_cons_succ, i64_w, i32_w]
       rfl
      refine take_ (i := 5) (N := some 44) (v := ?_) (a' := ?_) #[true, true, true, true, true, true, false, false, false, false] rfl rfl (take_ofW HT_.out HW_.out (by kernel_rfl)) (fun _ _ _ h => h) (Or.inl ⟨by rfl, ?_⟩) hHeld ?_ ?_
      rotate_left
      ·rintro w' ⟨s0, s1, s2, s3, s4, s5, s6, s7, s8, s9⟩
       go_simp
       with_reducible rfl
      rotate_left
      ·simp only [Act.put, List.setIfInBounds_toArray, List.set_cons_zero, List.set_cons_succ, i64_w, i32_w]
       rfl
      refine one_ (i := 6) (N := some 45) #[true, true, true, true, true, true, true, false, false, false] rfl rfl (one_of HT_.out (by kernel_rfl)) (by decide) (fun K hK => ?_)
      refine goes_ Tryd.func18 (by kernel_rfl) rfl #[.int .i64 a0_7] (by rfl) rfl rfl (by (try simp only [List.map_toArray, List.map_cons, List.map_nil]); first | done | rfl | (simp only [List.length_drop, List.length_take]; rfl)) ?_
      with_reducible refine (spec_DecText.calls k a0_7 t511 _ A13.out).mono ?_
      rintro e w29 ⟨rfl, hb⟩
      refine ⟨_, rfl, ?_⟩
      have n0_ := Aside0.mk (blk_below (g := gb501) (o := .cells #[.bool a0_0, .bool a0_1, .bool a0_2, .bool a0_3, .bool a0_4, .bool a0_5, .int .i64 a0_6, .int .i64 a0_7, .int .i64 a0_8, .int .i64 a0_9] 25 (0, 0)) (by (with_reducible repeat (first | refine blk_drewN ?_ _ | refine blk_drew ?_ | refine blk_alloc ?_ _)); exact BK501.out) hb)
      have n1_ := Aside0.mk (below_step (by repeat (first | (with_reducible first | exact HB.out | apply below_alloc | apply pw_below_drewN | apply below_drew1 | refine below_set ?_ GE501.out) | exact HB.out)) hb)
      clear BK501
      clear HB
      have BK501 := n0_
      have HB := n1_
      clear n0_ n1_
      (try clear hb)
      (try clear hb2)
      (try clear hk)
      (try clear hi)
      refine hK.out _ _ ⟨(blk_cell BK501.out 0).trans rfl, (blk_cell BK501.out 1).trans rfl, (blk_cell BK501.out 2).trans rfl, (blk_cell BK501.out 3).trans rfl, (blk_cell BK501.out 4).trans rfl, (blk_cell BK501.out 5).trans rfl, (blk_cell BK501.out 6).trans rfl, (blk_cell BK501.out 7).trans rfl, (blk_cell BK501.out 8).trans rfl, (blk_cell BK501.out 9).trans rfl⟩ (fun hHeld => ?_)
      clear hK K
      refine norm_ (a' := ?_) ?_ ?_
      rotate_left
      ·show Act.put _ (some 45) _ = _
       simp only [Act.put, List.setIfInBounds_toArray, List.set_cons_zero, List.set_cons_succ, i64_w, i32_w]
       rfl
      refine pure_ (i := 7) (N := some 46) (v := ?_) (a' := ?_) #[true, true, true, true, true, true, true, true, false, false] rfl rfl (any_of HT_.out (by kernel_rfl)) (fun _ _ _ h => h) (Or.inl ⟨by rfl, ?_⟩) ?_ ?_
      rotate_left
      ·intro w'
       go_simp
       with_reducible rfl
      rotate_left
      ·simp only [Act.put, List.setIfInBounds_toArray, List.set_cons_zero, List.set_cons_succ, i64_w, i32_w]
       rfl
      refine one_ (i := 8) (N := some 47) #[true, true, true, true, true, true, true, true, true, false] rfl rfl (one_of HT_.out (by kernel_rfl)) (by decide) (fun K hK => ?_)
      refine goes_ Tryd.func19 (by kernel_rfl) rfl #[.string t510, .bool (decide (a0_7 ≥ 0)), .string ((⟨#[115, 45, 109, 97, 120, 97, 103, 101, 61]⟩ : ByteArray) ++ t511)] (by rfl) rfl rfl (by (try simp only [List.map_toArray, List.map_cons, List.map_nil]); first | done | rfl | (simp only [List.length_drop, List.length_take]; rfl)) ?_
      with_reducible refine (spec_l12word.calls t510 (decide (a0_7 ≥ 0)) ((⟨#[115, 45, 109, 97, 120, 97, 103, 101, 61]⟩ : ByteArray) ++ t511) t512 _ A15.out).mono ?_
      rintro e w' ⟨rfl, ⟨nd, rfl⟩⟩
      refine ⟨_, rfl, ?_⟩
      refine hK.out _ _ ⟨(blk_cell BK501.out 0).trans rfl, (blk_cell BK501.out 1).trans rfl, (blk_cell BK501.out 2).trans rfl, (blk_cell BK501.out 3).trans rfl, (blk_cell BK501.out 4).trans rfl, (blk_cell BK501.out 5).trans rfl, (blk_cell BK501.out 6).trans rfl, (blk_cell BK501.out 7).trans rfl, (blk_cell BK501.out 8).trans rfl, (blk_cell BK501.out 9).trans rfl⟩ (fun hHeld => ?_)
      clear hK K
      refine norm_ (a' := ?_) ?_ ?_
      rotate_left
      ·show Act.put _ (some 47) _ = _
       simp only [Act.put, List.setIfInBounds_toArray, List.set_cons_zero, List.set_cons_succ, i64_w, i32_w]
       rfl
      refine pure_ (i := 9) (N := some 3) (v := ?_) (a' := ?_) #[true, true, true, true, true, true, true, true, true, true] rfl rfl (any_of HT_.out (by kernel_rfl)) (fun _ _ _ h => h) (Or.inl ⟨by rfl, ?_⟩) ?_ ?_
      rotate_left
      ·intro w'
       go_simp
       with_reducible rfl
      rotate_left
      ·simp only [Act.put, List.setIfInBounds_toArray, List.set_cons_zero, List.set_cons_succ, i64_w, i32_w]
       rfl
      refine done_ (done_of HT_.out (by kernel_rfl)) ?_
      try go_wp2
      (try (rw [drewN_self w29]; generalize hq_ : World.drewN w29 _ = w29; have n0_ : Aside0 (w29.heap[gb501]? = some (.cells #[.bool a0_0, .bool a0_1, .bool a0_2, .bool a0_3, .bool a0_4, .bool a0_5, .int .i64 a0_6, .int .i64 a0_7, .int .i64 a0_8, .int .i64 a0_9] 25 (0, 0))) := ⟨by rw [← hq_]; exact (by (with_reducible repeat (first | refine blk_drewN ?_ _ | refine blk_drew ?_ | refine blk_alloc ?_ _)); exact BK501.out)⟩; have n1_ : Aside0 (Below w.heap.size w w29) := ⟨by rw [← hq_]; exact (by repeat (first | (with_reducible first | exact HB.out | apply below_alloc | apply pw_below_drewN | apply below_drew1 | refine below_set ?_ GE501.out) | exact HB.out))⟩; clear BK501 HB hq_; have BK501 := n0_; have HB := n1_; clear n0_ n1_))
      have n0_ := Aside0.mk (blk_drew BK501.out)
      have n1_ := Aside0.mk (below_drew1 HB.out)
      clear BK501
      clear HB
      have BK501 := n0_
      have HB := n1_
      clear n0_ n1_
      refine start_ (n := 10) (S := fun w' => w'.cell? ⟨gb501, 0, none⟩ = some (.bool a0_0) ∧ w'.cell? ⟨gb501, 1, none⟩ = some (.bool a0_1) ∧ w'.cell? ⟨gb501, 2, none⟩ = some (.bool a0_2) ∧ w'.cell? ⟨gb501, 3, none⟩ = some (.bool a0_3) ∧ w'.cell? ⟨gb501, 4, none⟩ = some (.bool a0_4) ∧ w'.cell? ⟨gb501, 5, none⟩ = some (.bool a0_5) ∧ w'.cell? ⟨gb501, 6, none⟩ = some (.int .i64 a0_6) ∧ w'.cell? ⟨gb501, 7, none⟩ = some (.int .i64 a0_7) ∧ w'.cell? ⟨gb501, 8, none⟩ = some (.int .i64 a0_8) ∧ w'.cell? ⟨gb501, 9, none⟩ = some (.int .i64 a0_9)) (ds := []) #[false, false, false, false, false, false, false, false, false, false] (by kernel_rfl) rfl rfl ⟨(blk_cell BK501.out 0).trans rfl, (blk_cell BK501.out 1).trans rfl, (blk_cell BK501.out 2).trans rfl, (blk_cell BK501.out 3).trans rfl, (blk_cell BK501.out 4).trans rfl, (blk_cell BK501.out 5).trans rfl, (blk_cell BK501.out 6).trans rfl, (blk_cell BK501.out 7).trans rfl, (blk_cell BK501.out 8).trans rfl, (blk_cell BK501.out 9).trans rfl⟩ (fun hHeld => ?_); refine with_tabW spec_DirsText.tab11 spec_DirsText.bits11 (fun HT_ HW_ => ?_)
      generalize w29.drew = w30 at BK501 HB hHeld ⊢
      refine pure_ (i := 0) (N := some 48) (v := ?_) (a' := ?_) #[true, false, false, false, false, false, false, false, false, false] rfl rfl (any_of HT_.out (by kernel_rfl)) (fun _ _ _ h => h) (Or.inl ⟨by rfl, ?_⟩) ?_ ?_
      rotate_left
      ·intro w'
       go_simp
       with_reducible rfl
      rotate_left
      ·simp only [Act.put, List.setIfInBounds_toArray, List.set_cons_zero, List.set_cons_succ, i64_w, i32_w]
       rfl
      refine pure_ (i := 1) (N := some 49) (v := ?_) (a' := ?_) #[true, true, false, false, false, false, false, false, false, false] rfl rfl (any_of HT_.out (by kernel_rfl)) (fun _ _ _ h => h) (Or.inl ⟨by rfl, ?_⟩) ?_ ?_
      rotate_left
      ·intro w'
       go_simp
       with_reducible rfl
      rotate_left
      ·simp only [Act.put, List.setIfInBounds_toArray, List.set_cons_zero, List.set_cons_succ, i64_w, i32_w]
       rfl
      refine pure_ (i := 4) (N := some 52) (v := ?_) (a' := ?_) #[true, true, false, false, true, false, false, false, false, false] rfl rfl (any_of HT_.out (by kernel_rfl)) (fun _ _ _ h => h) (Or.inl ⟨by rfl, ?_⟩) ?_ ?_
      rotate_left
      ·intro w'
       go_simp
       with_reducible rfl
      rotate_left
      ·simp only [Act.put, List.setIfInBounds_toArray, List.set_cons_zero, List.set_cons_succ, i64_w, i32_w]
       rfl
      refine take_ (i := 2) (N := some 50) (v := ?_) (a' := ?_) #[true, true, true, false, true, false, false, false, false, false] rfl rfl (take_ofW HT_.out HW_.out (by kernel_rfl)) (fun _ _ _ h => h) (Or.inl ⟨by rfl, ?_⟩) hHeld ?_ ?_
      rotate_left
      ·rintro w' ⟨s0, s1, s2, s3, s4, s5, s6, s7, s8, s9⟩
       go_simp
       with_reducible rfl
      rotate_left
      ·simp only [Act.put, List.setIfInBounds_toArray, List.set_cons_zero, List.set_cons_succ, i64_w, i32_w]
       rfl
      refine pure_ (i := 3) (N := some 51) (v := ?_) (a' := ?_) #[true, true, true, true, true, false, false, false, false, false] rfl rfl (any_of HT_.out (by kernel_rfl)) (fun _ _ _ h => h) (Or.inl ⟨by rfl, ?_⟩) ?_ ?_
      rotate_left
      ·intro w'
       go_simp
       with_reducible rfl
      rotate_left
      ·simp only [Act.put, List.setIfInBounds_toArray, List.set_cons_zero, List.set_cons_succ, i64_w, i32_w]
       rfl
      refine take_ (i := 5) (N := some 53) (v := ?_) (a' := ?_) #[true, true, true, true, true, true, false, false, false, false] rfl rfl (take_ofW HT_.out HW_.out (by kernel_rfl)) (fun _ _ _ h => h) (Or.inl ⟨by rfl, ?_⟩) hHeld ?_ ?_
      rotate_left
      ·rintro w' ⟨s0, s1, s2, s3, s4, s5, s6, s7, s8, s9⟩
       go_simp
       with_reducible rfl
      rotate_left
      ·simp only [Act.put, List.setIfInBounds_toArray, List.set_cons_zero, List.set_cons_succ, i64_w, i32_w]
       rfl
      refine one_ (i := 6) (N := some 54) #[true, true, true, true, true, true, true, false, false, false] rfl rfl (one_of HT_.out (by kernel_rfl)) (by decide) (fun K hK => ?_)
      refine goes_ Tryd.func18 (by kernel_rfl) rfl #[.int .i64 a0_8] (by rfl) rfl rfl (by (try simp only [List.map_toArray, List.map_cons, List.map_nil]); first | done | rfl | (simp only [List.length_drop, List.length_take]; rfl)) ?_
      with_reducible refine (spec_DecText.calls k a0_8 t513 _ A16.out).mono ?_
      rintro e w31 ⟨rfl, hb⟩
      refine ⟨_, rfl, ?_⟩
      have n0_ := Aside0.mk (blk_below (g := gb501) (o := .cells #[.bool a0_0, .bool a0_1, .bool a0_2, .bool a0_3, .bool a0_4, .bool a0_5, .int .i64 a0_6, .int .i64 a0_7, .int .i64 a0_8, .int .i64 a0_9] 25 (0, 0)) (by (with_reducible repeat (first | refine blk_drewN ?_ _ | refine blk_drew ?_ | refine blk_alloc ?_ _)); exact BK501.out) hb)
      have n1_ := Aside0.mk (below_step (by repeat (first | (with_reducible first | exact HB.out | apply below_alloc | apply pw_below_drewN | apply below_drew1 | refine below_set ?_ GE501.out) | exact HB.out)) hb)
      clear BK501
      clear HB
      have BK501 := n0_
      have HB := n1_
      clear n0_ n1_
      (try clear hb)
      (try clear hb2)
      (try clear hk)
      (try clear hi)
      refine hK.out _ _ ⟨(blk_cell BK501.out 0).trans rfl, (blk_cell BK501.out 1).trans rfl, (blk_cell BK501.out 2).trans rfl, (blk_cell BK501.out 3).trans rfl, (blk_cell BK501.out 4).trans rfl, (blk_cell BK501.out 5).trans rfl, (blk_cell BK501.out 6).trans rfl, (blk_cell BK501.out 7).trans rfl, (blk_cell BK501.out 8).trans rfl, (blk_cell BK501.out 9).trans rfl⟩ (fun hHeld => ?_)
      clear hK K
      refine norm_ (a' := ?_) ?_ ?_
      rotate_left
      ·show Act.put _ (some 54) _ = _
       simp only [Act.put, List.setIfInBounds_toArray, List.set_cons_zero, List.set_cons_succ, i64_w, i32_w]
       rfl
      refine pure_ (i := 7) (N := some 55) (v := ?_) (a' := ?_) #[true, true, true, true, true, true, true, true, false, false] rfl rfl (any_of HT_.out (by kernel_rfl)) (fun _ _ _ h => h) (Or.inl ⟨by rfl, ?_⟩) ?_ ?_
      rotate_left
      ·intro w'
       go_simp
       with_reducible rfl
      rotate_left
      ·simp only [Act.put, List.setIfInBounds_toArray, List.set_cons_zero, List.set_cons_succ, i64_w, i32_w]
       rfl
      refine one_ (i := 8) (N := some 56) #[true, true, true, true, true, true, true, true, true, false] rfl rfl (one_of HT_.out (by kernel_rfl)) (by decide) (fun K hK => ?_)
      refine goes_ Tryd.func19 (by kernel_rfl) rfl #[.string t512, .bool (decide (a0_8 ≥ 0)), .string ((⟨#[109, 97, 120, 45, 115, 116, 97, 108, 101, 61]⟩ : ByteArray) ++ t513)] (by rfl) rfl rfl (by (try simp only [List.map_toArray, List.map_cons, List.map_nil]); first | done | rfl | (simp only [List.length_drop, List.length_take]; rfl)) ?_
      with_reducible refine (spec_l12word.calls t512 (decide (a0_8 ≥ 0)) ((⟨#[109, 97, 120, 45, 115, 116, 97, 108, 101, 61]⟩ : ByteArray) ++ t513) t514 _ A18.out).mono ?_
      rintro e w' ⟨rfl, ⟨nd, rfl⟩⟩
      refine ⟨_, rfl, ?_⟩
      refine hK.out _ _ ⟨(blk_cell BK501.out 0).trans rfl, (blk_cell BK501.out 1).trans rfl, (blk_cell BK501.out 2).trans rfl, (blk_cell BK501.out 3).trans rfl, (blk_cell BK501.out 4).trans rfl, (blk_cell BK501.out 5).trans rfl, (blk_cell BK501.out 6).trans rfl, (blk_cell BK501.out 7).trans rfl, (blk_cell BK501.out 8).trans rfl, (blk_cell BK501.out 9).trans rfl⟩ (fun hHeld => ?_)
      clear hK K
      refine norm_ (a' := ?_) ?_ ?_
      rotate_left
      ·show Act.put _ (some 56) _ = _
       simp only [Act.put, List.setIfInBounds_toArray, List.set_cons_zero, List.set_cons_succ, i64_w, i32_w]
       rfl
      refine pure_ (i := 9) (N := some 3) (v := ?_) (a' := ?_) #[true, true, true, true, true, true, true, true, true, true] rfl rfl (any_of HT_.out (by kernel_rfl)) (fun _ _ _ h => h) (Or.inl ⟨by rfl, ?_⟩) ?_ ?_
      rotate_left
      ·intro w'
       go_simp
       with_reducible rfl
      rotate_left
      ·simp only [Act.put, List.setIfInBounds_toArray, List.set_cons_zero, List.set_cons_succ, i64_w, i32_w]
       rfl
      refine done_ (done_of HT_.out (by kernel_rfl)) ?_
      try go_wp2
      (try (rw [drewN_self w31]; generalize hq_ : World.drewN w31 _ = w31; have n0_ : Aside0 (w31.heap[gb501]? = some (.cells #[.bool a0_0, .bool a0_1, .bool a0_2, .bool a0_3, .bool a0_4, .bool a0_5, .int .i64 a0_6, .int .i64 a0_7, .int .i64 a0_8, .int .i64 a0_9] 25 (0, 0))) := ⟨by rw [← hq_]; exact (by (with_reducible repeat (first | refine blk_drewN ?_ _ | refine blk_drew ?_ | refine blk_alloc ?_ _)); exact BK501.out)⟩; have n1_ : Aside0 (Below w.heap.size w w31) := ⟨by rw [← hq_]; exact (by repeat (first | (with_reducible first | exact HB.out | apply below_alloc | apply pw_below_drewN | apply below_drew1 | refine below_set ?_ GE501.out) | exact HB.out))⟩; clear BK501 HB hq_; have BK501 := n0_; have HB := n1_; clear n0_ n1_))
      have n0_ := Aside0.mk (blk_drew BK501.out)
      have n1_ := Aside0.mk (below_drew1 HB.out)
      clear BK501
      clear HB
      have BK501 := n0_
      have HB := n1_
      clear n0_ n1_
      refine start_ (n := 10) (S := fun w' => w'.cell? ⟨gb501, 0, none⟩ = some (.bool a0_0) ∧ w'.cell? ⟨gb501, 1, none⟩ = some (.bool a0_1) ∧ w'.cell? ⟨gb501, 2, none⟩ = some (.bool a0_2) ∧ w'.cell? ⟨gb501, 3, none⟩ = some (.bool a0_3) ∧ w'.cell? ⟨gb501, 4, none⟩ = some (.bool a0_4) ∧ w'.cell? ⟨gb501, 5, none⟩ = some (.bool a0_5) ∧ w'.cell? ⟨gb501, 6, none⟩ = some (.int .i64 a0_6) ∧ w'.cell? ⟨gb501, 7, none⟩ = some (.int .i64 a0_7) ∧ w'.cell? ⟨gb501, 8, none⟩ = some (.int .i64 a0_8) ∧ w'.cell? ⟨gb501, 9, none⟩ = some (.int .i64 a0_9)) (ds := []) #[false, false, false, false, false, false, false, false, false, false] (by kernel_rfl) rfl rfl ⟨(blk_cell BK501.out 0).trans rfl, (blk_cell BK501.out 1).trans rfl, (blk_cell BK501.out 2).trans rfl, (blk_cell BK501.out 3).trans rfl, (blk_cell BK501.out 4).trans rfl, (blk_cell BK501.out 5).trans rfl, (blk_cell BK501.out 6).trans rfl, (blk_cell BK501.out 7).trans rfl, (blk_cell BK501.out 8).trans rfl, (blk_cell BK501.out 9).trans rfl⟩ (fun hHeld => ?_); refine with_tabW spec_DirsText.tab12 spec_DirsText.bits12 (fun HT_ HW_ => ?_)
      generalize w31.drew = w32 at BK501 HB hHeld ⊢
      refine pure_ (i := 0) (N := some 57) (v := ?_) (a' := ?_) #[true, false, false, false, false, false, false, false, false, false] rfl rfl (any_of HT_.out (by kernel_rfl)) (fun _ _ _ h => h) (Or.inl ⟨by rfl, ?_⟩) ?_ ?_
      rotate_left
      ·intro w'
       go_simp
       with_reducible rfl
      rotate_left
      ·simp only [Act.put, List.setIfInBounds_toArray, List.set_cons_zero, List.set_cons_succ, i64_w, i32_w]
       rfl
      refine pure_ (i := 1) (N := some 58) (v := ?_) (a' := ?_) #[true, true, false, false, false, false, false, false, false, false] rfl rfl (any_of HT_.out (by kernel_rfl)) (fun _ _ _ h => h) (Or.inl ⟨by rfl, ?_⟩) ?_ ?_
      rotate_left
      ·intro w'
       go_simp
       with_reducible rfl
      rotate_left
      ·simp only [Act.put, List.setIfInBounds_toArray, List.set_cons_zero, List.set_cons_succ, i64_w, i32_w]
       rfl
      refine pure_ (i := 4) (N := some 61) (v := ?_) (a' := ?_) #[true, true, false, false, true, false, false, false, false, false] rfl rfl (any_of HT_.out (by kernel_rfl)) (fun _ _ _ h => h) (Or.inl ⟨by rfl, ?_⟩) ?_ ?_
      rotate_left
      ·intro w'
       go_simp
       with_reducible rfl
      rotate_left
      ·simp only [Act.put, List.setIfInBounds_toArray, List.set_cons_zero, List.set_cons_succ, i64_w, i32_w]
       rfl
      refine take_ (i := 2) (N := some 59) (v := ?_) (a' := ?_) #[true, true, true, false, true, false, false, false, false, false] rfl rfl (take_ofW HT_.out HW_.out (by kernel_rfl)) (fun _ _ _ h => h) (Or.inl ⟨by rfl, ?_⟩) hHeld ?_ ?_
      rotate_left
      ·rintro w' ⟨s0, s1, s2, s3, s4, s5, s6, s7, s8, s9⟩
       go_simp
       with_reducible rfl
      rotate_left
      ·simp only [Act.put, List.setIfInBounds_toArray, List.set_cons_zero, List.set_cons_succ, i64_w, i32_w]
       rfl
      refine pure_ (i := 3) (N := some 60) (v := ?_) (a' := ?_) #[true, true, true, true, true, false, false, false, false, false] rfl rfl (any_of HT_.out (by kernel_rfl)) (fun _ _ _ h => h) (Or.inl ⟨by rfl, ?_⟩) ?_ ?_
      rotate_left
      ·intro w'
       go_simp
       with_reducible rfl
      rotate_left
      ·simp only [Act.put, List.setIfInBounds_toArray, List.set_cons_zero, List.set_cons_succ, i64_w, i32_w]
       rfl
      refine take_ (i := 5) (N := some 62) (v := ?_) (a' := ?_) #[true, true, true, true, true, true, false, false, false, false] rfl rfl (take_ofW HT_.out HW_.out (by kernel_rfl)) (fun _ _ _ h => h) (Or.inl ⟨by rfl, ?_⟩) hHeld ?_ ?_
      rotate_left
      ·rintro w' ⟨s0, s1, s2, s3, s4, s5, s6, s7, s8, s9⟩
       go_simp
       with_reducible rfl
      rotate_left
      ·simp only [Act.put, List.setIfInBounds_toArray, List.set_cons_zero, List.set_cons_succ, i64_w, i32_w]
       rfl
      refine one_ (i := 6) (N := some 63) #[true, true, true, true, true, true, true, false, false, false] rfl rfl (one_of HT_.out (by kernel_rfl)) (by decide) (fun K hK => ?_)
      refine goes_ Tryd.func18 (by kernel_rfl) rfl #[.int .i64 a0_9] (by rfl) rfl rfl (by (try simp only [List.map_toArray, List.map_cons, List.map_nil]); first | done | rfl | (simp only [List.length_drop, List.length_take]; rfl)) ?_
      with_reducible refine (spec_DecText.calls k a0_9 t515 _ A19.out).mono ?_
      rintro e w33 ⟨rfl, hb⟩
      refine ⟨_, rfl, ?_⟩
      have n0_ := Aside0.mk (blk_below (g := gb501) (o := .cells #[.bool a0_0, .bool a0_1, .bool a0_2, .bool a0_3, .bool a0_4, .bool a0_5, .int .i64 a0_6, .int .i64 a0_7, .int .i64 a0_8, .int .i64 a0_9] 25 (0, 0)) (by (with_reducible repeat (first | refine blk_drewN ?_ _ | refine blk_drew ?_ | refine blk_alloc ?_ _)); exact BK501.out) hb)
      have n1_ := Aside0.mk (below_step (by repeat (first | (with_reducible first | exact HB.out | apply below_alloc | apply pw_below_drewN | apply below_drew1 | refine below_set ?_ GE501.out) | exact HB.out)) hb)
      clear BK501
      clear HB
      have BK501 := n0_
      have HB := n1_
      clear n0_ n1_
      (try clear hb)
      (try clear hb2)
      (try clear hk)
      (try clear hi)
      refine hK.out _ _ ⟨(blk_cell BK501.out 0).trans rfl, (blk_cell BK501.out 1).trans rfl, (blk_cell BK501.out 2).trans rfl, (blk_cell BK501.out 3).trans rfl, (blk_cell BK501.out 4).trans rfl, (blk_cell BK501.out 5).trans rfl, (blk_cell BK501.out 6).trans rfl, (blk_cell BK501.out 7).trans rfl, (blk_cell BK501.out 8).trans rfl, (blk_cell BK501.out 9).trans rfl⟩ (fun hHeld => ?_)
      clear hK K
      refine norm_ (a' := ?_) ?_ ?_
      rotate_left
      ·show Act.put _ (some 63) _ = _
       simp only [Act.put, List.setIfInBounds_toArray, List.set_cons_zero, List.set_cons_succ, i64_w, i32_w]
       rfl
      refine pure_ (i := 7) (N := some 64) (v := ?_) (a' := ?_) #[true, true, true, true, true, true, true, true, false, false] rfl rfl (any_of HT_.out (by kernel_rfl)) (fun _ _ _ h => h) (Or.inl ⟨by rfl, ?_⟩) ?_ ?_
      rotate_left
      ·intro w'
       go_simp
       with_reducible rfl
      rotate_left
      ·simp only [Act.put, List.setIfInBounds_toArray, List.set_cons_zero, List.set_cons_succ, i64_w, i32_w]
       rfl
      refine one_ (i := 8) (N := some 65) #[true, true, true, true, true, true, true, true, true, false] rfl rfl (one_of HT_.out (by kernel_rfl)) (by decide) (fun K hK => ?_)
      refine goes_ Tryd.func19 (by kernel_rfl) rfl #[.string t514, .bool (decide (a0_9 ≥ 0)), .string ((⟨#[109, 105, 110, 45, 102, 114, 101, 115, 104, 61]⟩ : ByteArray) ++ t515)] (by rfl) rfl rfl (by (try simp only [List.map_toArray, List.map_cons, List.map_nil]); first | done | rfl | (simp only [List.length_drop, List.length_take]; rfl)) ?_
      with_reducible refine (spec_l12word.calls t514 (decide (a0_9 ≥ 0)) ((⟨#[109, 105, 110, 45, 102, 114, 101, 115, 104, 61]⟩ : ByteArray) ++ t515) t516 _ A21.out).mono ?_
      rintro e w' ⟨rfl, ⟨nd, rfl⟩⟩
      refine ⟨_, rfl, ?_⟩
      refine hK.out _ _ ⟨(blk_cell BK501.out 0).trans rfl, (blk_cell BK501.out 1).trans rfl, (blk_cell BK501.out 2).trans rfl, (blk_cell BK501.out 3).trans rfl, (blk_cell BK501.out 4).trans rfl, (blk_cell BK501.out 5).trans rfl, (blk_cell BK501.out 6).trans rfl, (blk_cell BK501.out 7).trans rfl, (blk_cell BK501.out 8).trans rfl, (blk_cell BK501.out 9).trans rfl⟩ (fun hHeld => ?_)
      clear hK K
      refine norm_ (a' := ?_) ?_ ?_
      rotate_left
      ·show Act.put _ (some 65) _ = _
       simp only [Act.put, List.setIfInBounds_toArray, List.set_cons_zero, List.set_cons_succ, i64_w, i32_w]
       rfl
      refine pure_ (i := 9) (N := some 2) (v := ?_) (a' := ?_) #[true, true, true, true, true, true, true, true, true, true] rfl rfl (any_of HT_.out (by kernel_rfl)) (fun _ _ _ h => h) (Or.inl ⟨by rfl, ?_⟩) ?_ ?_
      rotate_left
      ·intro w'
       go_simp
       with_reducible rfl
      rotate_left
      ·simp only [Act.put, List.setIfInBounds_toArray, List.set_cons_zero, List.set_cons_succ, i64_w, i32_w]
       rfl
      refine done_ (done_of HT_.out (by kernel_rfl)) ?_
      try go_wp2
      go_ret
      exact ⟨by first | rfl | (simp [errW_none, errW_some] <;> rfl) | (simp [*, errW_none, errW_some] <;> rfl), by repeat (first | (with_reducible first | exact HB.out | apply below_alloc | apply pw_below_drewN | apply below_drew1 | refine below_set ?_ GE501.out) | exact HB.out)⟩
     ·rw [if_neg c20] at H
      exact absurd H (by simp)
    ·rw [if_neg c17] at H
     exact absurd H (by simp)
   ·rw [if_neg c14] at H
    exact absurd H (by simp)
  ·rw [if_neg c11] at H
   exact absurd H (by simp)
 ·replace c3 := Bool.eq_false_iff.mpr c3
  subst c3
  have H1 : (some (⟨#[]⟩ : ByteArray)) = some r := by rw [if_neg (show ¬ (false = true) by decide)] at H; exact H
  clear H
  have H := H1
  clear H1
  obtain rfl := Option.some.inj H
  go_enter Tryd.func6, Tryd.ntmps6
  go_wp2_with (first | ((with_reducible refine gate_dst (N := 1) rfl ?_); refine box_event ?hg (N := 1) ?hd (cs := #[.bool a0_0, .bool a0_1, .bool a0_2, .bool a0_3, .bool a0_4, .bool a0_5, .int .i64 a0_6, .int .i64 a0_7, .int .i64 a0_8, .int .i64 a0_9]) (t := 25) ?hr ?_; (case hd => rfl); (case hg => rfl); (case hr => first | (go_simp; done) | (go_simp; rfl)); intro gb501 hg w34 hbox hb; have n0_ := Aside0.mk (below_step (by repeat (first | (with_reducible first | exact HB.out | apply below_alloc | apply pw_below_drewN | apply below_drew1) | exact HB.out)) hb); have n1_ := Aside0.mk (hbox); have n2_ := Aside0.mk ((by rw [hg]; exact (below_size (by repeat (first | (with_reducible first | exact HB.out | apply below_alloc | apply pw_below_drewN | apply below_drew1) | exact HB.out))) : w.heap.size ≤ gb501)); have n3_ := Aside0.mk ((by rw [hg]; exact (below_size (by repeat (first | (with_reducible first | exact HB.out | apply below_alloc | apply pw_below_drewN | apply below_drew1) | exact HB.out))) : w.heap.size ≤ gb501)); clear HB; have HB := n0_; have BK501 := n1_; have GW501 := n2_; have GE501 := n3_; clear n0_ n1_ n2_ n3_; clear hb hbox hg; have hcz35_0 : w34.cell? ⟨gb501, 0, none⟩ = some (.bool a0_0) := (blk_cell BK501.out 0).trans rfl; have hcz35_1 : w34.cell? ⟨gb501, 1, none⟩ = some (.bool a0_1) := (blk_cell BK501.out 1).trans rfl; have hcz35_2 : w34.cell? ⟨gb501, 2, none⟩ = some (.bool a0_2) := (blk_cell BK501.out 2).trans rfl; have hcz35_3 : w34.cell? ⟨gb501, 3, none⟩ = some (.bool a0_3) := (blk_cell BK501.out 3).trans rfl; have hcz35_4 : w34.cell? ⟨gb501, 4, none⟩ = some (.bool a0_4) := (blk_cell BK501.out 4).trans rfl; have hcz35_5 : w34.cell? ⟨gb501, 5, none⟩ = some (.bool a0_5) := (blk_cell BK501.out 5).trans rfl; have hcz35_6 : w34.cell? ⟨gb501, 6, none⟩ = some (.int .i64 a0_6) := (blk_cell BK501.out 6).trans rfl; have hcz35_7 : w34.cell? ⟨gb501, 7, none⟩ = some (.int .i64 a0_7) := (blk_cell BK501.out 7).trans rfl; have hcz35_8 : w34.cell? ⟨gb501, 8, none⟩ = some (.int .i64 a0_8) := (blk_cell BK501.out 8).trans rfl; have hcz35_9 : w34.cell? ⟨gb501, 9, none⟩ = some (.int .i64 a0_9) := (blk_cell BK501.out 9).trans rfl; have hfz35_0 := blk_frozen BK501.out 0; have hfz35_1 := blk_frozen BK501.out 1; have hfz35_2 := blk_frozen BK501.out 2; have hfz35_3 := blk_frozen BK501.out 3; have hfz35_4 := blk_frozen BK501.out 4; have hfz35_5 := blk_frozen BK501.out 5; have hfz35_6 := blk_frozen BK501.out 6; have hfz35_7 := blk_frozen BK501.out 7; have hfz35_8 := blk_frozen BK501.out 8; have hfz35_9 := blk_frozen BK501.out 9) | ((with_reducible refine gate_callee (f := 10) rfl ?_); refine goesL_ (some 5) rfl rfl Tryd.func10 (by kernel_rfl) rfl #[.agg #[.bool a0_0, .bool a0_1, .bool a0_2, .bool a0_3, .bool a0_4, .bool a0_5, .int .i64 a0_6, .int .i64 a0_7, .int .i64 a0_8, .int .i64 a0_9]] rfl (by (try simp only [List.map_toArray, List.map_cons, List.map_nil]); first | done | rfl | (simp only [List.length_drop, List.length_take]; rfl)) ?_; (with_reducible refine (spec_DirsOk.calls a0_0 a0_1 a0_2 a0_3 a0_4 a0_5 a0_6 a0_7 a0_8 a0_9 false _ A2.out).mono ?_); rintro e w36 ⟨rfl, hb⟩; refine ⟨_, rfl, ?_⟩; have n0_ := Aside0.mk (blk_below (g := gb501) (o := .cells #[.bool a0_0, .bool a0_1, .bool a0_2, .bool a0_3, .bool a0_4, .bool a0_5, .int .i64 a0_6, .int .i64 a0_7, .int .i64 a0_8, .int .i64 a0_9] 25 (0, 0)) (by (with_reducible repeat (first | refine blk_drewN ?_ _ | refine blk_drew ?_ | refine blk_alloc ?_ _)); exact BK501.out) hb); have n1_ := Aside0.mk (below_step (by repeat (first | (with_reducible first | exact HB.out | apply below_alloc | apply pw_below_drewN | apply below_drew1 | refine below_set ?_ GE501.out) | exact HB.out)) hb); clear BK501; clear HB; have BK501 := n0_; have HB := n1_; clear n0_ n1_; (try clear hb); (try clear hb2); (try clear hk); (try clear hi)))
  go_ret
  exact ⟨by first | rfl | (simp [errW_none, errW_some] <;> rfl) | (simp [*, errW_none, errW_some] <;> rfl), by repeat (first | (with_reducible first | exact HB.out | apply below_alloc | apply pw_below_drewN | apply below_drew1 | refine below_set ?_ GE501.out) | exact HB.out)⟩

end Go.Proofs.YtahgiblifkchaaaDoor.P
