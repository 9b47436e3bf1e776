-- Written by a program of ours (myprint.py, by way of the kit's print) out of Lean's print of the translation.
import Derived.Test.YtonmpnghlopnoaaGreatDoorPx0
import Derived.Test.YtonmpnghlopnoaaGreatDoorPxspec01e
import Derived.Test.YtonmpnghlopnoaaGreatDoorPxspec05a
import Derived.Test.YtonmpnghlopnoaaGreatDoorWC
namespace Go.Proofs.YtonmpnghlopnoaaGreatDoor.P
open Go.RowKit Go.Proofs.YtonmpnghlopnoaaGreatDoorW.PrintWords Go.Proofs.YtonmpnghlopnoaaGreatDoorW.PrintLast Go.Proofs.YtonmpnghlopnoaaGreatDoorW.PrintMore
attribute [local go_sem] max2_int min2_int max_two min_two max_three min_three max_four min_four   -- for this text's walks alone
set_option linter.unusedVariables false
set_option linter.unusedSimpArgs false

def spec_l6status.j0 : Nat → ByteArray → Bool → Option (ByteArray × ByteArray × Int × ByteArray × Bool × (List (S41)) × ByteArray × Bool)
 | 0, _, _ => none
 | k + 1, x0, x19 => if x19 = true then (some ((⟨#[]⟩ : ByteArray), (⟨#[]⟩ : ByteArray), 0, (⟨#[]⟩ : ByteArray), false, ([] : List (S41)), (⟨#[]⟩ : ByteArray), false)) else (if 9 ≤ 12 then (if 12 ≤ (x0.size : Int) then ((spec_ReadDec.f k (x0.extract 9 12)).bind fun bt135 => (if 13 ≤ (x0.size : Int) then (if bt135.2 = true then (if bt135.1 ≥ 200 then (if bt135.1 ≤ 599 then (if ((x0.extract 13 x0.size).size : Int) ≤ 40 then ((spec_l5plain.f k (x0.extract 13 x0.size)).bind fun t138 => (some ((⟨#[]⟩ : ByteArray), (⟨#[]⟩ : ByteArray), bt135.1, x0.extract 13 x0.size, false, ([] : List (S41)), (⟨#[]⟩ : ByteArray), t138))) else (some ((⟨#[]⟩ : ByteArray), (⟨#[]⟩ : ByteArray), bt135.1, x0.extract 13 x0.size, false, ([] : List (S41)), (⟨#[]⟩ : ByteArray), false))) else (some ((⟨#[]⟩ : ByteArray), (⟨#[]⟩ : ByteArray), bt135.1, x0.extract 13 x0.size, false, ([] : List (S41)), (⟨#[]⟩ : ByteArray), false))) else (some ((⟨#[]⟩ : ByteArray), (⟨#[]⟩ : ByteArray), bt135.1, x0.extract 13 x0.size, false, ([] : List (S41)), (⟨#[]⟩ : ByteArray), false))) else (some ((⟨#[]⟩ : ByteArray), (⟨#[]⟩ : ByteArray), bt135.1, x0.extract 13 x0.size, false, ([] : List (S41)), (⟨#[]⟩ : ByteArray), false))) else (none))) else (none)) else (none))
def spec_l6status.f (k : Nat) (a0 : ByteArray) : Option (ByteArray × ByteArray × Int × ByteArray × Bool × (List (S41)) × ByteArray × Bool) := if (a0.size : Int) < 13 then (spec_l6status.j0 k a0 true) else (if 0 ≤ 9 then (if 9 ≤ (a0.size : Int) then (if (a0.extract 0 9).toList = ([72, 84, 84, 80, 47, 49, 46, 49, 32] : List UInt8) then (if 12 < (a0.size : Int) then (spec_l6status.j0 k a0 ((bt a0 12) != 32)) else (none)) else (spec_l6status.j0 k a0 true)) else (none)) else (none))
theorem spec_l6status.mono_l : ∀ k, (∀ y0 y1, LeO (spec_l6status.j0 k y0 y1) (spec_l6status.j0 (k + 1) y0 y1))
 | 0 => fun _ _ r h => by simp [spec_l6status.j0] at h
 | k + 1 => by
  have ih0 := spec_l6status.mono_l k
  ·intro y0 y1
   unfold spec_l6status.j0
   repeat' first
   | (with_reducible exact ih0 _ _)
   | (with_reducible exact spec_ReadDec.mono _ _)
   | (with_reducible exact spec_l5plain.mono _ _)
   | (with_reducible exact LeO.refl _)
   | (with_reducible exact LeO.none _)
   | (with_reducible refine LeO.ite ?_ ?_)
   | (with_reducible refine LeO.bind ?_ (fun _ => ?_))
   | exact ih0 _ _
   | exact spec_ReadDec.mono _ _
   | exact spec_l5plain.mono _ _
   | exact LeO.none _
   | refine LeO.ite ?_ ?_
   | refine LeO.bind ?_ (fun _ => ?_)
theorem spec_l6status.mono : ∀ a0 k, LeO (spec_l6status.f k a0) (spec_l6status.f (k + 1) a0) := by
 intro a0 k
 have ih0 := spec_l6status.mono_l k
 unfold spec_l6status.f
 repeat' first
   | (with_reducible exact ih0 _ _)
   | (with_reducible exact spec_ReadDec.mono _ _)
   | (with_reducible exact spec_l5plain.mono _ _)
   | (with_reducible exact LeO.refl _)
   | (with_reducible exact LeO.none _)
   | (with_reducible refine LeO.ite ?_ ?_)
   | (with_reducible refine LeO.bind ?_ (fun _ => ?_))
   | exact ih0 _ _
   | exact spec_ReadDec.mono _ _
   | exact spec_l5plain.mono _ _
   | exact LeO.none _
   | refine LeO.ite ?_ ?_
   | refine LeO.bind ?_ (fun _ => ?_)
def spec_l6status.T5 : Bool × List (List Nat × List Nat) := (true, [([], []), ([], []), ([1], [1]), ([2], [2]), ([3, 2], [2, 3]), ([2, 4], [2, 4]), ([5, 2], [5]), ([6], [6]), ([7, 6], [6, 7]), ([6, 8], [6, 8]), ([9, 6], [9]), ([10], [10]), ([11, 10], [10, 11]), ([12, 10], [10, 12]), ([13, 10], [10, 13]), ([10, 14], [10, 14]), ([15, 10], [15]), ([16], [16]), ([17, 16], [16, 17]), ([18, 16, 16], [16, 18]), ([16, 19], [16, 19]), ([0, 19, 0], [0]), ([20, 21, 0, 1, 2, 3, 4, 5, 6, 7, 8, 9, 10, 11, 12, 13, 14, 15, 16, 17, 18, 19, 20, 21], [20])])
def spec_l6status.B5 : List Nat := [0, 0, 2, 6, 14, 30, 62, 126, 254, 510, 1022, 2046, 4094, 8190, 16382, 32766, 65534, 131070, 262142, 524286, 1048574, 1048575, 4194303]
theorem spec_l6status.tab5 : rtab .any (opsOf Tryz.f16 5) = spec_l6status.T5 := by kernel_rfl
theorem spec_l6status.bits5 : waitsOk spec_l6status.T5.2 spec_l6status.B5 = true := by kernel_rfl
set_option maxHeartbeats 8000000 in
set_option maxRecDepth 100000 in
theorem spec_l6status.calls (k : Nat) (a0 : ByteArray) (r1 : ByteArray) (r2 : ByteArray) (r3 : Int) (r4 : ByteArray) (r5 : Bool) (r6 : List (S41)) (r7 : ByteArray) (r8 : Bool) (w : World) (h : spec_l6status.f k a0 = some (r1, r2, r3, r4, r5, r6, r7, r8)) :
  Calls Tryz.prog 16 #[.string a0] w fun e w' => ∃ v5_ : Value, e = .returned (.tuple #[.agg #[.string r1, .string r2, .int .i64 r3, .string r4, .bool r5, v5_, .string r7], .bool r8]) ∧ Kd.R k41 41 w' w.heap.size (fun _ => True) v5_ r6 ∧ Below w.heap.size w w' := by
 have hu24 := Tryz.underlying24
 have HB := Aside0.mk (Below.refl w.heap.size w)
 have H : (if (a0.size : Int) < 13 then (spec_l6status.j0 k a0 true) else (if 0 ≤ 9 then (if 9 ≤ (a0.size : Int) then (if (a0.extract 0 9).toList = ([72, 84, 84, 80, 47, 49, 46, 49, 32] : List UInt8) then (if 12 < (a0.size : Int) then (spec_l6status.j0 k a0 ((bt a0 12) != 32)) else (none)) else (spec_l6status.j0 k a0 true)) else (none)) else (none))) = some (r1, r2, r3, r4, r5, r6, r7, r8) := h
 clear h
 have HC2 := Aside0.mk H
 clear H
 go_enter Tryz.func16, Tryz.ntmps16
 go_upto_region 1 with (first | ((with_reducible refine gate_dst (N := 2) rfl ?_); refine boxG #[.string (⟨#[]⟩ : ByteArray), .string (⟨#[]⟩ : ByteArray), .int .i64 0, .string (⟨#[]⟩ : ByteArray), .bool false, .slice none 0 0, .string (⟨#[]⟩ : ByteArray)] 24 ?_; intro gb134 hg w3 hbox hb; have BK134 := Aside0.mk (hbox); have GE134 := geA hg; replace HB := beA hb; clear hb hbox hg))
 (try simp only [Act.put, List.setIfInBounds_toArray, List.set_cons_zero, List.set_cons_succ])
 go_cut [19] (fun v19 wc => ∃ (kq : Nat) (x19_1 : Bool), v19 = .bool x19_1 ∧ Aside0 (spec_l6status.j0 kq a0 x19_1 = some (r1, r2, r3, r4, r5, r6, r7, r8)) ∧ Aside0 (kq ≤ k) ∧ Aside0 (wc.heap[gb134]? = some (.cells #[.string (⟨#[]⟩ : ByteArray), .string (⟨#[]⟩ : ByteArray), .int .i64 0, .string (⟨#[]⟩ : ByteArray), .bool false, (.slice none 0 0), .string (⟨#[]⟩ : ByteArray)] 24 (0, 0))) ∧ Aside0 (Below w.heap.size w wc))
 case first =>
  have H := HC2.out
  clear HC2
  by_cases c4 : (a0.size : Int) < 13
  ·rw [if_pos c4] at H
   have c4b0 := decide_eq_true c4
   have c4b1 : decide (a0.size < 13) = true := decide_eq_true (by omega)
   clear c4
   (first | rw [c4b0] | (simp only [i64_w, i32_w]; rw [c4b0]) | skip)
   have H' := Aside0.mk H
   clear H
   go_wp2
   go_meet
   case rel => exact ⟨_, (true), gq4, H', ⟨gq20⟩, ⟨gBk⟩, ⟨gBe⟩⟩
  ·rw [if_neg c4] at H
   have c4b0 := decide_eq_false c4
   have c4b1 : decide (a0.size < 13) = false := decide_eq_false (by omega)
   clear c4
   (first | rw [c4b0] | (simp only [i64_w, i32_w]; rw [c4b0]) | skip)
   by_cases c5 : 0 ≤ 9
   ·rw [if_pos c5] at H
    have c5b0 := eq_true c5
    have c5b1 := decide_eq_true c5
    clear c5
    by_cases c6 : 9 ≤ (a0.size : Int)
    ·rw [if_pos c6] at H
     have c6b0 := eq_true c6
     have c6b1 := decide_eq_true c6
     clear c6
     by_cases c7 : (a0.extract 0 9).toList = ([72, 84, 84, 80, 47, 49, 46, 49, 32] : List UInt8)
     ·rw [if_pos c7] at H
      have c7b0 : ((a0.extract 0 9).toList == ([72, 84, 84, 80, 47, 49, 46, 49, 32] : List UInt8)) = true := beq_iff_eq.mpr c7
      have c7b1 : ((a0.extract 0 9).toList != ([72, 84, 84, 80, 47, 49, 46, 49, 32] : List UInt8)) = false := bne_eq_false_iff_eq.mpr c7
      clear c7
      by_cases c8 : 12 < (a0.size : Int)
      ·rw [if_pos c8] at H
       have c8b0 := decide_eq_true c8
       have c8b1 : decide (12 < a0.size) = true := decide_eq_true (by omega)
       clear c8
       have H' := Aside0.mk H
       clear H
       have p9 : 0 ≤ (12 : Int) := (by omega)
       have q9 : 12 < a0.size := (by have : (12 : Int) < (a0.size : Int) := of_decide_eq_true gq3; omega)
       have hx9 : ∀ h : 12 < a0.size, ((a0[12]'h).toNat : Int) = bt a0 12 := bt_at a0 12
       clear p9
       have qi9 : (12 < (a0.size : Int)) = True := eq_true (of_decide_eq_true gq3)
       replace q9 := eq_true q9
       go_wp2
       go_meet
       case rel => exact ⟨_, (((bt a0 12) != 32)), gq4, H', ⟨gq20⟩, ⟨gBk⟩, ⟨gBe⟩⟩
      ·rw [if_neg c8] at H
       exact absurd H (by simp)
     ·rw [if_neg c7] at H
      have c7b0 : ((a0.extract 0 9).toList == ([72, 84, 84, 80, 47, 49, 46, 49, 32] : List UInt8)) = false := beq_eq_false_iff_ne.mpr c7
      have c7b1 : ((a0.extract 0 9).toList != ([72, 84, 84, 80, 47, 49, 46, 49, 32] : List UInt8)) = true := bne_iff_ne.mpr c7
      have H' := Aside0.mk H
      clear H
      go_wp2
      go_meet
      case rel => exact ⟨_, (true), gq4, H', ⟨gq20⟩, ⟨gBk⟩, ⟨gBe⟩⟩
    ·rw [if_neg c6] at H
     exact absurd H (by simp)
   ·rw [if_neg c5] at H
    exact absurd H (by simp)
 case rest =>
  clear HC2
  try clear c1
  try clear p2
  try clear c4
  try clear c4b0
  try clear c4b1
  try clear c5
  try clear c5b0
  try clear c5b1
  try clear c6
  try clear c6b0
  try clear c6b1
  try clear c7
  try clear c7b0
  try clear c7b1
  try clear c8
  try clear c8b0
  try clear c8b1
  try clear p9
  try clear q9
  try clear hx9
  try clear qi9
  try clear p9
  try clear q9
  obtain ⟨kq, x19_1, rfl, HA, HJ1, BK134, HB⟩ := hcut
  cases kq with
  | zero => exact absurd HA.out (by simp [spec_l6status.j0])
  | succ kj1 =>
   have H := HA.out
   clear HA
   simp only [spec_l6status.j0] at H
   by_cases c10 : x19_1 = true
   ·subst c10
    have H1 : (some ((⟨#[]⟩ : ByteArray), (⟨#[]⟩ : ByteArray), 0, (⟨#[]⟩ : ByteArray), false, ([] : List (S41)), (⟨#[]⟩ : ByteArray), false)) = some (r1, r2, r3, r4, r5, r6, r7, r8) := by rw [if_pos rfl] at H; exact H
    clear H
    have H := H1
    clear H1
    simp only [Option.some.injEq, Prod.mk.injEq] at H
    obtain ⟨rfl, rfl, rfl, rfl, rfl, rfl, rfl, rfl⟩ := H
    have hcz11_0 := cz0 BK134
    have hcz11_1 := cz1 BK134
    have hcz11_2 := cz2 BK134
    have hcz11_3 := cz3 BK134
    have hcz11_4 := cz4 BK134
    have hcz11_5 := cz5 BK134
    have hcz11_6 := cz6 BK134
    have hfz11_0 := blk_frozen BK134.out 0
    have hfz11_1 := blk_frozen BK134.out 1
    have hfz11_2 := blk_frozen BK134.out 2
    have hfz11_3 := blk_frozen BK134.out 3
    have hfz11_4 := blk_frozen BK134.out 4
    have hfz11_5 := blk_frozen BK134.out 5
    have hfz11_6 := blk_frozen BK134.out 6
    go_wp2
    refine rctA gb134 24 #[.string (⟨#[]⟩ : ByteArray), .string (⟨#[]⟩ : ByteArray), .int .i64 0, .string (⟨#[]⟩ : ByteArray), .bool false, .slice none 0 0, .string (⟨#[]⟩ : ByteArray)] Tryz.underlying24 ?_
    exact ⟨_, gq2, gq6, gBe⟩
   ·replace c10 := Bool.eq_false_iff.mpr c10
    subst c10
    have H1 : (if 9 ≤ 12 then (if 12 ≤ (a0.size : Int) then ((spec_ReadDec.f kj1 (a0.extract 9 12)).bind fun bt135 => (if 13 ≤ (a0.size : Int) then (if bt135.2 = true then (if bt135.1 ≥ 200 then (if bt135.1 ≤ 599 then (if ((a0.extract 13 a0.size).size : Int) ≤ 40 then ((spec_l5plain.f kj1 (a0.extract 13 a0.size)).bind fun t138 => (some ((⟨#[]⟩ : ByteArray), (⟨#[]⟩ : ByteArray), bt135.1, a0.extract 13 a0.size, false, ([] : List (S41)), (⟨#[]⟩ : ByteArray), t138))) else (some ((⟨#[]⟩ : ByteArray), (⟨#[]⟩ : ByteArray), bt135.1, a0.extract 13 a0.size, false, ([] : List (S41)), (⟨#[]⟩ : ByteArray), false))) else (some ((⟨#[]⟩ : ByteArray), (⟨#[]⟩ : ByteArray), bt135.1, a0.extract 13 a0.size, false, ([] : List (S41)), (⟨#[]⟩ : ByteArray), false))) else (some ((⟨#[]⟩ : ByteArray), (⟨#[]⟩ : ByteArray), bt135.1, a0.extract 13 a0.size, false, ([] : List (S41)), (⟨#[]⟩ : ByteArray), false))) else (some ((⟨#[]⟩ : ByteArray), (⟨#[]⟩ : ByteArray), bt135.1, a0.extract 13 a0.size, false, ([] : List (S41)), (⟨#[]⟩ : ByteArray), false))) else (none))) else (none)) else (none)) = some (r1, r2, r3, r4, r5, r6, r7, r8) := by rw [if_neg (show ¬ (false = true) by decide)] at H; exact H
    clear H
    have H := H1
    clear H1
    obtain ⟨zp0, hzp0⟩ : ∃ z_ : ByteArray, a0.extract 13 a0.size = z_ := ⟨_, rfl⟩
    rw [hzp0] at H
    by_cases c12 : 9 ≤ 12
    ·rw [if_pos c12] at H
     have c12b0 := eq_true c12
     have c12b1 := decide_eq_true c12
     clear c12
     by_cases c13 : 12 ≤ (a0.size : Int)
     ·rw [if_pos c13] at H
      have c13b0 := eq_true c13
      have c13b1 := decide_eq_true c13
      clear c13
      replace H := Option.bind_eq_some_iff.mp H
      obtain ⟨⟨t135, t136⟩, A140, H⟩ := H
      replace H : (if 13 ≤ (a0.size : Int) then (if t136 = true then (if t135 ≥ 200 then (if t135 ≤ 599 then (if (zp0.size : Int) ≤ 40 then ((spec_l5plain.f kj1 zp0).bind fun t138 => (some ((⟨#[]⟩ : ByteArray), (⟨#[]⟩ : ByteArray), t135, zp0, false, ([] : List (S41)), (⟨#[]⟩ : ByteArray), t138))) else (some ((⟨#[]⟩ : ByteArray), (⟨#[]⟩ : ByteArray), t135, zp0, false, ([] : List (S41)), (⟨#[]⟩ : ByteArray), false))) else (some ((⟨#[]⟩ : ByteArray), (⟨#[]⟩ : ByteArray), t135, zp0, false, ([] : List (S41)), (⟨#[]⟩ : ByteArray), false))) else (some ((⟨#[]⟩ : ByteArray), (⟨#[]⟩ : ByteArray), t135, zp0, false, ([] : List (S41)), (⟨#[]⟩ : ByteArray), false))) else (some ((⟨#[]⟩ : ByteArray), (⟨#[]⟩ : ByteArray), t135, zp0, false, ([] : List (S41)), (⟨#[]⟩ : ByteArray), false))) else (none)) = some (r1, r2, r3, r4, r5, r6, r7, r8) := H
      have A14 := Aside0.mk A140
      clear A140
      by_cases c15 : 13 ≤ (a0.size : Int)
      ·rw [if_pos c15] at H
       have c15b0 := eq_true c15
       have c15b1 := decide_eq_true c15
       clear c15
       by_cases c16 : t136 = true
       ·subst c16
        have H1 : (if t135 ≥ 200 then (if t135 ≤ 599 then (if (zp0.size : Int) ≤ 40 then ((spec_l5plain.f kj1 zp0).bind fun t138 => (some ((⟨#[]⟩ : ByteArray), (⟨#[]⟩ : ByteArray), t135, zp0, false, ([] : List (S41)), (⟨#[]⟩ : ByteArray), t138))) else (some ((⟨#[]⟩ : ByteArray), (⟨#[]⟩ : ByteArray), t135, zp0, false, ([] : List (S41)), (⟨#[]⟩ : ByteArray), false))) else (some ((⟨#[]⟩ : ByteArray), (⟨#[]⟩ : ByteArray), t135, zp0, false, ([] : List (S41)), (⟨#[]⟩ : ByteArray), false))) else (some ((⟨#[]⟩ : ByteArray), (⟨#[]⟩ : ByteArray), t135, zp0, false, ([] : List (S41)), (⟨#[]⟩ : ByteArray), false))) = some (r1, r2, r3, r4, r5, r6, r7, r8) := by rw [if_pos rfl] at H; exact H
        clear H
        have H := H1
        clear H1
        by_cases c17 : t135 ≥ 200
        ·rw [if_pos c17] at H
         have c17b0 : decide (200 ≤ t135) = true := decide_eq_true c17
         clear c17
         by_cases c18 : t135 ≤ 599
         ·rw [if_pos c18] at H
          have c18b0 := decide_eq_true c18
          clear c18
          by_cases c19 : (zp0.size : Int) ≤ 40
          ·rw [if_pos c19] at H
           have c19b0 := decide_eq_true c19
           have c19b1 : decide (zp0.size ≤ 40) = true := decide_eq_true (by omega)
           clear c19
           replace H := Option.bind_eq_some_iff.mp H
           obtain ⟨t138, A200, H⟩ := H
           replace H : (some ((⟨#[]⟩ : ByteArray), (⟨#[]⟩ : ByteArray), t135, zp0, false, ([] : List (S41)), (⟨#[]⟩ : ByteArray), t138)) = some (r1, r2, r3, r4, r5, r6, r7, r8) := H
           have A20 := Aside0.mk A200
           clear A200
           simp only [Option.some.injEq, Prod.mk.injEq] at H
           obtain ⟨rfl, rfl, rfl, rfl, rfl, rfl, rfl, rfl⟩ := H
           try go_wp2_with (first | ((with_reducible refine gate_callee (f := 28) rfl ?_); refine goesL_ (some 24) rfl rfl Tryz.func28 (by kernel_rfl) rfl #[.string (a0.extract 9 12)] rfl gq1 ?_; (with_reducible refine (spec_ReadDec.calls kj1 (a0.extract 9 12) t135 true _ A14.out).mono ?_); rintro e w21 ⟨rfl, hb⟩; refine ⟨_, rfl, ?_⟩; replace BK134 := blA (g := gb134) hb; replace HB := beA hb; (try clear hb); (try clear hb2); (try clear hk); (try clear hi)) | ((with_reducible refine gate_dst (N := 6) rfl ?_); refine boxG #[.string (⟨#[]⟩ : ByteArray), .string (⟨#[]⟩ : ByteArray), .int .i64 0, .string (⟨#[]⟩ : ByteArray), .bool false, .slice none 0 0, .string (⟨#[]⟩ : ByteArray)] 24 ?_; intro gb137 hg w22 hbox hb; have BK137 := Aside0.mk (hbox); have GW137 := geA hg; have GE137 := geA hg; have NB134_137 := neA (g := gb134) hg; have NB137_134 := neB NB134_137; replace BK134 := blA (g := gb134) hb; replace HB := beA hb; clear hb hbox hg; have hnb23 := NB137_134.out; have hnc23 := NB134_137.out; have hcz24_0 := cz0 BK137; have hcz24_1 := cz1 BK137; have hcz24_2 := cz2 BK137; have hcz24_3 := cz3 BK137; have hcz24_4 := cz4 BK137; have hcz24_5 := cz5 BK137; have hcz24_6 := cz6 BK137; have hfz24_0 := blk_frozen BK137.out 0; have hfz24_1 := blk_frozen BK137.out 1; have hfz24_2 := blk_frozen BK137.out 2; have hfz24_3 := blk_frozen BK137.out 3; have hfz24_4 := blk_frozen BK137.out 4; have hfz24_5 := blk_frozen BK137.out 5; have hfz24_6 := blk_frozen BK137.out 6))
           have n0_ : Aside0 ((((((((w22.setCell ⟨gb137, 0, none⟩ (.string (⟨#[]⟩ : ByteArray))).setCell ⟨gb137, 1, none⟩ (.string (⟨#[]⟩ : ByteArray))).setCell ⟨gb137, 2, none⟩ (.int .i64 t135)).setCell ⟨gb137, 3, none⟩ (.string zp0)).setCell ⟨gb137, 4, none⟩ (.bool false)).setCell ⟨gb137, 5, none⟩ (.slice none 0 0)).setCell ⟨gb137, 6, none⟩ (.string (⟨#[]⟩ : ByteArray))).heap[gb134]? = some (.cells #[.string (⟨#[]⟩ : ByteArray), .string (⟨#[]⟩ : ByteArray), .int .i64 0, .string (⟨#[]⟩ : ByteArray), .bool false, .slice none 0 0, .string (⟨#[]⟩ : ByteArray)] 24 (0, 0))) := ⟨gBk⟩
           have n1_ : Aside0 ((((((((w22.setCell ⟨gb137, 0, none⟩ (.string (⟨#[]⟩ : ByteArray))).setCell ⟨gb137, 1, none⟩ (.string (⟨#[]⟩ : ByteArray))).setCell ⟨gb137, 2, none⟩ (.int .i64 t135)).setCell ⟨gb137, 3, none⟩ (.string zp0)).setCell ⟨gb137, 4, none⟩ (.bool false)).setCell ⟨gb137, 5, none⟩ (.slice none 0 0)).setCell ⟨gb137, 6, none⟩ (.string (⟨#[]⟩ : ByteArray))).heap[gb137]? = some (.cells #[.string (⟨#[]⟩ : ByteArray), .string (⟨#[]⟩ : ByteArray), .int .i64 t135, .string zp0, .bool false, .slice none 0 0, .string (⟨#[]⟩ : ByteArray)] 24 (0, 0))) := ⟨gBk⟩
           have n2_ : Aside0 (Below w.heap.size w (((((((w22.setCell ⟨gb137, 0, none⟩ (.string (⟨#[]⟩ : ByteArray))).setCell ⟨gb137, 1, none⟩ (.string (⟨#[]⟩ : ByteArray))).setCell ⟨gb137, 2, none⟩ (.int .i64 t135)).setCell ⟨gb137, 3, none⟩ (.string zp0)).setCell ⟨gb137, 4, none⟩ (.bool false)).setCell ⟨gb137, 5, none⟩ (.slice none 0 0)).setCell ⟨gb137, 6, none⟩ (.string (⟨#[]⟩ : ByteArray)))) := ⟨gBe⟩
           (try clear BK134)
           (try clear BK137)
           (try clear HB)
           generalize (((((((w22.setCell ⟨gb137, 0, none⟩ (.string (⟨#[]⟩ : ByteArray))).setCell ⟨gb137, 1, none⟩ (.string (⟨#[]⟩ : ByteArray))).setCell ⟨gb137, 2, none⟩ (.int .i64 t135)).setCell ⟨gb137, 3, none⟩ (.string zp0)).setCell ⟨gb137, 4, none⟩ (.bool false)).setCell ⟨gb137, 5, none⟩ (.slice none 0 0)).setCell ⟨gb137, 6, none⟩ (.string (⟨#[]⟩ : ByteArray))) = w25 at n0_ n1_ n2_ ⊢
           have BK134 := n0_
           have BK137 := n1_
           have HB := n2_
           clear n0_ n1_ n2_
           replace BK134 := Aside0.mk (blk_drew BK134.out)
           replace BK137 := Aside0.mk (blk_drew BK137.out)
           replace HB := Aside0.mk (below_drew1 HB.out)
           refine start_ (n := 23) (S := fun w' => w'.cell? ⟨gb137, 0, none⟩ = some (.string (⟨#[]⟩ : ByteArray)) ∧ w'.cell? ⟨gb137, 1, none⟩ = some (.string (⟨#[]⟩ : ByteArray)) ∧ w'.cell? ⟨gb137, 2, none⟩ = some (.int .i64 t135) ∧ w'.cell? ⟨gb137, 3, none⟩ = some (.string zp0) ∧ w'.cell? ⟨gb137, 4, none⟩ = some (.bool false) ∧ w'.cell? ⟨gb137, 5, none⟩ = some (.slice none 0 0) ∧ w'.cell? ⟨gb137, 6, none⟩ = some (.string (⟨#[]⟩ : ByteArray))) (ds := []) #[false, false, false, false, false, false, false, false, false, false, false, false, false, false, false, false, false, false, false, false, false, false, false] (by kernel_rfl) rfl rfl ⟨(blk_cell BK137.out 0).trans rfl, (blk_cell BK137.out 1).trans rfl, (blk_cell BK137.out 2).trans rfl, (blk_cell BK137.out 3).trans rfl, (blk_cell BK137.out 4).trans rfl, (blk_cell BK137.out 5).trans rfl, (blk_cell BK137.out 6).trans rfl⟩ (fun hHeld => ?_); refine with_tabW spec_l6status.tab5 spec_l6status.bits5 (fun HT_ HW_ => ?_)
           generalize w25.drew = w26 at BK134 BK137 HB hHeld ⊢
           refine pureT 1 (some 32) ?_
           refine pureT 2 (some 33) ?_
           refine pureT 3 (some 34) ?_
           refine pureT 4 (some 35) ?_
           refine pureT 5 (some 36) ?_
           refine pureT 6 (some 37) ?_
           refine pureT 7 (some 38) ?_
           refine pureT 8 (some 39) ?_
           refine pureT 9 (some 40) ?_
           refine pureT 10 (some 41) ?_
           refine pureT 11 (some 42) ?_
           refine takeT_ 0 (some 31) (hy := Or.inl ⟨by rfl, gq18⟩) ?_
           refine takeT_ 12 (some 43) (hy := Or.inl ⟨by rfl, gq18⟩) ?_
           refine pureT 13 (some 44) ?_
           refine pureT 14 (some 45) ?_
           refine pureT 15 (some 46) ?_
           refine pureT 16 (some 47) ?_
           refine pureT 17 (some 48) ?_
           refine takeT_ 18 (some 49) (hy := Or.inl ⟨by rfl, gq18⟩) ?_
           refine one_ (i := 19) (N := some 50) #[true, true, true, true, true, true, true, true, true, true, true, true, true, true, true, true, true, true, true, true, false, false, false] rfl rfl (one_of HT_.out (by kernel_rfl)) (by decide) (fun K hK => ?_)
           refine goes_ Tryz.func29 (by kernel_rfl) rfl #[.string zp0] (by rfl) rfl rfl gq1 ?_
           with_reducible refine (spec_l5plain.calls kj1 zp0 t138 _ A20.out).mono ?_
           rintro e w' ⟨rfl, ⟨nd, rfl⟩⟩
           refine ⟨_, rfl, ?_⟩
           refine hK.out _ _ ⟨(blk_cell BK137.out 0).trans rfl, (blk_cell BK137.out 1).trans rfl, (blk_cell BK137.out 2).trans rfl, (blk_cell BK137.out 3).trans rfl, (blk_cell BK137.out 4).trans rfl, (blk_cell BK137.out 5).trans rfl, (blk_cell BK137.out 6).trans rfl⟩ (fun hHeld => ?_)
           clear hK K
           refine normA (some 50) ?_
           refine pureT 20 (some 51) ?_
           refine one_ (i := 21) (N := none) #[true, true, true, true, true, true, true, true, true, true, true, true, true, true, true, true, true, true, true, true, true, true, false] rfl rfl (one_of HT_.out (by kernel_rfl)) (by decide) (fun K hK => ?_)
           have hs27 := cz0 BK134
           have hfs27 := blk_frozen BK134.out 0
           have hns27_1 := NB137_134.out
           have hms27_1 := NB134_137.out
           have hs28 := cz1 BK134
           have hfs28 := blk_frozen BK134.out 1
           have hns28_1 := NB137_134.out
           have hms28_1 := NB134_137.out
           have hs29 := cz2 BK134
           have hfs29 := blk_frozen BK134.out 2
           have hns29_1 := NB137_134.out
           have hms29_1 := NB134_137.out
           have hs30 := cz3 BK134
           have hfs30 := blk_frozen BK134.out 3
           have hns30_1 := NB137_134.out
           have hms30_1 := NB134_137.out
           have hs31 := cz4 BK134
           have hfs31 := blk_frozen BK134.out 4
           have hns31_1 := NB137_134.out
           have hms31_1 := NB134_137.out
           have hs32 := cz5 BK134
           have hfs32 := blk_frozen BK134.out 5
           have hns32_1 := NB137_134.out
           have hms32_1 := NB134_137.out
           have hs33 := cz6 BK134
           have hfs33 := blk_frozen BK134.out 6
           have hns33_1 := NB137_134.out
           have hms33_1 := NB134_137.out
           refine skip_ (w1 := ?_) (by rfl) rfl ?_ ?_
           rotate_left
           ·go_simp
            rfl
           refine hK.out _ _ ⟨((cell_far (p := ⟨gb134, _, none⟩) NB137_134.out _).trans (((cell_far (p := ⟨gb134, _, none⟩) NB137_134.out _).trans (((cell_far (p := ⟨gb134, _, none⟩) NB137_134.out _).trans (((cell_far (p := ⟨gb134, _, none⟩) NB137_134.out _).trans (((cell_far (p := ⟨gb134, _, none⟩) NB137_134.out _).trans (((cell_far (p := ⟨gb134, _, none⟩) NB137_134.out _).trans (((cell_far (p := ⟨gb134, _, none⟩) NB137_134.out _).trans (hHeld.1)))))))))))))), ((cell_far (p := ⟨gb134, _, none⟩) NB137_134.out _).trans (((cell_far (p := ⟨gb134, _, none⟩) NB137_134.out _).trans (((cell_far (p := ⟨gb134, _, none⟩) NB137_134.out _).trans (((cell_far (p := ⟨gb134, _, none⟩) NB137_134.out _).trans (((cell_far (p := ⟨gb134, _, none⟩) NB137_134.out _).trans (((cell_far (p := ⟨gb134, _, none⟩) NB137_134.out _).trans (((cell_far (p := ⟨gb134, _, none⟩) NB137_134.out _).trans (hHeld.2.1)))))))))))))), ((cell_far (p := ⟨gb134, _, none⟩) NB137_134.out _).trans (((cell_far (p := ⟨gb134, _, none⟩) NB137_134.out _).trans (((cell_far (p := ⟨gb134, _, none⟩) NB137_134.out _).trans (((cell_far (p := ⟨gb134, _, none⟩) NB137_134.out _).trans (((cell_far (p := ⟨gb134, _, none⟩) NB137_134.out _).trans (((cell_far (p := ⟨gb134, _, none⟩) NB137_134.out _).trans (((cell_far (p := ⟨gb134, _, none⟩) NB137_134.out _).trans (hHeld.2.2.1)))))))))))))), ((cell_far (p := ⟨gb134, _, none⟩) NB137_134.out _).trans (((cell_far (p := ⟨gb134, _, none⟩) NB137_134.out _).trans (((cell_far (p := ⟨gb134, _, none⟩) NB137_134.out _).trans (((cell_far (p := ⟨gb134, _, none⟩) NB137_134.out _).trans (((cell_far (p := ⟨gb134, _, none⟩) NB137_134.out _).trans (((cell_far (p := ⟨gb134, _, none⟩) NB137_134.out _).trans (((cell_far (p := ⟨gb134, _, none⟩) NB137_134.out _).trans (hHeld.2.2.2.1)))))))))))))), ((cell_far (p := ⟨gb134, _, none⟩) NB137_134.out _).trans (((cell_far (p := ⟨gb134, _, none⟩) NB137_134.out _).trans (((cell_far (p := ⟨gb134, _, none⟩) NB137_134.out _).trans (((cell_far (p := ⟨gb134, _, none⟩) NB137_134.out _).trans (((cell_far (p := ⟨gb134, _, none⟩) NB137_134.out _).trans (((cell_far (p := ⟨gb134, _, none⟩) NB137_134.out _).trans (((cell_far (p := ⟨gb134, _, none⟩) NB137_134.out _).trans (hHeld.2.2.2.2.1)))))))))))))), ((cell_far (p := ⟨gb134, _, none⟩) NB137_134.out _).trans (((cell_far (p := ⟨gb134, _, none⟩) NB137_134.out _).trans (((cell_far (p := ⟨gb134, _, none⟩) NB137_134.out _).trans (((cell_far (p := ⟨gb134, _, none⟩) NB137_134.out _).trans (((cell_far (p := ⟨gb134, _, none⟩) NB137_134.out _).trans (((cell_far (p := ⟨gb134, _, none⟩) NB137_134.out _).trans (((cell_far (p := ⟨gb134, _, none⟩) NB137_134.out _).trans (hHeld.2.2.2.2.2.1)))))))))))))), ((cell_far (p := ⟨gb134, _, none⟩) NB137_134.out _).trans (((cell_far (p := ⟨gb134, _, none⟩) NB137_134.out _).trans (((cell_far (p := ⟨gb134, _, none⟩) NB137_134.out _).trans (((cell_far (p := ⟨gb134, _, none⟩) NB137_134.out _).trans (((cell_far (p := ⟨gb134, _, none⟩) NB137_134.out _).trans (((cell_far (p := ⟨gb134, _, none⟩) NB137_134.out _).trans (((cell_far (p := ⟨gb134, _, none⟩) NB137_134.out _).trans (hHeld.2.2.2.2.2.2))))))))))))))⟩ (fun hHeld => ?_)
           clear hK K
           refine pureT 22 (some 3) ?_
           refine done_ (done_of HT_.out (by kernel_rfl)) ?_
           try go_wp2
           refine rctA gb134 24 #[.string (⟨#[]⟩ : ByteArray), .string (⟨#[]⟩ : ByteArray), .int .i64 t135, .string zp0, .bool false, .slice none 0 0, .string (⟨#[]⟩ : ByteArray)] Tryz.underlying24 ?_
           exact ⟨_, gq2, gq6, gBe⟩
          ·rw [if_neg c19] at H
           have c19b0 := decide_eq_false c19
           have c19b1 : decide (zp0.size ≤ 40) = false := decide_eq_false (by omega)
           clear c19
           simp only [Option.some.injEq, Prod.mk.injEq] at H
           obtain ⟨rfl, rfl, rfl, rfl, rfl, rfl, rfl, rfl⟩ := H
           try go_wp2_with (first | ((with_reducible refine gate_callee (f := 28) rfl ?_); refine goesL_ (some 24) rfl rfl Tryz.func28 (by kernel_rfl) rfl #[.string (a0.extract 9 12)] rfl gq1 ?_; (with_reducible refine (spec_ReadDec.calls kj1 (a0.extract 9 12) t135 true _ A14.out).mono ?_); rintro e w34 ⟨rfl, hb⟩; refine ⟨_, rfl, ?_⟩; replace BK134 := blA (g := gb134) hb; replace HB := beA hb; (try clear hb); (try clear hb2); (try clear hk); (try clear hi)) | ((with_reducible refine gate_dst (N := 6) rfl ?_); refine boxG #[.string (⟨#[]⟩ : ByteArray), .string (⟨#[]⟩ : ByteArray), .int .i64 0, .string (⟨#[]⟩ : ByteArray), .bool false, .slice none 0 0, .string (⟨#[]⟩ : ByteArray)] 24 ?_; intro gb137 hg w35 hbox hb; have BK137 := Aside0.mk (hbox); have GW137 := geA hg; have GE137 := geA hg; have NB134_137 := neA (g := gb134) hg; have NB137_134 := neB NB134_137; replace BK134 := blA (g := gb134) hb; replace HB := beA hb; clear hb hbox hg; have hnb36 := NB137_134.out; have hnc36 := NB134_137.out; have hcz37_0 := cz0 BK137; have hcz37_1 := cz1 BK137; have hcz37_2 := cz2 BK137; have hcz37_3 := cz3 BK137; have hcz37_4 := cz4 BK137; have hcz37_5 := cz5 BK137; have hcz37_6 := cz6 BK137; have hfz37_0 := blk_frozen BK137.out 0; have hfz37_1 := blk_frozen BK137.out 1; have hfz37_2 := blk_frozen BK137.out 2; have hfz37_3 := blk_frozen BK137.out 3; have hfz37_4 := blk_frozen BK137.out 4; have hfz37_5 := blk_frozen BK137.out 5; have hfz37_6 := blk_frozen BK137.out 6))
           have n0_ : Aside0 ((((((((w35.setCell ⟨gb137, 0, none⟩ (.string (⟨#[]⟩ : ByteArray))).setCell ⟨gb137, 1, none⟩ (.string (⟨#[]⟩ : ByteArray))).setCell ⟨gb137, 2, none⟩ (.int .i64 t135)).setCell ⟨gb137, 3, none⟩ (.string zp0)).setCell ⟨gb137, 4, none⟩ (.bool false)).setCell ⟨gb137, 5, none⟩ (.slice none 0 0)).setCell ⟨gb137, 6, none⟩ (.string (⟨#[]⟩ : ByteArray))).heap[gb134]? = some (.cells #[.string (⟨#[]⟩ : ByteArray), .string (⟨#[]⟩ : ByteArray), .int .i64 0, .string (⟨#[]⟩ : ByteArray), .bool false, .slice none 0 0, .string (⟨#[]⟩ : ByteArray)] 24 (0, 0))) := ⟨gBk⟩
           have n1_ : Aside0 ((((((((w35.setCell ⟨gb137, 0, none⟩ (.string (⟨#[]⟩ : ByteArray))).setCell ⟨gb137, 1, none⟩ (.string (⟨#[]⟩ : ByteArray))).setCell ⟨gb137, 2, none⟩ (.int .i64 t135)).setCell ⟨gb137, 3, none⟩ (.string zp0)).setCell ⟨gb137, 4, none⟩ (.bool false)).setCell ⟨gb137, 5, none⟩ (.slice none 0 0)).setCell ⟨gb137, 6, none⟩ (.string (⟨#[]⟩ : ByteArray))).heap[gb137]? = some (.cells #[.string (⟨#[]⟩ : ByteArray), .string (⟨#[]⟩ : ByteArray), .int .i64 t135, .string zp0, .bool false, .slice none 0 0, .string (⟨#[]⟩ : ByteArray)] 24 (0, 0))) := ⟨gBk⟩
           have n2_ : Aside0 (Below w.heap.size w (((((((w35.setCell ⟨gb137, 0, none⟩ (.string (⟨#[]⟩ : ByteArray))).setCell ⟨gb137, 1, none⟩ (.string (⟨#[]⟩ : ByteArray))).setCell ⟨gb137, 2, none⟩ (.int .i64 t135)).setCell ⟨gb137, 3, none⟩ (.string zp0)).setCell ⟨gb137, 4, none⟩ (.bool false)).setCell ⟨gb137, 5, none⟩ (.slice none 0 0)).setCell ⟨gb137, 6, none⟩ (.string (⟨#[]⟩ : ByteArray)))) := ⟨gBe⟩
           (try clear BK134)
           (try clear BK137)
           (try clear HB)
           generalize (((((((w35.setCell ⟨gb137, 0, none⟩ (.string (⟨#[]⟩ : ByteArray))).setCell ⟨gb137, 1, none⟩ (.string (⟨#[]⟩ : ByteArray))).setCell ⟨gb137, 2, none⟩ (.int .i64 t135)).setCell ⟨gb137, 3, none⟩ (.string zp0)).setCell ⟨gb137, 4, none⟩ (.bool false)).setCell ⟨gb137, 5, none⟩ (.slice none 0 0)).setCell ⟨gb137, 6, none⟩ (.string (⟨#[]⟩ : ByteArray))) = w38 at n0_ n1_ n2_ ⊢
           have BK134 := n0_
           have BK137 := n1_
           have HB := n2_
           clear n0_ n1_ n2_
           replace BK134 := Aside0.mk (blk_drew BK134.out)
           replace BK137 := Aside0.mk (blk_drew BK137.out)
           replace HB := Aside0.mk (below_drew1 HB.out)
           refine start_ (n := 23) (S := fun w' => w'.cell? ⟨gb137, 0, none⟩ = some (.string (⟨#[]⟩ : ByteArray)) ∧ w'.cell? ⟨gb137, 1, none⟩ = some (.string (⟨#[]⟩ : ByteArray)) ∧ w'.cell? ⟨gb137, 2, none⟩ = some (.int .i64 t135) ∧ w'.cell? ⟨gb137, 3, none⟩ = some (.string zp0) ∧ w'.cell? ⟨gb137, 4, none⟩ = some (.bool false) ∧ w'.cell? ⟨gb137, 5, none⟩ = some (.slice none 0 0) ∧ w'.cell? ⟨gb137, 6, none⟩ = some (.string (⟨#[]⟩ : ByteArray))) (ds := []) #[false, false, false, false, false, false, false, false, false, false, false, false, false, false, false, false, false, false, false, false, false, false, false] (by kernel_rfl) rfl rfl ⟨(blk_cell BK137.out 0).trans rfl, (blk_cell BK137.out 1).trans rfl, (blk_cell BK137.out 2).trans rfl, (blk_cell BK137.out 3).trans rfl, (blk_cell BK137.out 4).trans rfl, (blk_cell BK137.out 5).trans rfl, (blk_cell BK137.out 6).trans rfl⟩ (fun hHeld => ?_); refine with_tabW spec_l6status.tab5 spec_l6status.bits5 (fun HT_ HW_ => ?_)
           generalize w38.drew = w39 at BK134 BK137 HB hHeld ⊢
           refine pureT 1 (some 32) ?_
           refine pureT 2 (some 33) ?_
           refine pureT 3 (some 34) ?_
           refine pureT 4 (some 35) ?_
           refine pureT 5 (some 36) ?_
           refine pureT 6 (some 37) ?_
           refine pureT 7 (some 38) ?_
           refine pureT 8 (some 39) ?_
           refine pureT 9 (some 40) ?_
           refine pureT 10 (some 41) ?_
           refine pureT 11 (some 42) ?_
           refine takeT_ 0 (some 31) (hy := Or.inl ⟨by rfl, gq18⟩) ?_
           refine takeT_ 12 (some 43) (hy := Or.inl ⟨by rfl, gq18⟩) ?_
           refine pureT 13 (some 44) ?_
           refine pureT 14 (some 45) ?_
           refine pureT 15 (some 46) ?_
           refine pureT 16 (some 47) ?_
           refine pureU 17 (some 48) ?_
           refine pureU 18 (some 49) ?_
           refine pureU 19 (some 50) ?_
           refine pureT 20 (some 51) ?_
           refine one_ (i := 21) (N := none) #[true, true, true, true, true, true, true, true, true, true, true, true, true, true, true, true, true, true, true, true, true, true, false] rfl rfl (one_of HT_.out (by kernel_rfl)) (by decide) (fun K hK => ?_)
           have hs40 := cz0 BK134
           have hfs40 := blk_frozen BK134.out 0
           have hns40_1 := NB137_134.out
           have hms40_1 := NB134_137.out
           have hs41 := cz1 BK134
           have hfs41 := blk_frozen BK134.out 1
           have hns41_1 := NB137_134.out
           have hms41_1 := NB134_137.out
           have hs42 := cz2 BK134
           have hfs42 := blk_frozen BK134.out 2
           have hns42_1 := NB137_134.out
           have hms42_1 := NB134_137.out
           have hs43 := cz3 BK134
           have hfs43 := blk_frozen BK134.out 3
           have hns43_1 := NB137_134.out
           have hms43_1 := NB134_137.out
           have hs44 := cz4 BK134
           have hfs44 := blk_frozen BK134.out 4
           have hns44_1 := NB137_134.out
           have hms44_1 := NB134_137.out
           have hs45 := cz5 BK134
           have hfs45 := blk_frozen BK134.out 5
           have hns45_1 := NB137_134.out
           have hms45_1 := NB134_137.out
           have hs46 := cz6 BK134
           have hfs46 := blk_frozen BK134.out 6
           have hns46_1 := NB137_134.out
           have hms46_1 := NB134_137.out
           refine skip_ (w1 := ?_) (by rfl) rfl ?_ ?_
           rotate_left
           ·go_simp
            rfl
           refine hK.out _ _ ⟨((cell_far (p := ⟨gb134, _, none⟩) NB137_134.out _).trans (((cell_far (p := ⟨gb134, _, none⟩) NB137_134.out _).trans (((cell_far (p := ⟨gb134, _, none⟩) NB137_134.out _).trans (((cell_far (p := ⟨gb134, _, none⟩) NB137_134.out _).trans (((cell_far (p := ⟨gb134, _, none⟩) NB137_134.out _).trans (((cell_far (p := ⟨gb134, _, none⟩) NB137_134.out _).trans (((cell_far (p := ⟨gb134, _, none⟩) NB137_134.out _).trans (hHeld.1)))))))))))))), ((cell_far (p := ⟨gb134, _, none⟩) NB137_134.out _).trans (((cell_far (p := ⟨gb134, _, none⟩) NB137_134.out _).trans (((cell_far (p := ⟨gb134, _, none⟩) NB137_134.out _).trans (((cell_far (p := ⟨gb134, _, none⟩) NB137_134.out _).trans (((cell_far (p := ⟨gb134, _, none⟩) NB137_134.out _).trans (((cell_far (p := ⟨gb134, _, none⟩) NB137_134.out _).trans (((cell_far (p := ⟨gb134, _, none⟩) NB137_134.out _).trans (hHeld.2.1)))))))))))))), ((cell_far (p := ⟨gb134, _, none⟩) NB137_134.out _).trans (((cell_far (p := ⟨gb134, _, none⟩) NB137_134.out _).trans (((cell_far (p := ⟨gb134, _, none⟩) NB137_134.out _).trans (((cell_far (p := ⟨gb134, _, none⟩) NB137_134.out _).trans (((cell_far (p := ⟨gb134, _, none⟩) NB137_134.out _).trans (((cell_far (p := ⟨gb134, _, none⟩) NB137_134.out _).trans (((cell_far (p := ⟨gb134, _, none⟩) NB137_134.out _).trans (hHeld.2.2.1)))))))))))))), ((cell_far (p := ⟨gb134, _, none⟩) NB137_134.out _).trans (((cell_far (p := ⟨gb134, _, none⟩) NB137_134.out _).trans (((cell_far (p := ⟨gb134, _, none⟩) NB137_134.out _).trans (((cell_far (p := ⟨gb134, _, none⟩) NB137_134.out _).trans (((cell_far (p := ⟨gb134, _, none⟩) NB137_134.out _).trans (((cell_far (p := ⟨gb134, _, none⟩) NB137_134.out _).trans (((cell_far (p := ⟨gb134, _, none⟩) NB137_134.out _).trans (hHeld.2.2.2.1)))))))))))))), ((cell_far (p := ⟨gb134, _, none⟩) NB137_134.out _).trans (((cell_far (p := ⟨gb134, _, none⟩) NB137_134.out _).trans (((cell_far (p := ⟨gb134, _, none⟩) NB137_134.out _).trans (((cell_far (p := ⟨gb134, _, none⟩) NB137_134.out _).trans (((cell_far (p := ⟨gb134, _, none⟩) NB137_134.out _).trans (((cell_far (p := ⟨gb134, _, none⟩) NB137_134.out _).trans (((cell_far (p := ⟨gb134, _, none⟩) NB137_134.out _).trans (hHeld.2.2.2.2.1)))))))))))))), ((cell_far (p := ⟨gb134, _, none⟩) NB137_134.out _).trans (((cell_far (p := ⟨gb134, _, none⟩) NB137_134.out _).trans (((cell_far (p := ⟨gb134, _, none⟩) NB137_134.out _).trans (((cell_far (p := ⟨gb134, _, none⟩) NB137_134.out _).trans (((cell_far (p := ⟨gb134, _, none⟩) NB137_134.out _).trans (((cell_far (p := ⟨gb134, _, none⟩) NB137_134.out _).trans (((cell_far (p := ⟨gb134, _, none⟩) NB137_134.out _).trans (hHeld.2.2.2.2.2.1)))))))))))))), ((cell_far (p := ⟨gb134, _, none⟩) NB137_134.out _).trans (((cell_far (p := ⟨gb134, _, none⟩) NB137_134.out _).trans (((cell_far (p := ⟨gb134, _, none⟩) NB137_134.out _).trans (((cell_far (p := ⟨gb134, _, none⟩) NB137_134.out _).trans (((cell_far (p := ⟨gb134, _, none⟩) NB137_134.out _).trans (((cell_far (p := ⟨gb134, _, none⟩) NB137_134.out _).trans (((cell_far (p := ⟨gb134, _, none⟩) NB137_134.out _).trans (hHeld.2.2.2.2.2.2))))))))))))))⟩ (fun hHeld => ?_)
           clear hK K
           refine pureT 22 (some 3) ?_
           refine done_ (done_of HT_.out (by kernel_rfl)) ?_
           try go_wp2
           refine rctA gb134 24 #[.string (⟨#[]⟩ : ByteArray), .string (⟨#[]⟩ : ByteArray), .int .i64 t135, .string zp0, .bool false, .slice none 0 0, .string (⟨#[]⟩ : ByteArray)] Tryz.underlying24 ?_
           exact ⟨_, gq2, gq6, gBe⟩
         ·rw [if_neg c18] at H
          have c18b0 := decide_eq_false c18
          clear c18
          simp only [Option.some.injEq, Prod.mk.injEq] at H
          obtain ⟨rfl, rfl, rfl, rfl, rfl, rfl, rfl, rfl⟩ := H
          try go_wp2_with (first | ((with_reducible refine gate_callee (f := 28) rfl ?_); refine goesL_ (some 24) rfl rfl Tryz.func28 (by kernel_rfl) rfl #[.string (a0.extract 9 12)] rfl gq1 ?_; (with_reducible refine (spec_ReadDec.calls kj1 (a0.extract 9 12) t135 true _ A14.out).mono ?_); rintro e w47 ⟨rfl, hb⟩; refine ⟨_, rfl, ?_⟩; replace BK134 := blA (g := gb134) hb; replace HB := beA hb; (try clear hb); (try clear hb2); (try clear hk); (try clear hi)) | ((with_reducible refine gate_dst (N := 6) rfl ?_); refine boxG #[.string (⟨#[]⟩ : ByteArray), .string (⟨#[]⟩ : ByteArray), .int .i64 0, .string (⟨#[]⟩ : ByteArray), .bool false, .slice none 0 0, .string (⟨#[]⟩ : ByteArray)] 24 ?_; intro gb137 hg w48 hbox hb; have BK137 := Aside0.mk (hbox); have GW137 := geA hg; have GE137 := geA hg; have NB134_137 := neA (g := gb134) hg; have NB137_134 := neB NB134_137; replace BK134 := blA (g := gb134) hb; replace HB := beA hb; clear hb hbox hg; have hnb49 := NB137_134.out; have hnc49 := NB134_137.out; have hcz50_0 := cz0 BK137; have hcz50_1 := cz1 BK137; have hcz50_2 := cz2 BK137; have hcz50_3 := cz3 BK137; have hcz50_4 := cz4 BK137; have hcz50_5 := cz5 BK137; have hcz50_6 := cz6 BK137; have hfz50_0 := blk_frozen BK137.out 0; have hfz50_1 := blk_frozen BK137.out 1; have hfz50_2 := blk_frozen BK137.out 2; have hfz50_3 := blk_frozen BK137.out 3; have hfz50_4 := blk_frozen BK137.out 4; have hfz50_5 := blk_frozen BK137.out 5; have hfz50_6 := blk_frozen BK137.out 6))
          have n0_ : Aside0 ((((((((w48.setCell ⟨gb137, 0, none⟩ (.string (⟨#[]⟩ : ByteArray))).setCell ⟨gb137, 1, none⟩ (.string (⟨#[]⟩ : ByteArray))).setCell ⟨gb137, 2, none⟩ (.int .i64 t135)).setCell ⟨gb137, 3, none⟩ (.string zp0)).setCell ⟨gb137, 4, none⟩ (.bool false)).setCell ⟨gb137, 5, none⟩ (.slice none 0 0)).setCell ⟨gb137, 6, none⟩ (.string (⟨#[]⟩ : ByteArray))).heap[gb134]? = some (.cells #[.string (⟨#[]⟩ : ByteArray), .string (⟨#[]⟩ : ByteArray), .int .i64 0, .string (⟨#[]⟩ : ByteArray), .bool false, .slice none 0 0, .string (⟨#[]⟩ : ByteArray)] 24 (0, 0))) := ⟨gBk⟩
          have n1_ : Aside0 ((((((((w48.setCell ⟨gb137, 0, none⟩ (.string (⟨#[]⟩ : ByteArray))).setCell ⟨gb137, 1, none⟩ (.string (⟨#[]⟩ : ByteArray))).setCell ⟨gb137, 2, none⟩ (.int .i64 t135)).setCell ⟨gb137, 3, none⟩ (.string zp0)).setCell ⟨gb137, 4, none⟩ (.bool false)).setCell ⟨gb137, 5, none⟩ (.slice none 0 0)).setCell ⟨gb137, 6, none⟩ (.string (⟨#[]⟩ : ByteArray))).heap[gb137]? = some (.cells #[.string (⟨#[]⟩ : ByteArray), .string (⟨#[]⟩ : ByteArray), .int .i64 t135, .string zp0, .bool false, .slice none 0 0, .string (⟨#[]⟩ : ByteArray)] 24 (0, 0))) := ⟨gBk⟩
          have n2_ : Aside0 (Below w.heap.size w (((((((w48.setCell ⟨gb137, 0, none⟩ (.string (⟨#[]⟩ : ByteArray))).setCell ⟨gb137, 1, none⟩ (.string (⟨#[]⟩ : ByteArray))).setCell ⟨gb137, 2, none⟩ (.int .i64 t135)).setCell ⟨gb137, 3, none⟩ (.string zp0)).setCell ⟨gb137, 4, none⟩ (.bool false)).setCell ⟨gb137, 5, none⟩ (.slice none 0 0)).setCell ⟨gb137, 6, none⟩ (.string (⟨#[]⟩ : ByteArray)))) := ⟨gBe⟩
          (try clear BK134)
          (try clear BK137)
          (try clear HB)
          generalize (((((((w48.setCell ⟨gb137, 0, none⟩ (.string (⟨#[]⟩ : ByteArray))).setCell ⟨gb137, 1, none⟩ (.string (⟨#[]⟩ : ByteArray))).setCell ⟨gb137, 2, none⟩ (.int .i64 t135)).setCell ⟨gb137, 3, none⟩ (.string zp0)).setCell ⟨gb137, 4, none⟩ (.bool false)).setCell ⟨gb137, 5, none⟩ (.slice none 0 0)).setCell ⟨gb137, 6, none⟩ (.string (⟨#[]⟩ : ByteArray))) = w51 at n0_ n1_ n2_ ⊢
          have BK134 := n0_
          have BK137 := n1_
          have HB := n2_
          clear n0_ n1_ n2_
          replace BK134 := Aside0.mk (blk_drew BK134.out)
          replace BK137 := Aside0.mk (blk_drew BK137.out)
          replace HB := Aside0.mk (below_drew1 HB.out)
          refine start_ (n := 23) (S := fun w' => w'.cell? ⟨gb137, 0, none⟩ = some (.string (⟨#[]⟩ : ByteArray)) ∧ w'.cell? ⟨gb137, 1, none⟩ = some (.string (⟨#[]⟩ : ByteArray)) ∧ w'.cell? ⟨gb137, 2, none⟩ = some (.int .i64 t135) ∧ w'.cell? ⟨gb137, 3, none⟩ = some (.string zp0) ∧ w'.cell? ⟨gb137, 4, none⟩ = some (.bool false) ∧ w'.cell? ⟨gb137, 5, none⟩ = some (.slice none 0 0) ∧ w'.cell? ⟨gb137, 6, none⟩ = some (.string (⟨#[]⟩ : ByteArray))) (ds := []) #[false, false, false, false, false, false, false, false, false, false, false, false, false, false, false, false, false, false, false, false, false, false, false] (by kernel_rfl) rfl rfl ⟨(blk_cell BK137.out 0).trans rfl, (blk_cell BK137.out 1).trans rfl, (blk_cell BK137.out 2).trans rfl, (blk_cell BK137.out 3).trans rfl, (blk_cell BK137.out 4).trans rfl, (blk_cell BK137.out 5).trans rfl, (blk_cell BK137.out 6).trans rfl⟩ (fun hHeld => ?_); refine with_tabW spec_l6status.tab5 spec_l6status.bits5 (fun HT_ HW_ => ?_)
          generalize w51.drew = w52 at BK134 BK137 HB hHeld ⊢
          refine pureT 1 (some 32) ?_
          refine pureT 2 (some 33) ?_
          refine pureT 3 (some 34) ?_
          refine pureT 4 (some 35) ?_
          refine pureT 5 (some 36) ?_
          refine pureT 6 (some 37) ?_
          refine pureT 7 (some 38) ?_
          refine pureT 8 (some 39) ?_
          refine pureT 9 (some 40) ?_
          refine pureT 10 (some 41) ?_
          refine pureU 11 (some 42) ?_
          refine pureU 12 (some 43) ?_
          refine pureU 13 (some 44) ?_
          refine pureU 14 (some 45) ?_
          refine pureT 15 (some 46) ?_
          refine pureT 16 (some 47) ?_
          refine pureU 17 (some 48) ?_
          refine pureU 18 (some 49) ?_
          refine pureU 19 (some 50) ?_
          refine pureT 20 (some 51) ?_
          refine takeT_ 0 (some 31) (hy := Or.inl ⟨by rfl, gq18⟩) ?_
          refine one_ (i := 21) (N := none) #[true, true, true, true, true, true, true, true, true, true, true, true, true, true, true, true, true, true, true, true, true, true, false] rfl rfl (one_of HT_.out (by kernel_rfl)) (by decide) (fun K hK => ?_)
          have hs53 := cz0 BK134
          have hfs53 := blk_frozen BK134.out 0
          have hns53_1 := NB137_134.out
          have hms53_1 := NB134_137.out
          have hs54 := cz1 BK134
          have hfs54 := blk_frozen BK134.out 1
          have hns54_1 := NB137_134.out
          have hms54_1 := NB134_137.out
          have hs55 := cz2 BK134
          have hfs55 := blk_frozen BK134.out 2
          have hns55_1 := NB137_134.out
          have hms55_1 := NB134_137.out
          have hs56 := cz3 BK134
          have hfs56 := blk_frozen BK134.out 3
          have hns56_1 := NB137_134.out
          have hms56_1 := NB134_137.out
          have hs57 := cz4 BK134
          have hfs57 := blk_frozen BK134.out 4
          have hns57_1 := NB137_134.out
          have hms57_1 := NB134_137.out
          have hs58 := cz5 BK134
          have hfs58 := blk_frozen BK134.out 5
          have hns58_1 := NB137_134.out
          have hms58_1 := NB134_137.out
          have hs59 := cz6 BK134
          have hfs59 := blk_frozen BK134.out 6
          have hns59_1 := NB137_134.out
          have hms59_1 := NB134_137.out
          refine skip_ (w1 := ?_) (by rfl) rfl ?_ ?_
          rotate_left
          ·go_simp
           rfl
          refine hK.out _ _ ⟨((cell_far (p := ⟨gb134, _, none⟩) NB137_134.out _).trans (((cell_far (p := ⟨gb134, _, none⟩) NB137_134.out _).trans (((cell_far (p := ⟨gb134, _, none⟩) NB137_134.out _).trans (((cell_far (p := ⟨gb134, _, none⟩) NB137_134.out _).trans (((cell_far (p := ⟨gb134, _, none⟩) NB137_134.out _).trans (((cell_far (p := ⟨gb134, _, none⟩) NB137_134.out _).trans (((cell_far (p := ⟨gb134, _, none⟩) NB137_134.out _).trans (hHeld.1)))))))))))))), ((cell_far (p := ⟨gb134, _, none⟩) NB137_134.out _).trans (((cell_far (p := ⟨gb134, _, none⟩) NB137_134.out _).trans (((cell_far (p := ⟨gb134, _, none⟩) NB137_134.out _).trans (((cell_far (p := ⟨gb134, _, none⟩) NB137_134.out _).trans (((cell_far (p := ⟨gb134, _, none⟩) NB137_134.out _).trans (((cell_far (p := ⟨gb134, _, none⟩) NB137_134.out _).trans (((cell_far (p := ⟨gb134, _, none⟩) NB137_134.out _).trans (hHeld.2.1)))))))))))))), ((cell_far (p := ⟨gb134, _, none⟩) NB137_134.out _).trans (((cell_far (p := ⟨gb134, _, none⟩) NB137_134.out _).trans (((cell_far (p := ⟨gb134, _, none⟩) NB137_134.out _).trans (((cell_far (p := ⟨gb134, _, none⟩) NB137_134.out _).trans (((cell_far (p := ⟨gb134, _, none⟩) NB137_134.out _).trans (((cell_far (p := ⟨gb134, _, none⟩) NB137_134.out _).trans (((cell_far (p := ⟨gb134, _, none⟩) NB137_134.out _).trans (hHeld.2.2.1)))))))))))))), ((cell_far (p := ⟨gb134, _, none⟩) NB137_134.out _).trans (((cell_far (p := ⟨gb134, _, none⟩) NB137_134.out _).trans (((cell_far (p := ⟨gb134, _, none⟩) NB137_134.out _).trans (((cell_far (p := ⟨gb134, _, none⟩) NB137_134.out _).trans (((cell_far (p := ⟨gb134, _, none⟩) NB137_134.out _).trans (((cell_far (p := ⟨gb134, _, none⟩) NB137_134.out _).trans (((cell_far (p := ⟨gb134, _, none⟩) NB137_134.out _).trans (hHeld.2.2.2.1)))))))))))))), ((cell_far (p := ⟨gb134, _, none⟩) NB137_134.out _).trans (((cell_far (p := ⟨gb134, _, none⟩) NB137_134.out _).trans (((cell_far (p := ⟨gb134, _, none⟩) NB137_134.out _).trans (((cell_far (p := ⟨gb134, _, none⟩) NB137_134.out _).trans (((cell_far (p := ⟨gb134, _, none⟩) NB137_134.out _).trans (((cell_far (p := ⟨gb134, _, none⟩) NB137_134.out _).trans (((cell_far (p := ⟨gb134, _, none⟩) NB137_134.out _).trans (hHeld.2.2.2.2.1)))))))))))))), ((cell_far (p := ⟨gb134, _, none⟩) NB137_134.out _).trans (((cell_far (p := ⟨gb134, _, none⟩) NB137_134.out _).trans (((cell_far (p := ⟨gb134, _, none⟩) NB137_134.out _).trans (((cell_far (p := ⟨gb134, _, none⟩) NB137_134.out _).trans (((cell_far (p := ⟨gb134, _, none⟩) NB137_134.out _).trans (((cell_far (p := ⟨gb134, _, none⟩) NB137_134.out _).trans (((cell_far (p := ⟨gb134, _, none⟩) NB137_134.out _).trans (hHeld.2.2.2.2.2.1)))))))))))))), ((cell_far (p := ⟨gb134, _, none⟩) NB137_134.out _).trans (((cell_far (p := ⟨gb134, _, none⟩) NB137_134.out _).trans (((cell_far (p := ⟨gb134, _, none⟩) NB137_134.out _).trans (((cell_far (p := ⟨gb134, _, none⟩) NB137_134.out _).trans (((cell_far (p := ⟨gb134, _, none⟩) NB137_134.out _).trans (((cell_far (p := ⟨gb134, _, none⟩) NB137_134.out _).trans (((cell_far (p := ⟨gb134, _, none⟩) NB137_134.out _).trans (hHeld.2.2.2.2.2.2))))))))))))))⟩ (fun hHeld => ?_)
          clear hK K
          refine pureT 22 (some 3) ?_
          refine done_ (done_of HT_.out (by kernel_rfl)) ?_
          try go_wp2
          refine rctA gb134 24 #[.string (⟨#[]⟩ : ByteArray), .string (⟨#[]⟩ : ByteArray), .int .i64 t135, .string zp0, .bool false, .slice none 0 0, .string (⟨#[]⟩ : ByteArray)] Tryz.underlying24 ?_
          exact ⟨_, gq2, gq6, gBe⟩
        ·rw [if_neg c17] at H
         have c17b0 : decide (200 ≤ t135) = false := decide_eq_false c17
         clear c17
         simp only [Option.some.injEq, Prod.mk.injEq] at H
         obtain ⟨rfl, rfl, rfl, rfl, rfl, rfl, rfl, rfl⟩ := H
         try go_wp2_with (first | ((with_reducible refine gate_callee (f := 28) rfl ?_); refine goesL_ (some 24) rfl rfl Tryz.func28 (by kernel_rfl) rfl #[.string (a0.extract 9 12)] rfl gq1 ?_; (with_reducible refine (spec_ReadDec.calls kj1 (a0.extract 9 12) t135 true _ A14.out).mono ?_); rintro e w60 ⟨rfl, hb⟩; refine ⟨_, rfl, ?_⟩; replace BK134 := blA (g := gb134) hb; replace HB := beA hb; (try clear hb); (try clear hb2); (try clear hk); (try clear hi)) | ((with_reducible refine gate_dst (N := 6) rfl ?_); refine boxG #[.string (⟨#[]⟩ : ByteArray), .string (⟨#[]⟩ : ByteArray), .int .i64 0, .string (⟨#[]⟩ : ByteArray), .bool false, .slice none 0 0, .string (⟨#[]⟩ : ByteArray)] 24 ?_; intro gb137 hg w61 hbox hb; have BK137 := Aside0.mk (hbox); have GW137 := geA hg; have GE137 := geA hg; have NB134_137 := neA (g := gb134) hg; have NB137_134 := neB NB134_137; replace BK134 := blA (g := gb134) hb; replace HB := beA hb; clear hb hbox hg; have hnb62 := NB137_134.out; have hnc62 := NB134_137.out; have hcz63_0 := cz0 BK137; have hcz63_1 := cz1 BK137; have hcz63_2 := cz2 BK137; have hcz63_3 := cz3 BK137; have hcz63_4 := cz4 BK137; have hcz63_5 := cz5 BK137; have hcz63_6 := cz6 BK137; have hfz63_0 := blk_frozen BK137.out 0; have hfz63_1 := blk_frozen BK137.out 1; have hfz63_2 := blk_frozen BK137.out 2; have hfz63_3 := blk_frozen BK137.out 3; have hfz63_4 := blk_frozen BK137.out 4; have hfz63_5 := blk_frozen BK137.out 5; have hfz63_6 := blk_frozen BK137.out 6))
         have n0_ : Aside0 ((((((((w61.setCell ⟨gb137, 0, none⟩ (.string (⟨#[]⟩ : ByteArray))).setCell ⟨gb137, 1, none⟩ (.string (⟨#[]⟩ : ByteArray))).setCell ⟨gb137, 2, none⟩ (.int .i64 t135)).setCell ⟨gb137, 3, none⟩ (.string zp0)).setCell ⟨gb137, 4, none⟩ (.bool false)).setCell ⟨gb137, 5, none⟩ (.slice none 0 0)).setCell ⟨gb137, 6, none⟩ (.string (⟨#[]⟩ : ByteArray))).heap[gb134]? = some (.cells #[.string (⟨#[]⟩ : ByteArray), .string (⟨#[]⟩ : ByteArray), .int .i64 0, .string (⟨#[]⟩ : ByteArray), .bool false, .slice none 0 0, .string (⟨#[]⟩ : ByteArray)] 24 (0, 0))) := ⟨gBk⟩
         have n1_ : Aside0 ((((((((w61.setCell ⟨gb137, 0, none⟩ (.string (⟨#[]⟩ : ByteArray))).setCell ⟨gb137, 1, none⟩ (.string (⟨#[]⟩ : ByteArray))).setCell ⟨gb137, 2, none⟩ (.int .i64 t135)).setCell ⟨gb137, 3, none⟩ (.string zp0)).setCell ⟨gb137, 4, none⟩ (.bool false)).setCell ⟨gb137, 5, none⟩ (.slice none 0 0)).setCell ⟨gb137, 6, none⟩ (.string (⟨#[]⟩ : ByteArray))).heap[gb137]? = some (.cells #[.string (⟨#[]⟩ : ByteArray), .string (⟨#[]⟩ : ByteArray), .int .i64 t135, .string zp0, .bool false, .slice none 0 0, .string (⟨#[]⟩ : ByteArray)] 24 (0, 0))) := ⟨gBk⟩
         have n2_ : Aside0 (Below w.heap.size w (((((((w61.setCell ⟨gb137, 0, none⟩ (.string (⟨#[]⟩ : ByteArray))).setCell ⟨gb137, 1, none⟩ (.string (⟨#[]⟩ : ByteArray))).setCell ⟨gb137, 2, none⟩ (.int .i64 t135)).setCell ⟨gb137, 3, none⟩ (.string zp0)).setCell ⟨gb137, 4, none⟩ (.bool false)).setCell ⟨gb137, 5, none⟩ (.slice none 0 0)).setCell ⟨gb137, 6, none⟩ (.string (⟨#[]⟩ : ByteArray)))) := ⟨gBe⟩
         (try clear BK134)
         (try clear BK137)
         (try clear HB)
         generalize (((((((w61.setCell ⟨gb137, 0, none⟩ (.string (⟨#[]⟩ : ByteArray))).setCell ⟨gb137, 1, none⟩ (.string (⟨#[]⟩ : ByteArray))).setCell ⟨gb137, 2, none⟩ (.int .i64 t135)).setCell ⟨gb137, 3, none⟩ (.string zp0)).setCell ⟨gb137, 4, none⟩ (.bool false)).setCell ⟨gb137, 5, none⟩ (.slice none 0 0)).setCell ⟨gb137, 6, none⟩ (.string (⟨#[]⟩ : ByteArray))) = w64 at n0_ n1_ n2_ ⊢
         have BK134 := n0_
         have BK137 := n1_
         have HB := n2_
         clear n0_ n1_ n2_
         replace BK134 := Aside0.mk (blk_drew BK134.out)
         replace BK137 := Aside0.mk (blk_drew BK137.out)
         replace HB := Aside0.mk (below_drew1 HB.out)
         refine start_ (n := 23) (S := fun w' => w'.cell? ⟨gb137, 0, none⟩ = some (.string (⟨#[]⟩ : ByteArray)) ∧ w'.cell? ⟨gb137, 1, none⟩ = some (.string (⟨#[]⟩ : ByteArray)) ∧ w'.cell? ⟨gb137, 2, none⟩ = some (.int .i64 t135) ∧ w'.cell? ⟨gb137, 3, none⟩ = some (.string zp0) ∧ w'.cell? ⟨gb137, 4, none⟩ = some (.bool false) ∧ w'.cell? ⟨gb137, 5, none⟩ = some (.slice none 0 0) ∧ w'.cell? ⟨gb137, 6, none⟩ = some (.string (⟨#[]⟩ : ByteArray))) (ds := []) #[false, false, false, false, false, false, false, false, false, false, false, false, false, false, false, false, false, false, false, false, false, false, false] (by kernel_rfl) rfl rfl ⟨(blk_cell BK137.out 0).trans rfl, (blk_cell BK137.out 1).trans rfl, (blk_cell BK137.out 2).trans rfl, (blk_cell BK137.out 3).trans rfl, (blk_cell BK137.out 4).trans rfl, (blk_cell BK137.out 5).trans rfl, (blk_cell BK137.out 6).trans rfl⟩ (fun hHeld => ?_); refine with_tabW spec_l6status.tab5 spec_l6status.bits5 (fun HT_ HW_ => ?_)
         generalize w64.drew = w65 at BK134 BK137 HB hHeld ⊢
         refine pureT 1 (some 32) ?_
         refine pureT 2 (some 33) ?_
         refine pureT 3 (some 34) ?_
         refine pureT 4 (some 35) ?_
         refine pureT 5 (some 36) ?_
         refine pureT 6 (some 37) ?_
         refine pureU 7 (some 38) ?_
         refine pureU 8 (some 39) ?_
         refine pureT 9 (some 40) ?_
         refine pureT 10 (some 41) ?_
         refine pureU 11 (some 42) ?_
         refine pureU 12 (some 43) ?_
         refine pureU 13 (some 44) ?_
         refine pureU 14 (some 45) ?_
         refine pureT 15 (some 46) ?_
         refine pureT 16 (some 47) ?_
         refine pureU 17 (some 48) ?_
         refine pureU 18 (some 49) ?_
         refine pureU 19 (some 50) ?_
         refine pureT 20 (some 51) ?_
         refine takeT_ 0 (some 31) (hy := Or.inl ⟨by rfl, gq18⟩) ?_
         refine one_ (i := 21) (N := none) #[true, true, true, true, true, true, true, true, true, true, true, true, true, true, true, true, true, true, true, true, true, true, false] rfl rfl (one_of HT_.out (by kernel_rfl)) (by decide) (fun K hK => ?_)
         have hs66 := cz0 BK134
         have hfs66 := blk_frozen BK134.out 0
         have hns66_1 := NB137_134.out
         have hms66_1 := NB134_137.out
         have hs67 := cz1 BK134
         have hfs67 := blk_frozen BK134.out 1
         have hns67_1 := NB137_134.out
         have hms67_1 := NB134_137.out
         have hs68 := cz2 BK134
         have hfs68 := blk_frozen BK134.out 2
         have hns68_1 := NB137_134.out
         have hms68_1 := NB134_137.out
         have hs69 := cz3 BK134
         have hfs69 := blk_frozen BK134.out 3
         have hns69_1 := NB137_134.out
         have hms69_1 := NB134_137.out
         have hs70 := cz4 BK134
         have hfs70 := blk_frozen BK134.out 4
         have hns70_1 := NB137_134.out
         have hms70_1 := NB134_137.out
         have hs71 := cz5 BK134
         have hfs71 := blk_frozen BK134.out 5
         have hns71_1 := NB137_134.out
         have hms71_1 := NB134_137.out
         have hs72 := cz6 BK134
         have hfs72 := blk_frozen BK134.out 6
         have hns72_1 := NB137_134.out
         have hms72_1 := NB134_137.out
         refine skip_ (w1 := ?_) (by rfl) rfl ?_ ?_
         rotate_left
         ·go_simp
          rfl
         refine hK.out _ _ ⟨((cell_far (p := ⟨gb134, _, none⟩) NB137_134.out _).trans (((cell_far (p := ⟨gb134, _, none⟩) NB137_134.out _).trans (((cell_far (p := ⟨gb134, _, none⟩) NB137_134.out _).trans (((cell_far (p := ⟨gb134, _, none⟩) NB137_134.out _).trans (((cell_far (p := ⟨gb134, _, none⟩) NB137_134.out _).trans (((cell_far (p := ⟨gb134, _, none⟩) NB137_134.out _).trans (((cell_far (p := ⟨gb134, _, none⟩) NB137_134.out _).trans (hHeld.1)))))))))))))), ((cell_far (p := ⟨gb134, _, none⟩) NB137_134.out _).trans (((cell_far (p := ⟨gb134, _, none⟩) NB137_134.out _).trans (((cell_far (p := ⟨gb134, _, none⟩) NB137_134.out _).trans (((cell_far (p := ⟨gb134, _, none⟩) NB137_134.out _).trans (((cell_far (p := ⟨gb134, _, none⟩) NB137_134.out _).trans (((cell_far (p := ⟨gb134, _, none⟩) NB137_134.out _).trans (((cell_far (p := ⟨gb134, _, none⟩) NB137_134.out _).trans (hHeld.2.1)))))))))))))), ((cell_far (p := ⟨gb134, _, none⟩) NB137_134.out _).trans (((cell_far (p := ⟨gb134, _, none⟩) NB137_134.out _).trans (((cell_far (p := ⟨gb134, _, none⟩) NB137_134.out _).trans (((cell_far (p := ⟨gb134, _, none⟩) NB137_134.out _).trans (((cell_far (p := ⟨gb134, _, none⟩) NB137_134.out _).trans (((cell_far (p := ⟨gb134, _, none⟩) NB137_134.out _).trans (((cell_far (p := ⟨gb134, _, none⟩) NB137_134.out _).trans (hHeld.2.2.1)))))))))))))), ((cell_far (p := ⟨gb134, _, none⟩) NB137_134.out _).trans (((cell_far (p := ⟨gb134, _, none⟩) NB137_134.out _).trans (((cell_far (p := ⟨gb134, _, none⟩) NB137_134.out _).trans (((cell_far (p := ⟨gb134, _, none⟩) NB137_134.out _).trans (((cell_far (p := ⟨gb134, _, none⟩) NB137_134.out _).trans (((cell_far (p := ⟨gb134, _, none⟩) NB137_134.out _).trans (((cell_far (p := ⟨gb134, _, none⟩) NB137_134.out _).trans (hHeld.2.2.2.1)))))))))))))), ((cell_far (p := ⟨gb134, _, none⟩) NB137_134.out _).trans (((cell_far (p := ⟨gb134, _, none⟩) NB137_134.out _).trans (((cell_far (p := ⟨gb134, _, none⟩) NB137_134.out _).trans (((cell_far (p := ⟨gb134, _, none⟩) NB137_134.out _).trans (((cell_far (p := ⟨gb134, _, none⟩) NB137_134.out _).trans (((cell_far (p := ⟨gb134, _, none⟩) NB137_134.out _).trans (((cell_far (p := ⟨gb134, _, none⟩) NB137_134.out _).trans (hHeld.2.2.2.2.1)))))))))))))), ((cell_far (p := ⟨gb134, _, none⟩) NB137_134.out _).trans (((cell_far (p := ⟨gb134, _, none⟩) NB137_134.out _).trans (((cell_far (p := ⟨gb134, _, none⟩) NB137_134.out _).trans (((cell_far (p := ⟨gb134, _, none⟩) NB137_134.out _).trans (((cell_far (p := ⟨gb134, _, none⟩) NB137_134.out _).trans (((cell_far (p := ⟨gb134, _, none⟩) NB137_134.out _).trans (((cell_far (p := ⟨gb134, _, none⟩) NB137_134.out _).trans (hHeld.2.2.2.2.2.1)))))))))))))), ((cell_far (p := ⟨gb134, _, none⟩) NB137_134.out _).trans (((cell_far (p := ⟨gb134, _, none⟩) NB137_134.out _).trans (((cell_far (p := ⟨gb134, _, none⟩) NB137_134.out _).trans (((cell_far (p := ⟨gb134, _, none⟩) NB137_134.out _).trans (((cell_far (p := ⟨gb134, _, none⟩) NB137_134.out _).trans (((cell_far (p := ⟨gb134, _, none⟩) NB137_134.out _).trans (((cell_far (p := ⟨gb134, _, none⟩) NB137_134.out _).trans (hHeld.2.2.2.2.2.2))))))))))))))⟩ (fun hHeld => ?_)
         clear hK K
         refine pureT 22 (some 3) ?_
         refine done_ (done_of HT_.out (by kernel_rfl)) ?_
         try go_wp2
         refine rctA gb134 24 #[.string (⟨#[]⟩ : ByteArray), .string (⟨#[]⟩ : ByteArray), .int .i64 t135, .string zp0, .bool false, .slice none 0 0, .string (⟨#[]⟩ : ByteArray)] Tryz.underlying24 ?_
         exact ⟨_, gq2, gq6, gBe⟩
       ·replace c16 := Bool.eq_false_iff.mpr c16
        subst c16
        have H1 : (some ((⟨#[]⟩ : ByteArray), (⟨#[]⟩ : ByteArray), t135, zp0, false, ([] : List (S41)), (⟨#[]⟩ : ByteArray), false)) = some (r1, r2, r3, r4, r5, r6, r7, r8) := by rw [if_neg (show ¬ (false = true) by decide)] at H; exact H
        clear H
        have H := H1
        clear H1
        simp only [Option.some.injEq, Prod.mk.injEq] at H
        obtain ⟨rfl, rfl, rfl, rfl, rfl, rfl, rfl, rfl⟩ := H
        try go_wp2_with (first | ((with_reducible refine gate_callee (f := 28) rfl ?_); refine goesL_ (some 24) rfl rfl Tryz.func28 (by kernel_rfl) rfl #[.string (a0.extract 9 12)] rfl gq1 ?_; (with_reducible refine (spec_ReadDec.calls kj1 (a0.extract 9 12) t135 false _ A14.out).mono ?_); rintro e w73 ⟨rfl, hb⟩; refine ⟨_, rfl, ?_⟩; replace BK134 := blA (g := gb134) hb; replace HB := beA hb; (try clear hb); (try clear hb2); (try clear hk); (try clear hi)) | ((with_reducible refine gate_dst (N := 6) rfl ?_); refine boxG #[.string (⟨#[]⟩ : ByteArray), .string (⟨#[]⟩ : ByteArray), .int .i64 0, .string (⟨#[]⟩ : ByteArray), .bool false, .slice none 0 0, .string (⟨#[]⟩ : ByteArray)] 24 ?_; intro gb137 hg w74 hbox hb; have BK137 := Aside0.mk (hbox); have GW137 := geA hg; have GE137 := geA hg; have NB134_137 := neA (g := gb134) hg; have NB137_134 := neB NB134_137; replace BK134 := blA (g := gb134) hb; replace HB := beA hb; clear hb hbox hg; have hnb75 := NB137_134.out; have hnc75 := NB134_137.out; have hcz76_0 := cz0 BK137; have hcz76_1 := cz1 BK137; have hcz76_2 := cz2 BK137; have hcz76_3 := cz3 BK137; have hcz76_4 := cz4 BK137; have hcz76_5 := cz5 BK137; have hcz76_6 := cz6 BK137; have hfz76_0 := blk_frozen BK137.out 0; have hfz76_1 := blk_frozen BK137.out 1; have hfz76_2 := blk_frozen BK137.out 2; have hfz76_3 := blk_frozen BK137.out 3; have hfz76_4 := blk_frozen BK137.out 4; have hfz76_5 := blk_frozen BK137.out 5; have hfz76_6 := blk_frozen BK137.out 6))
        have n0_ : Aside0 ((((((((w74.setCell ⟨gb137, 0, none⟩ (.string (⟨#[]⟩ : ByteArray))).setCell ⟨gb137, 1, none⟩ (.string (⟨#[]⟩ : ByteArray))).setCell ⟨gb137, 2, none⟩ (.int .i64 t135)).setCell ⟨gb137, 3, none⟩ (.string zp0)).setCell ⟨gb137, 4, none⟩ (.bool false)).setCell ⟨gb137, 5, none⟩ (.slice none 0 0)).setCell ⟨gb137, 6, none⟩ (.string (⟨#[]⟩ : ByteArray))).heap[gb134]? = some (.cells #[.string (⟨#[]⟩ : ByteArray), .string (⟨#[]⟩ : ByteArray), .int .i64 0, .string (⟨#[]⟩ : ByteArray), .bool false, .slice none 0 0, .string (⟨#[]⟩ : ByteArray)] 24 (0, 0))) := ⟨gBk⟩
        have n1_ : Aside0 ((((((((w74.setCell ⟨gb137, 0, none⟩ (.string (⟨#[]⟩ : ByteArray))).setCell ⟨gb137, 1, none⟩ (.string (⟨#[]⟩ : ByteArray))).setCell ⟨gb137, 2, none⟩ (.int .i64 t135)).setCell ⟨gb137, 3, none⟩ (.string zp0)).setCell ⟨gb137, 4, none⟩ (.bool false)).setCell ⟨gb137, 5, none⟩ (.slice none 0 0)).setCell ⟨gb137, 6, none⟩ (.string (⟨#[]⟩ : ByteArray))).heap[gb137]? = some (.cells #[.string (⟨#[]⟩ : ByteArray), .string (⟨#[]⟩ : ByteArray), .int .i64 t135, .string zp0, .bool false, .slice none 0 0, .string (⟨#[]⟩ : ByteArray)] 24 (0, 0))) := ⟨gBk⟩
        have n2_ : Aside0 (Below w.heap.size w (((((((w74.setCell ⟨gb137, 0, none⟩ (.string (⟨#[]⟩ : ByteArray))).setCell ⟨gb137, 1, none⟩ (.string (⟨#[]⟩ : ByteArray))).setCell ⟨gb137, 2, none⟩ (.int .i64 t135)).setCell ⟨gb137, 3, none⟩ (.string zp0)).setCell ⟨gb137, 4, none⟩ (.bool false)).setCell ⟨gb137, 5, none⟩ (.slice none 0 0)).setCell ⟨gb137, 6, none⟩ (.string (⟨#[]⟩ : ByteArray)))) := ⟨gBe⟩
        (try clear BK134)
        (try clear BK137)
        (try clear HB)
        generalize (((((((w74.setCell ⟨gb137, 0, none⟩ (.string (⟨#[]⟩ : ByteArray))).setCell ⟨gb137, 1, none⟩ (.string (⟨#[]⟩ : ByteArray))).setCell ⟨gb137, 2, none⟩ (.int .i64 t135)).setCell ⟨gb137, 3, none⟩ (.string zp0)).setCell ⟨gb137, 4, none⟩ (.bool false)).setCell ⟨gb137, 5, none⟩ (.slice none 0 0)).setCell ⟨gb137, 6, none⟩ (.string (⟨#[]⟩ : ByteArray))) = w77 at n0_ n1_ n2_ ⊢
        have BK134 := n0_
        have BK137 := n1_
        have HB := n2_
        clear n0_ n1_ n2_
        replace BK134 := Aside0.mk (blk_drew BK134.out)
        replace BK137 := Aside0.mk (blk_drew BK137.out)
        replace HB := Aside0.mk (below_drew1 HB.out)
        refine start_ (n := 23) (S := fun w' => w'.cell? ⟨gb137, 0, none⟩ = some (.string (⟨#[]⟩ : ByteArray)) ∧ w'.cell? ⟨gb137, 1, none⟩ = some (.string (⟨#[]⟩ : ByteArray)) ∧ w'.cell? ⟨gb137, 2, none⟩ = some (.int .i64 t135) ∧ w'.cell? ⟨gb137, 3, none⟩ = some (.string zp0) ∧ w'.cell? ⟨gb137, 4, none⟩ = some (.bool false) ∧ w'.cell? ⟨gb137, 5, none⟩ = some (.slice none 0 0) ∧ w'.cell? ⟨gb137, 6, none⟩ = some (.string (⟨#[]⟩ : ByteArray))) (ds := []) #[false, false, false, false, false, false, false, false, false, false, false, false, false, false, false, false, false, false, false, false, false, false, false] (by kernel_rfl) rfl rfl ⟨(blk_cell BK137.out 0).trans rfl, (blk_cell BK137.out 1).trans rfl, (blk_cell BK137.out 2).trans rfl, (blk_cell BK137.out 3).trans rfl, (blk_cell BK137.out 4).trans rfl, (blk_cell BK137.out 5).trans rfl, (blk_cell BK137.out 6).trans rfl⟩ (fun hHeld => ?_); refine with_tabW spec_l6status.tab5 spec_l6status.bits5 (fun HT_ HW_ => ?_)
        generalize w77.drew = w78 at BK134 BK137 HB hHeld ⊢
        refine pureT 1 (some 32) ?_
        refine pureT 2 (some 33) ?_
        refine pureU 3 (some 34) ?_
        refine pureU 4 (some 35) ?_
        refine pureT 5 (some 36) ?_
        refine pureT 6 (some 37) ?_
        refine pureU 7 (some 38) ?_
        refine pureU 8 (some 39) ?_
        refine pureT 9 (some 40) ?_
        refine pureT 10 (some 41) ?_
        refine pureU 11 (some 42) ?_
        refine pureU 12 (some 43) ?_
        refine pureU 13 (some 44) ?_
        refine pureU 14 (some 45) ?_
        refine pureT 15 (some 46) ?_
        refine pureT 16 (some 47) ?_
        refine pureU 17 (some 48) ?_
        refine pureU 18 (some 49) ?_
        refine pureU 19 (some 50) ?_
        refine pureT 20 (some 51) ?_
        refine takeT_ 0 (some 31) (hy := Or.inl ⟨by rfl, gq18⟩) ?_
        refine one_ (i := 21) (N := none) #[true, true, true, true, true, true, true, true, true, true, true, true, true, true, true, true, true, true, true, true, true, true, false] rfl rfl (one_of HT_.out (by kernel_rfl)) (by decide) (fun K hK => ?_)
        have hs79 := cz0 BK134
        have hfs79 := blk_frozen BK134.out 0
        have hns79_1 := NB137_134.out
        have hms79_1 := NB134_137.out
        have hs80 := cz1 BK134
        have hfs80 := blk_frozen BK134.out 1
        have hns80_1 := NB137_134.out
        have hms80_1 := NB134_137.out
        have hs81 := cz2 BK134
        have hfs81 := blk_frozen BK134.out 2
        have hns81_1 := NB137_134.out
        have hms81_1 := NB134_137.out
        have hs82 := cz3 BK134
        have hfs82 := blk_frozen BK134.out 3
        have hns82_1 := NB137_134.out
        have hms82_1 := NB134_137.out
        have hs83 := cz4 BK134
        have hfs83 := blk_frozen BK134.out 4
        have hns83_1 := NB137_134.out
        have hms83_1 := NB134_137.out
        have hs84 := cz5 BK134
        have hfs84 := blk_frozen BK134.out 5
        have hns84_1 := NB137_134.out
        have hms84_1 := NB134_137.out
        have hs85 := cz6 BK134
        have hfs85 := blk_frozen BK134.out 6
        have hns85_1 := NB137_134.out
        have hms85_1 := NB134_137.out
        refine skip_ (w1 := ?_) (by rfl) rfl ?_ ?_
        rotate_left
        ·go_simp
         rfl
        refine hK.out _ _ ⟨((cell_far (p := ⟨gb134, _, none⟩) NB137_134.out _).trans (((cell_far (p := ⟨gb134, _, none⟩) NB137_134.out _).trans (((cell_far (p := ⟨gb134, _, none⟩) NB137_134.out _).trans (((cell_far (p := ⟨gb134, _, none⟩) NB137_134.out _).trans (((cell_far (p := ⟨gb134, _, none⟩) NB137_134.out _).trans (((cell_far (p := ⟨gb134, _, none⟩) NB137_134.out _).trans (((cell_far (p := ⟨gb134, _, none⟩) NB137_134.out _).trans (hHeld.1)))))))))))))), ((cell_far (p := ⟨gb134, _, none⟩) NB137_134.out _).trans (((cell_far (p := ⟨gb134, _, none⟩) NB137_134.out _).trans (((cell_far (p := ⟨gb134, _, none⟩) NB137_134.out _).trans (((cell_far (p := ⟨gb134, _, none⟩) NB137_134.out _).trans (((cell_far (p := ⟨gb134, _, none⟩) NB137_134.out _).trans (((cell_far (p := ⟨gb134, _, none⟩) NB137_134.out _).trans (((cell_far (p := ⟨gb134, _, none⟩) NB137_134.out _).trans (hHeld.2.1)))))))))))))), ((cell_far (p := ⟨gb134, _, none⟩) NB137_134.out _).trans (((cell_far (p := ⟨gb134, _, none⟩) NB137_134.out _).trans (((cell_far (p := ⟨gb134, _, none⟩) NB137_134.out _).trans (((cell_far (p := ⟨gb134, _, none⟩) NB137_134.out _).trans (((cell_far (p := ⟨gb134, _, none⟩) NB137_134.out _).trans (((cell_far (p := ⟨gb134, _, none⟩) NB137_134.out _).trans (((cell_far (p := ⟨gb134, _, none⟩) NB137_134.out _).trans (hHeld.2.2.1)))))))))))))), ((cell_far (p := ⟨gb134, _, none⟩) NB137_134.out _).trans (((cell_far (p := ⟨gb134, _, none⟩) NB137_134.out _).trans (((cell_far (p := ⟨gb134, _, none⟩) NB137_134.out _).trans (((cell_far (p := ⟨gb134, _, none⟩) NB137_134.out _).trans (((cell_far (p := ⟨gb134, _, none⟩) NB137_134.out _).trans (((cell_far (p := ⟨gb134, _, none⟩) NB137_134.out _).trans (((cell_far (p := ⟨gb134, _, none⟩) NB137_134.out _).trans (hHeld.2.2.2.1)))))))))))))), ((cell_far (p := ⟨gb134, _, none⟩) NB137_134.out _).trans (((cell_far (p := ⟨gb134, _, none⟩) NB137_134.out _).trans (((cell_far (p := ⟨gb134, _, none⟩) NB137_134.out _).trans (((cell_far (p := ⟨gb134, _, none⟩) NB137_134.out _).trans (((cell_far (p := ⟨gb134, _, none⟩) NB137_134.out _).trans (((cell_far (p := ⟨gb134, _, none⟩) NB137_134.out _).trans (((cell_far (p := ⟨gb134, _, none⟩) NB137_134.out _).trans (hHeld.2.2.2.2.1)))))))))))))), ((cell_far (p := ⟨gb134, _, none⟩) NB137_134.out _).trans (((cell_far (p := ⟨gb134, _, none⟩) NB137_134.out _).trans (((cell_far (p := ⟨gb134, _, none⟩) NB137_134.out _).trans (((cell_far (p := ⟨gb134, _, none⟩) NB137_134.out _).trans (((cell_far (p := ⟨gb134, _, none⟩) NB137_134.out _).trans (((cell_far (p := ⟨gb134, _, none⟩) NB137_134.out _).trans (((cell_far (p := ⟨gb134, _, none⟩) NB137_134.out _).trans (hHeld.2.2.2.2.2.1)))))))))))))), ((cell_far (p := ⟨gb134, _, none⟩) NB137_134.out _).trans (((cell_far (p := ⟨gb134, _, none⟩) NB137_134.out _).trans (((cell_far (p := ⟨gb134, _, none⟩) NB137_134.out _).trans (((cell_far (p := ⟨gb134, _, none⟩) NB137_134.out _).trans (((cell_far (p := ⟨gb134, _, none⟩) NB137_134.out _).trans (((cell_far (p := ⟨gb134, _, none⟩) NB137_134.out _).trans (((cell_far (p := ⟨gb134, _, none⟩) NB137_134.out _).trans (hHeld.2.2.2.2.2.2))))))))))))))⟩ (fun hHeld => ?_)
        clear hK K
        refine pureT 22 (some 3) ?_
        refine done_ (done_of HT_.out (by kernel_rfl)) ?_
        try go_wp2
        refine rctA gb134 24 #[.string (⟨#[]⟩ : ByteArray), .string (⟨#[]⟩ : ByteArray), .int .i64 t135, .string zp0, .bool false, .slice none 0 0, .string (⟨#[]⟩ : ByteArray)] Tryz.underlying24 ?_
        exact ⟨_, gq2, gq6, gBe⟩
      ·rw [if_neg c15] at H
       exact absurd H (by simp)
     ·rw [if_neg c13] at H
      exact absurd H (by simp)
    ·rw [if_neg c12] at H
     exact absurd H (by simp)

end Go.Proofs.YtonmpnghlopnoaaGreatDoor.P
