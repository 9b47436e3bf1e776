-- Written by a program of ours (myprint.py, by way of the kit's print) out of Lean's print of the translation.
import Derived.Test.YtahgiblifkchaaaPx0
import Derived.Test.YtahgiblifkchaaaPxauxc
namespace Go.Proofs.Ytahgiblifkchaaa.P
open Go.RowKit Go.Proofs.YtahgiblifkchaaaW.PrintWords Go.Proofs.YtahgiblifkchaaaW.PrintLast Go.Proofs.YtahgiblifkchaaaW.PrintMore
attribute [local go_sem] max2_int min2_int max_two min_two max_three min_three max_four min_four   -- for this text's walks alone
set_option linter.unusedVariables false
set_option linter.unusedSimpArgs false

/-! ### laws_heldLineS: function 100 -/
def laws_heldLineS.l0 : Nat → List (S115) → Int → Int → Option (Int)
  | 0, _, _, _ => none
  | k + 1, x0, x1, x5 => if x5 < (x0.length : Int) then (if 0 ≤ x5 then ((laws_markText.f k x1).bind fun t697 => (if ((rd_T115 x0 x5).f0).toList = t697.toList then (if ((rd_T115 x0 x5).f1) = (wrap64 (x1 + 1)) then (if ((rd_T115 x0 x5).f2) = (wrap64 ((wrap64 (x1 + 1)) + 1)) then ((laws_markText.f k (wrap64 ((wrap64 ((wrap64 (x1 + 1)) + 1)) + 1))).bind fun t701 => (if ((rd_T115 x0 x5).f3).toList = t701.toList then (if ((rd_T115 x0 x5).f4) = (wrap64 ((wrap64 ((wrap64 ((wrap64 (x1 + 1)) + 1)) + 1)) + 1)) then ((laws_markText.f k (wrap64 ((wrap64 ((wrap64 ((wrap64 ((wrap64 (x1 + 1)) + 1)) + 1)) + 1)) + 1))).bind fun t704 => (if ((rd_T115 x0 x5).f5).toList = t704.toList then (if (((rd_T115 x0 x5).f6) != ((Int.tmod (wrap64 ((wrap64 ((wrap64 ((wrap64 ((wrap64 ((wrap64 (x1 + 1)) + 1)) + 1)) + 1)) + 1)) + 1)) 3) == 0)) = true then (none) else (if ((rd_T115 x0 x5).f7) = (wrap64 ((wrap64 ((wrap64 ((wrap64 ((wrap64 ((wrap64 ((wrap64 (x1 + 1)) + 1)) + 1)) + 1)) + 1)) + 1)) + 1)) then (if ((rd_T115 x0 x5).f8) = (wrap64 ((wrap64 ((wrap64 ((wrap64 ((wrap64 ((wrap64 ((wrap64 ((wrap64 (x1 + 1)) + 1)) + 1)) + 1)) + 1)) + 1)) + 1)) + 1)) then (if ((rd_T115 x0 x5).f9) = (wrap64 ((wrap64 ((wrap64 ((wrap64 ((wrap64 ((wrap64 ((wrap64 ((wrap64 ((wrap64 (x1 + 1)) + 1)) + 1)) + 1)) + 1)) + 1)) + 1)) + 1)) + 1)) then (laws_heldLineS.l0 k x0 (wrap64 ((wrap64 ((wrap64 ((wrap64 ((wrap64 ((wrap64 ((wrap64 ((wrap64 ((wrap64 ((wrap64 (x1 + 1)) + 1)) + 1)) + 1)) + 1)) + 1)) + 1)) + 1)) + 1)) + 1)) (wrap64 (x5 + 1))) else (none)) else (none)) else (none))) else (none))) else (none)) else (none))) else (none)) else (none)) else (none))) else (none)) else (some x1)
def laws_heldLineS.f (k : Nat) (l0 : List (S115)) (a1 : Int) : Option (Int) := laws_heldLineS.l0 k l0 a1 0
theorem laws_heldLineS.mono_l : ∀ k, (∀ y0 y1 y2, LeO (laws_heldLineS.l0 k y0 y1 y2) (laws_heldLineS.l0 (k + 1) y0 y1 y2))
  | 0 => fun _ _ _ r h => by simp [laws_heldLineS.l0] at h
  | k + 1 => by
    have ih0 := laws_heldLineS.mono_l k
    · intro y0 y1 y2
      unfold laws_heldLineS.l0
      repeat' first
      | (with_reducible exact ih0 _ _ _)
      | (with_reducible exact laws_markText.mono _ _)
      | (with_reducible exact LeO.refl _)
      | (with_reducible exact LeO.none _)
      | (with_reducible refine LeO.ite ?_ ?_)
      | (with_reducible refine LeO.bind ?_ (fun _ => ?_))
      | exact ih0 _ _ _
      | exact laws_markText.mono _ _
      | exact LeO.none _
      | refine LeO.ite ?_ ?_
      | refine LeO.bind ?_ (fun _ => ?_)
theorem laws_heldLineS.mono : ∀ a0 a1 k, LeO (laws_heldLineS.f k a0 a1) (laws_heldLineS.f (k + 1) a0 a1) := by
  intro a0 a1 k
  have ih0 := laws_heldLineS.mono_l k
  unfold laws_heldLineS.f
  repeat' first
      | (with_reducible exact ih0 _ _ _)
      | (with_reducible exact laws_markText.mono _ _)
      | (with_reducible exact LeO.refl _)
      | (with_reducible exact LeO.none _)
      | (with_reducible refine LeO.ite ?_ ?_)
      | (with_reducible refine LeO.bind ?_ (fun _ => ?_))
      | exact ih0 _ _ _
      | exact laws_markText.mono _ _
      | exact LeO.none _
      | refine LeO.ite ?_ ?_
      | refine LeO.bind ?_ (fun _ => ?_)
def laws_heldLineS.T4 : Bool × List (List Nat × List Nat) := (true, [([], []), ([], []), ([0, 1], [0, 1]), ([2], [2]), ([3], [3]), ([], []), ([5], [5]), ([4, 6], [4, 6])])
def laws_heldLineS.B4 : List Nat := [0, 0, 3, 7, 15, 0, 32, 127]
theorem laws_heldLineS.tab4 : rtab .any (opsOf Try.f100 4) = laws_heldLineS.T4 := by kernel_rfl
theorem laws_heldLineS.bits4 : waitsOk laws_heldLineS.T4.2 laws_heldLineS.B4 = true := by kernel_rfl
def laws_heldLineS.T13 : Bool × List (List Nat × List Nat) := (true, [([], []), ([], []), ([0, 1], [0, 1]), ([2], [2]), ([3], [3]), ([], []), ([5], [5]), ([4, 6], [4, 6])])
def laws_heldLineS.B13 : List Nat := [0, 0, 3, 7, 15, 0, 32, 127]
theorem laws_heldLineS.tab13 : rtab .any (opsOf Try.f100 13) = laws_heldLineS.T13 := by kernel_rfl
theorem laws_heldLineS.bits13 : waitsOk laws_heldLineS.T13.2 laws_heldLineS.B13 = true := by kernel_rfl
def laws_heldLineS.T19 : Bool × List (List Nat × List Nat) := (true, [([], []), ([], []), ([0, 1], [0, 1]), ([2], [2]), ([3], [3]), ([], []), ([5], [5]), ([4, 6], [4, 6])])
def laws_heldLineS.B19 : List Nat := [0, 0, 3, 7, 15, 0, 32, 127]
theorem laws_heldLineS.tab19 : rtab .any (opsOf Try.f100 19) = laws_heldLineS.T19 := by kernel_rfl
theorem laws_heldLineS.bits19 : waitsOk laws_heldLineS.T19.2 laws_heldLineS.B19 = true := by kernel_rfl
set_option maxHeartbeats 8000000 in
set_option maxRecDepth 100000 in
theorem laws_heldLineS.calls (k : Nat) (A0 : Option Addr) (c0 : Nat) (l0 : List (S115)) (a1 : Int) (r : Int) (w : World) (hr0 : Kd.C k115 w A0 l0.length l0) (hc0 : l0.length ≤ c0) (h : laws_heldLineS.f k l0 a1 = some r) :
    Calls Try.prog 100 #[.slice A0 l0.length c0, .int .i64 a1] w fun e w' => e = .returned (.int .i64 r) ∧ Below w.heap.size w w' := by
  have HR0 := Aside0.mk hr0
  have HC0 := Aside0.mk hc0
  clear hr0 hc0
  have HB := Aside0.mk (Below.refl w.heap.size w)
  have H : (laws_heldLineS.l0 k l0 a1 0) = some r := h
  clear h
  have H' := Aside0.mk H
  clear H
  go_enter Try.func100, Try.ntmps100
  go_wp2
  go_loopg [1, 5] k (fun kq v1 v5 w' => ∃ (x1_1 : Int) (x5_1 : Int), v1 = .int .i64 x1_1 ∧ v5 = .int .i64 x5_1 ∧ Aside0 (laws_heldLineS.l0 kq l0 x1_1 x5_1 = some r) ∧ Aside0 (kq ≤ k) ∧ Aside0 (Below w.heap.size w w'))
  case atStart => exact ⟨(a1), (0), (by first | rfl | (simp; done) | (simp [*]; done)), (by first | rfl | (simp; done) | (simp [*]; done)), H', ⟨Nat.le_refl _⟩, ⟨by repeat (first | (with_reducible first | exact HB.out | apply below_alloc | apply pw_below_drewN | apply below_drew1) | exact HB.out)⟩⟩
  case round =>
    clear H'
    try clear c1
    try clear p2
    obtain ⟨x1_1, x5_1, rfl, rfl, HA, HK1, HB⟩ := hrel
    cases gk with
    | zero => exact absurd HA.out (by simp [laws_heldLineS.l0])
    | succ k1 =>
      have H := HA.out
      clear HA
      simp only [laws_heldLineS.l0] at H
      by_cases c3 : x5_1 < (l0.length : Int)
      · rw [if_pos c3] at H
        have c3b0 : decide (x5_1 < (l0.length : Int)) = true := decide_eq_true c3
        clear c3
        by_cases c4 : 0 ≤ x5_1
        · rw [if_pos c4] at H
          have c4b0 : decide (0 ≤ x5_1) = true := decide_eq_true c4
          clear c4
          replace H := Option.bind_eq_some_iff.mp H
          obtain ⟨t697, A50, H⟩ := H
          replace H : (if ((rd_T115 l0 x5_1).f0).toList = t697.toList then (if ((rd_T115 l0 x5_1).f1) = (wrap64 (x1_1 + 1)) then (if ((rd_T115 l0 x5_1).f2) = (wrap64 ((wrap64 (x1_1 + 1)) + 1)) then ((laws_markText.f k1 (wrap64 ((wrap64 ((wrap64 (x1_1 + 1)) + 1)) + 1))).bind fun t701 => (if ((rd_T115 l0 x5_1).f3).toList = t701.toList then (if ((rd_T115 l0 x5_1).f4) = (wrap64 ((wrap64 ((wrap64 ((wrap64 (x1_1 + 1)) + 1)) + 1)) + 1)) then ((laws_markText.f k1 (wrap64 ((wrap64 ((wrap64 ((wrap64 ((wrap64 (x1_1 + 1)) + 1)) + 1)) + 1)) + 1))).bind fun t704 => (if ((rd_T115 l0 x5_1).f5).toList = t704.toList then (if (((rd_T115 l0 x5_1).f6) != ((Int.tmod (wrap64 ((wrap64 ((wrap64 ((wrap64 ((wrap64 ((wrap64 (x1_1 + 1)) + 1)) + 1)) + 1)) + 1)) + 1)) 3) == 0)) = true then (none) else (if ((rd_T115 l0 x5_1).f7) = (wrap64 ((wrap64 ((wrap64 ((wrap64 ((wrap64 ((wrap64 ((wrap64 (x1_1 + 1)) + 1)) + 1)) + 1)) + 1)) + 1)) + 1)) then (if ((rd_T115 l0 x5_1).f8) = (wrap64 ((wrap64 ((wrap64 ((wrap64 ((wrap64 ((wrap64 ((wrap64 ((wrap64 (x1_1 + 1)) + 1)) + 1)) + 1)) + 1)) + 1)) + 1)) + 1)) then (if ((rd_T115 l0 x5_1).f9) = (wrap64 ((wrap64 ((wrap64 ((wrap64 ((wrap64 ((wrap64 ((wrap64 ((wrap64 ((wrap64 (x1_1 + 1)) + 1)) + 1)) + 1)) + 1)) + 1)) + 1)) + 1)) + 1)) then (laws_heldLineS.l0 k1 l0 (wrap64 ((wrap64 ((wrap64 ((wrap64 ((wrap64 ((wrap64 ((wrap64 ((wrap64 ((wrap64 ((wrap64 (x1_1 + 1)) + 1)) + 1)) + 1)) + 1)) + 1)) + 1)) + 1)) + 1)) + 1)) (wrap64 (x5_1 + 1))) else (none)) else (none)) else (none))) else (none))) else (none)) else (none))) else (none)) else (none)) else (none)) = some r := H
          have A5 := Aside0.mk A50
          clear A50
          by_cases c6 : ((rd_T115 l0 x5_1).f0).toList = t697.toList
          · rw [if_pos c6] at H
            have c6b0 : (((rd_T115 l0 x5_1).f0).toList == t697.toList) = true := beq_iff_eq.mpr c6
            have c6b1 : (((rd_T115 l0 x5_1).f0).toList != t697.toList) = false := bne_eq_false_iff_eq.mpr c6
            clear c6
            by_cases c7 : ((rd_T115 l0 x5_1).f1) = (wrap64 (x1_1 + 1))
            · rw [if_pos c7] at H
              have c7b0 : (((rd_T115 l0 x5_1).f1) == (wrap64 (x1_1 + 1))) = true := beq_iff_eq.mpr c7
              have c7b1 : (((rd_T115 l0 x5_1).f1) != (wrap64 (x1_1 + 1))) = false := bne_eq_false_iff_eq.mpr c7
              clear c7
              by_cases c8 : ((rd_T115 l0 x5_1).f2) = (wrap64 ((wrap64 (x1_1 + 1)) + 1))
              · rw [if_pos c8] at H
                have c8b0 : (((rd_T115 l0 x5_1).f2) == (wrap64 ((wrap64 (x1_1 + 1)) + 1))) = true := beq_iff_eq.mpr c8
                have c8b1 : (((rd_T115 l0 x5_1).f2) != (wrap64 ((wrap64 (x1_1 + 1)) + 1))) = false := bne_eq_false_iff_eq.mpr c8
                clear c8
                replace H := Option.bind_eq_some_iff.mp H
                obtain ⟨t701, A90, H⟩ := H
                replace H : (if ((rd_T115 l0 x5_1).f3).toList = t701.toList then (if ((rd_T115 l0 x5_1).f4) = (wrap64 ((wrap64 ((wrap64 ((wrap64 (x1_1 + 1)) + 1)) + 1)) + 1)) then ((laws_markText.f k1 (wrap64 ((wrap64 ((wrap64 ((wrap64 ((wrap64 (x1_1 + 1)) + 1)) + 1)) + 1)) + 1))).bind fun t704 => (if ((rd_T115 l0 x5_1).f5).toList = t704.toList then (if (((rd_T115 l0 x5_1).f6) != ((Int.tmod (wrap64 ((wrap64 ((wrap64 ((wrap64 ((wrap64 ((wrap64 (x1_1 + 1)) + 1)) + 1)) + 1)) + 1)) + 1)) 3) == 0)) = true then (none) else (if ((rd_T115 l0 x5_1).f7) = (wrap64 ((wrap64 ((wrap64 ((wrap64 ((wrap64 ((wrap64 ((wrap64 (x1_1 + 1)) + 1)) + 1)) + 1)) + 1)) + 1)) + 1)) then (if ((rd_T115 l0 x5_1).f8) = (wrap64 ((wrap64 ((wrap64 ((wrap64 ((wrap64 ((wrap64 ((wrap64 ((wrap64 (x1_1 + 1)) + 1)) + 1)) + 1)) + 1)) + 1)) + 1)) + 1)) then (if ((rd_T115 l0 x5_1).f9) = (wrap64 ((wrap64 ((wrap64 ((wrap64 ((wrap64 ((wrap64 ((wrap64 ((wrap64 ((wrap64 (x1_1 + 1)) + 1)) + 1)) + 1)) + 1)) + 1)) + 1)) + 1)) + 1)) then (laws_heldLineS.l0 k1 l0 (wrap64 ((wrap64 ((wrap64 ((wrap64 ((wrap64 ((wrap64 ((wrap64 ((wrap64 ((wrap64 ((wrap64 (x1_1 + 1)) + 1)) + 1)) + 1)) + 1)) + 1)) + 1)) + 1)) + 1)) + 1)) (wrap64 (x5_1 + 1))) else (none)) else (none)) else (none))) else (none))) else (none)) else (none)) = some r := H
                have A9 := Aside0.mk A90
                clear A90
                by_cases c10 : ((rd_T115 l0 x5_1).f3).toList = t701.toList
                · rw [if_pos c10] at H
                  have c10b0 : (((rd_T115 l0 x5_1).f3).toList == t701.toList) = true := beq_iff_eq.mpr c10
                  have c10b1 : (((rd_T115 l0 x5_1).f3).toList != t701.toList) = false := bne_eq_false_iff_eq.mpr c10
                  clear c10
                  by_cases c11 : ((rd_T115 l0 x5_1).f4) = (wrap64 ((wrap64 ((wrap64 ((wrap64 (x1_1 + 1)) + 1)) + 1)) + 1))
                  · rw [if_pos c11] at H
                    have c11b0 : (((rd_T115 l0 x5_1).f4) == (wrap64 ((wrap64 ((wrap64 ((wrap64 (x1_1 + 1)) + 1)) + 1)) + 1))) = true := beq_iff_eq.mpr c11
                    have c11b1 : (((rd_T115 l0 x5_1).f4) != (wrap64 ((wrap64 ((wrap64 ((wrap64 (x1_1 + 1)) + 1)) + 1)) + 1))) = false := bne_eq_false_iff_eq.mpr c11
                    clear c11
                    replace H := Option.bind_eq_some_iff.mp H
                    obtain ⟨t704, A120, H⟩ := H
                    replace H : (if ((rd_T115 l0 x5_1).f5).toList = t704.toList then (if (((rd_T115 l0 x5_1).f6) != ((Int.tmod (wrap64 ((wrap64 ((wrap64 ((wrap64 ((wrap64 ((wrap64 (x1_1 + 1)) + 1)) + 1)) + 1)) + 1)) + 1)) 3) == 0)) = true then (none) else (if ((rd_T115 l0 x5_1).f7) = (wrap64 ((wrap64 ((wrap64 ((wrap64 ((wrap64 ((wrap64 ((wrap64 (x1_1 + 1)) + 1)) + 1)) + 1)) + 1)) + 1)) + 1)) then (if ((rd_T115 l0 x5_1).f8) = (wrap64 ((wrap64 ((wrap64 ((wrap64 ((wrap64 ((wrap64 ((wrap64 ((wrap64 (x1_1 + 1)) + 1)) + 1)) + 1)) + 1)) + 1)) + 1)) + 1)) then (if ((rd_T115 l0 x5_1).f9) = (wrap64 ((wrap64 ((wrap64 ((wrap64 ((wrap64 ((wrap64 ((wrap64 ((wrap64 ((wrap64 (x1_1 + 1)) + 1)) + 1)) + 1)) + 1)) + 1)) + 1)) + 1)) + 1)) then (laws_heldLineS.l0 k1 l0 (wrap64 ((wrap64 ((wrap64 ((wrap64 ((wrap64 ((wrap64 ((wrap64 ((wrap64 ((wrap64 ((wrap64 (x1_1 + 1)) + 1)) + 1)) + 1)) + 1)) + 1)) + 1)) + 1)) + 1)) + 1)) (wrap64 (x5_1 + 1))) else (none)) else (none)) else (none))) else (none)) = some r := H
                    have A12 := Aside0.mk A120
                    clear A120
                    by_cases c13 : ((rd_T115 l0 x5_1).f5).toList = t704.toList
                    · rw [if_pos c13] at H
                      have c13b0 : (((rd_T115 l0 x5_1).f5).toList == t704.toList) = true := beq_iff_eq.mpr c13
                      have c13b1 : (((rd_T115 l0 x5_1).f5).toList != t704.toList) = false := bne_eq_false_iff_eq.mpr c13
                      clear c13
                      by_cases c14 : (((rd_T115 l0 x5_1).f6) != ((Int.tmod (wrap64 ((wrap64 ((wrap64 ((wrap64 ((wrap64 ((wrap64 (x1_1 + 1)) + 1)) + 1)) + 1)) + 1)) + 1)) 3) == 0)) = true
                      · rw [if_pos c14] at H
                        exact absurd H (by simp)
                      · rw [if_neg c14] at H
                        have c14b0 : (((rd_T115 l0 x5_1).f6) != ((Int.tmod (wrap64 ((wrap64 ((wrap64 ((wrap64 ((wrap64 ((wrap64 (x1_1 + 1)) + 1)) + 1)) + 1)) + 1)) + 1)) 3) == 0)) = false := by simpa using c14
                        (try (have c14b1 : decide (((rd_T115 l0 x5_1).f6) = ((Int.tmod (wrap64 ((wrap64 ((wrap64 ((wrap64 ((wrap64 ((wrap64 (x1_1 + 1)) + 1)) + 1)) + 1)) + 1)) + 1)) 3) == 0)) = true := by simpa using c14))
                        (try (have c14b2 : (((rd_T115 l0 x5_1).f6) == ((Int.tmod (wrap64 ((wrap64 ((wrap64 ((wrap64 ((wrap64 ((wrap64 (x1_1 + 1)) + 1)) + 1)) + 1)) + 1)) + 1)) 3) == 0)) = true := by simpa using c14))
                        clear c14
                        by_cases c15 : ((rd_T115 l0 x5_1).f7) = (wrap64 ((wrap64 ((wrap64 ((wrap64 ((wrap64 ((wrap64 ((wrap64 (x1_1 + 1)) + 1)) + 1)) + 1)) + 1)) + 1)) + 1))
                        · rw [if_pos c15] at H
                          have c15b0 : (((rd_T115 l0 x5_1).f7) == (wrap64 ((wrap64 ((wrap64 ((wrap64 ((wrap64 ((wrap64 ((wrap64 (x1_1 + 1)) + 1)) + 1)) + 1)) + 1)) + 1)) + 1))) = true := beq_iff_eq.mpr c15
                          have c15b1 : (((rd_T115 l0 x5_1).f7) != (wrap64 ((wrap64 ((wrap64 ((wrap64 ((wrap64 ((wrap64 ((wrap64 (x1_1 + 1)) + 1)) + 1)) + 1)) + 1)) + 1)) + 1))) = false := bne_eq_false_iff_eq.mpr c15
                          clear c15
                          by_cases c16 : ((rd_T115 l0 x5_1).f8) = (wrap64 ((wrap64 ((wrap64 ((wrap64 ((wrap64 ((wrap64 ((wrap64 ((wrap64 (x1_1 + 1)) + 1)) + 1)) + 1)) + 1)) + 1)) + 1)) + 1))
                          · rw [if_pos c16] at H
                            have c16b0 : (((rd_T115 l0 x5_1).f8) == (wrap64 ((wrap64 ((wrap64 ((wrap64 ((wrap64 ((wrap64 ((wrap64 ((wrap64 (x1_1 + 1)) + 1)) + 1)) + 1)) + 1)) + 1)) + 1)) + 1))) = true := beq_iff_eq.mpr c16
                            have c16b1 : (((rd_T115 l0 x5_1).f8) != (wrap64 ((wrap64 ((wrap64 ((wrap64 ((wrap64 ((wrap64 ((wrap64 ((wrap64 (x1_1 + 1)) + 1)) + 1)) + 1)) + 1)) + 1)) + 1)) + 1))) = false := bne_eq_false_iff_eq.mpr c16
                            clear c16
                            by_cases c17 : ((rd_T115 l0 x5_1).f9) = (wrap64 ((wrap64 ((wrap64 ((wrap64 ((wrap64 ((wrap64 ((wrap64 ((wrap64 ((wrap64 (x1_1 + 1)) + 1)) + 1)) + 1)) + 1)) + 1)) + 1)) + 1)) + 1))
                            · rw [if_pos c17] at H
                              have c17b0 : (((rd_T115 l0 x5_1).f9) == (wrap64 ((wrap64 ((wrap64 ((wrap64 ((wrap64 ((wrap64 ((wrap64 ((wrap64 ((wrap64 (x1_1 + 1)) + 1)) + 1)) + 1)) + 1)) + 1)) + 1)) + 1)) + 1))) = true := beq_iff_eq.mpr c17
                              have c17b1 : (((rd_T115 l0 x5_1).f9) != (wrap64 ((wrap64 ((wrap64 ((wrap64 ((wrap64 ((wrap64 ((wrap64 ((wrap64 ((wrap64 (x1_1 + 1)) + 1)) + 1)) + 1)) + 1)) + 1)) + 1)) + 1)) + 1))) = false := bne_eq_false_iff_eq.mpr c17
                              clear c17
                              have H' := Aside0.mk H
                              clear H
                              try go_wp2
                              have n0_ := Aside0.mk (below_drew1 HB.out)
                              clear HB
                              have HB := n0_
                              clear n0_
                              have p696 : 0 ≤ (x5_1 : Int) := of_decide_eq_true (by first | (with_reducible assumption) | assumption)
                              have q696 : x5_1 < (l0.length : Int) := of_decide_eq_true (by first | (with_reducible assumption) | assumption)
                              obtain ⟨ad696, e696, hx696_0, hx696_1, hx696_2, hx696_3, hx696_4, hx696_5, hx696_6, hx696_7, hx696_8, hx696_9⟩ := at_T115 HR0.out x5_1 p696 q696
                              have hw696_9 := hx696_9
                              have hw696_8 := hx696_8
                              have hw696_7 := hx696_7
                              have hw696_6 := hx696_6
                              have hw696_5 := hx696_5
                              have hw696_4 := hx696_4
                              have hw696_3 := hx696_3
                              have hw696_2 := hx696_2
                              have hw696_1 := hx696_1
                              have hw696_0 := hx696_0
                              cases e696
                              replace hx696_0 := (HB.out.cell (World.block_lt_of_cell? w _ hx696_0)).trans hx696_0
                              replace hx696_1 := (HB.out.cell (World.block_lt_of_cell? w _ hx696_1)).trans hx696_1
                              replace hx696_2 := (HB.out.cell (World.block_lt_of_cell? w _ hx696_2)).trans hx696_2
                              replace hx696_3 := (HB.out.cell (World.block_lt_of_cell? w _ hx696_3)).trans hx696_3
                              replace hx696_4 := (HB.out.cell (World.block_lt_of_cell? w _ hx696_4)).trans hx696_4
                              replace hx696_5 := (HB.out.cell (World.block_lt_of_cell? w _ hx696_5)).trans hx696_5
                              replace hx696_6 := (HB.out.cell (World.block_lt_of_cell? w _ hx696_6)).trans hx696_6
                              replace hx696_7 := (HB.out.cell (World.block_lt_of_cell? w _ hx696_7)).trans hx696_7
                              replace hx696_8 := (HB.out.cell (World.block_lt_of_cell? w _ hx696_8)).trans hx696_8
                              replace hx696_9 := (HB.out.cell (World.block_lt_of_cell? w _ hx696_9)).trans hx696_9
                              replace p696 := eq_true p696
                              replace q696 := eq_true q696
                              refine start_ (n := 8) (S := fun w' => w'.cell? (ad696.add ((x5_1).toNat * 10)) = some (.string ((rd_T115 l0 x5_1).f0)) ∧ w'.cell? ⟨(ad696.add ((x5_1).toNat * 10)).block, (ad696.add ((x5_1).toNat * 10)).off + 1, none⟩ = some (.int .i64 ((rd_T115 l0 x5_1).f1)) ∧ w'.cell? ⟨(ad696.add ((x5_1).toNat * 10)).block, (ad696.add ((x5_1).toNat * 10)).off + 2, none⟩ = some (.int .i64 ((rd_T115 l0 x5_1).f2)) ∧ w'.cell? ⟨(ad696.add ((x5_1).toNat * 10)).block, (ad696.add ((x5_1).toNat * 10)).off + 3, none⟩ = some (.string ((rd_T115 l0 x5_1).f3)) ∧ w'.cell? ⟨(ad696.add ((x5_1).toNat * 10)).block, (ad696.add ((x5_1).toNat * 10)).off + 4, none⟩ = some (.int .i64 ((rd_T115 l0 x5_1).f4)) ∧ w'.cell? ⟨(ad696.add ((x5_1).toNat * 10)).block, (ad696.add ((x5_1).toNat * 10)).off + 5, none⟩ = some (.string ((rd_T115 l0 x5_1).f5)) ∧ w'.cell? ⟨(ad696.add ((x5_1).toNat * 10)).block, (ad696.add ((x5_1).toNat * 10)).off + 6, none⟩ = some (.bool ((rd_T115 l0 x5_1).f6)) ∧ w'.cell? ⟨(ad696.add ((x5_1).toNat * 10)).block, (ad696.add ((x5_1).toNat * 10)).off + 7, none⟩ = some (.int .i64 ((rd_T115 l0 x5_1).f7)) ∧ w'.cell? ⟨(ad696.add ((x5_1).toNat * 10)).block, (ad696.add ((x5_1).toNat * 10)).off + 8, none⟩ = some (.int .i64 ((rd_T115 l0 x5_1).f8)) ∧ w'.cell? ⟨(ad696.add ((x5_1).toNat * 10)).block, (ad696.add ((x5_1).toNat * 10)).off + 9, none⟩ = some (.int .i64 ((rd_T115 l0 x5_1).f9))) (ds := []) #[false, false, false, false, false, false, false, false] (by kernel_rfl) rfl rfl ⟨((HB.out.cell (World.block_lt_of_cell? w _ hw696_0)).trans hw696_0), ((HB.out.cell (World.block_lt_of_cell? w _ hw696_1)).trans hw696_1), ((HB.out.cell (World.block_lt_of_cell? w _ hw696_2)).trans hw696_2), ((HB.out.cell (World.block_lt_of_cell? w _ hw696_3)).trans hw696_3), ((HB.out.cell (World.block_lt_of_cell? w _ hw696_4)).trans hw696_4), ((HB.out.cell (World.block_lt_of_cell? w _ hw696_5)).trans hw696_5), ((HB.out.cell (World.block_lt_of_cell? w _ hw696_6)).trans hw696_6), ((HB.out.cell (World.block_lt_of_cell? w _ hw696_7)).trans hw696_7), ((HB.out.cell (World.block_lt_of_cell? w _ hw696_8)).trans hw696_8), ((HB.out.cell (World.block_lt_of_cell? w _ hw696_9)).trans hw696_9)⟩ (fun hHeld => ?_); refine with_tabW laws_heldLineS.tab4 laws_heldLineS.bits4 (fun HT_ HW_ => ?_)
                              generalize wr.drew = w18 at HB hx696_0 hx696_1 hx696_2 hx696_3 hx696_4 hx696_5 hx696_6 hx696_7 hx696_8 hx696_9 hHeld ⊢
                              refine pure_ (i := 0) (N := some 12) (v := ?_) (a' := ?_) #[true, false, false, false, false, false, false, false] rfl rfl (any_of HT_.out (by kernel_rfl)) (fun _ _ _ h => h) (Or.inl ⟨by rfl, ?_⟩) ?_ ?_
                              rotate_left
                              · intro w'
                                go_simp
                                with_reducible rfl
                              rotate_left
                              · simp only [Act.put, List.setIfInBounds_toArray, List.set_cons_zero, List.set_cons_succ, i64_w, i32_w]
                                rfl
                              refine pure_ (i := 1) (N := some 13) (v := ?_) (a' := ?_) #[true, true, false, false, false, false, false, false] rfl rfl (any_of HT_.out (by kernel_rfl)) (fun _ _ _ h => h) (Or.inl ⟨by rfl, ?_⟩) ?_ ?_
                              rotate_left
                              · intro w'
                                go_simp
                                with_reducible rfl
                              rotate_left
                              · simp only [Act.put, List.setIfInBounds_toArray, List.set_cons_zero, List.set_cons_succ, i64_w, i32_w]
                                rfl
                              refine pure_ (i := 2) (N := some 14) (v := ?_) (a' := ?_) #[true, true, true, false, false, false, false, false] rfl rfl (any_of HT_.out (by kernel_rfl)) (fun _ _ _ h => h) (Or.inl ⟨by rfl, ?_⟩) ?_ ?_
                              rotate_left
                              · intro w'
                                go_simp
                                with_reducible rfl
                              rotate_left
                              · simp only [Act.put, List.setIfInBounds_toArray, List.set_cons_zero, List.set_cons_succ, i64_w, i32_w]
                                rfl
                              refine pure_ (i := 3) (N := some 15) (v := ?_) (a' := ?_) #[true, true, true, true, false, false, false, false] rfl rfl (any_of HT_.out (by kernel_rfl)) (fun _ _ _ h => h) (Or.inl ⟨by rfl, ?_⟩) ?_ ?_
                              rotate_left
                              · intro w'
                                go_simp
                                with_reducible rfl
                              rotate_left
                              · simp only [Act.put, List.setIfInBounds_toArray, List.set_cons_zero, List.set_cons_succ, i64_w, i32_w]
                                rfl
                              refine pure_ (i := 5) (N := some 17) (v := ?_) (a' := ?_) #[true, true, true, true, false, true, false, false] rfl rfl (any_of HT_.out (by kernel_rfl)) (fun _ _ _ h => h) (Or.inl ⟨by rfl, ?_⟩) ?_ ?_
                              rotate_left
                              · intro w'
                                go_simp
                                with_reducible rfl
                              rotate_left
                              · simp only [Act.put, List.setIfInBounds_toArray, List.set_cons_zero, List.set_cons_succ, i64_w, i32_w]
                                rfl
                              refine take_ (i := 4) (N := some 16) (v := ?_) (a' := ?_) #[true, true, true, true, true, true, false, false] rfl rfl (take_ofW HT_.out HW_.out (by kernel_rfl)) (fun _ _ _ h => h) (Or.inl ⟨by rfl, ?_⟩) hHeld ?_ ?_
                              rotate_left
                              · rintro w' ⟨s0, s1, s2, s3, s4, s5, s6, s7, s8, s9⟩
                                go_simp
                                with_reducible rfl
                              rotate_left
                              · simp only [Act.put, List.setIfInBounds_toArray, List.set_cons_zero, List.set_cons_succ, i64_w, i32_w]
                                rfl
                              refine one_ (i := 6) (N := some 18) #[true, true, true, true, true, true, true, false] rfl rfl (one_of HT_.out (by kernel_rfl)) (by decide) (fun K hK => ?_)
                              refine goes_ Try.func85 (by kernel_rfl) rfl #[.int .i64 x1_1] (by rfl) rfl rfl (by (try simp only [List.map_toArray, List.map_cons, List.map_nil]); first | done | rfl | (simp only [List.length_drop, List.length_take]; rfl)) ?_
                              with_reducible refine (laws_markText.calls k1 x1_1 t697 _ A5.out).mono ?_
                              rintro e w19 ⟨rfl, hb⟩
                              refine ⟨_, rfl, ?_⟩
                              have n0_ := Aside0.mk (below_step (by repeat (first | (with_reducible first | exact HB.out | apply below_alloc | apply pw_below_drewN | apply below_drew1) | exact HB.out)) hb)
                              clear HB
                              have HB := n0_
                              clear n0_
                              (try clear hb)
                              (try clear hb2)
                              (try clear hk)
                              (try clear hi)
                              refine hK.out _ _ ⟨((HB.out.cell (World.block_lt_of_cell? w _ hw696_0)).trans hw696_0), ((HB.out.cell (World.block_lt_of_cell? w _ hw696_1)).trans hw696_1), ((HB.out.cell (World.block_lt_of_cell? w _ hw696_2)).trans hw696_2), ((HB.out.cell (World.block_lt_of_cell? w _ hw696_3)).trans hw696_3), ((HB.out.cell (World.block_lt_of_cell? w _ hw696_4)).trans hw696_4), ((HB.out.cell (World.block_lt_of_cell? w _ hw696_5)).trans hw696_5), ((HB.out.cell (World.block_lt_of_cell? w _ hw696_6)).trans hw696_6), ((HB.out.cell (World.block_lt_of_cell? w _ hw696_7)).trans hw696_7), ((HB.out.cell (World.block_lt_of_cell? w _ hw696_8)).trans hw696_8), ((HB.out.cell (World.block_lt_of_cell? w _ hw696_9)).trans hw696_9)⟩ (fun hHeld => ?_)
                              clear hK K
                              refine norm_ (a' := ?_) ?_ ?_
                              rotate_left
                              · show Act.put _ (some 18) _ = _
                                simp only [Act.put, List.setIfInBounds_toArray, List.set_cons_zero, List.set_cons_succ, i64_w, i32_w]
                                rfl
                              refine pure_ (i := 7) (N := some 19) (v := ?_) (a' := ?_) #[true, true, true, true, true, true, true, true] rfl rfl (any_of HT_.out (by kernel_rfl)) (fun _ _ _ h => h) (Or.inl ⟨by rfl, ?_⟩) ?_ ?_
                              rotate_left
                              · intro w'
                                go_simp
                                with_reducible rfl
                              rotate_left
                              · simp only [Act.put, List.setIfInBounds_toArray, List.set_cons_zero, List.set_cons_succ, i64_w, i32_w]
                                rfl
                              refine done_ (done_of HT_.out (by kernel_rfl)) ?_
                              have p698 : 0 ≤ (x5_1 : Int) := of_decide_eq_true (by first | (with_reducible assumption) | assumption)
                              have q698 : x5_1 < (l0.length : Int) := of_decide_eq_true (by first | (with_reducible assumption) | assumption)
                              obtain ⟨ad698, e698, hx698_0, hx698_1, hx698_2, hx698_3, hx698_4, hx698_5, hx698_6, hx698_7, hx698_8, hx698_9⟩ := at_T115 HR0.out x5_1 p698 q698
                              obtain rfl : ad696 = ad698 := (by injection e698)
                              replace hx698_0 := (HB.out.cell (World.block_lt_of_cell? w _ hx698_0)).trans hx698_0
                              replace hx698_1 := (HB.out.cell (World.block_lt_of_cell? w _ hx698_1)).trans hx698_1
                              replace hx698_2 := (HB.out.cell (World.block_lt_of_cell? w _ hx698_2)).trans hx698_2
                              replace hx698_3 := (HB.out.cell (World.block_lt_of_cell? w _ hx698_3)).trans hx698_3
                              replace hx698_4 := (HB.out.cell (World.block_lt_of_cell? w _ hx698_4)).trans hx698_4
                              replace hx698_5 := (HB.out.cell (World.block_lt_of_cell? w _ hx698_5)).trans hx698_5
                              replace hx698_6 := (HB.out.cell (World.block_lt_of_cell? w _ hx698_6)).trans hx698_6
                              replace hx698_7 := (HB.out.cell (World.block_lt_of_cell? w _ hx698_7)).trans hx698_7
                              replace hx698_8 := (HB.out.cell (World.block_lt_of_cell? w _ hx698_8)).trans hx698_8
                              replace hx698_9 := (HB.out.cell (World.block_lt_of_cell? w _ hx698_9)).trans hx698_9
                              replace p698 := eq_true p698
                              replace q698 := eq_true q698
                              have p699 : 0 ≤ (x5_1 : Int) := of_decide_eq_true (by first | (with_reducible assumption) | assumption)
                              have q699 : x5_1 < (l0.length : Int) := of_decide_eq_true (by first | (with_reducible assumption) | assumption)
                              obtain ⟨ad699, e699, hx699_0, hx699_1, hx699_2, hx699_3, hx699_4, hx699_5, hx699_6, hx699_7, hx699_8, hx699_9⟩ := at_T115 HR0.out x5_1 p699 q699
                              obtain rfl : ad696 = ad699 := (by injection e699)
                              replace hx699_0 := (HB.out.cell (World.block_lt_of_cell? w _ hx699_0)).trans hx699_0
                              replace hx699_1 := (HB.out.cell (World.block_lt_of_cell? w _ hx699_1)).trans hx699_1
                              replace hx699_2 := (HB.out.cell (World.block_lt_of_cell? w _ hx699_2)).trans hx699_2
                              replace hx699_3 := (HB.out.cell (World.block_lt_of_cell? w _ hx699_3)).trans hx699_3
                              replace hx699_4 := (HB.out.cell (World.block_lt_of_cell? w _ hx699_4)).trans hx699_4
                              replace hx699_5 := (HB.out.cell (World.block_lt_of_cell? w _ hx699_5)).trans hx699_5
                              replace hx699_6 := (HB.out.cell (World.block_lt_of_cell? w _ hx699_6)).trans hx699_6
                              replace hx699_7 := (HB.out.cell (World.block_lt_of_cell? w _ hx699_7)).trans hx699_7
                              replace hx699_8 := (HB.out.cell (World.block_lt_of_cell? w _ hx699_8)).trans hx699_8
                              replace hx699_9 := (HB.out.cell (World.block_lt_of_cell? w _ hx699_9)).trans hx699_9
                              replace p699 := eq_true p699
                              replace q699 := eq_true q699
                              try go_wp2
                              have n0_ := Aside0.mk (below_drew1 HB.out)
                              clear HB
                              have HB := n0_
                              clear n0_
                              have p700 : 0 ≤ (x5_1 : Int) := of_decide_eq_true (by first | (with_reducible assumption) | assumption)
                              have q700 : x5_1 < (l0.length : Int) := of_decide_eq_true (by first | (with_reducible assumption) | assumption)
                              obtain ⟨ad700, e700, hx700_0, hx700_1, hx700_2, hx700_3, hx700_4, hx700_5, hx700_6, hx700_7, hx700_8, hx700_9⟩ := at_T115 HR0.out x5_1 p700 q700
                              have hw700_9 := hx700_9
                              have hw700_8 := hx700_8
                              have hw700_7 := hx700_7
                              have hw700_6 := hx700_6
                              have hw700_5 := hx700_5
                              have hw700_4 := hx700_4
                              have hw700_3 := hx700_3
                              have hw700_2 := hx700_2
                              have hw700_1 := hx700_1
                              have hw700_0 := hx700_0
                              obtain rfl : ad696 = ad700 := (by injection e700)
                              replace hx700_0 := (HB.out.cell (World.block_lt_of_cell? w _ hx700_0)).trans hx700_0
                              replace hx700_1 := (HB.out.cell (World.block_lt_of_cell? w _ hx700_1)).trans hx700_1
                              replace hx700_2 := (HB.out.cell (World.block_lt_of_cell? w _ hx700_2)).trans hx700_2
                              replace hx700_3 := (HB.out.cell (World.block_lt_of_cell? w _ hx700_3)).trans hx700_3
                              replace hx700_4 := (HB.out.cell (World.block_lt_of_cell? w _ hx700_4)).trans hx700_4
                              replace hx700_5 := (HB.out.cell (World.block_lt_of_cell? w _ hx700_5)).trans hx700_5
                              replace hx700_6 := (HB.out.cell (World.block_lt_of_cell? w _ hx700_6)).trans hx700_6
                              replace hx700_7 := (HB.out.cell (World.block_lt_of_cell? w _ hx700_7)).trans hx700_7
                              replace hx700_8 := (HB.out.cell (World.block_lt_of_cell? w _ hx700_8)).trans hx700_8
                              replace hx700_9 := (HB.out.cell (World.block_lt_of_cell? w _ hx700_9)).trans hx700_9
                              replace p700 := eq_true p700
                              replace q700 := eq_true q700
                              refine start_ (n := 8) (S := fun w' => w'.cell? (ad696.add ((x5_1).toNat * 10)) = some (.string ((rd_T115 l0 x5_1).f0)) ∧ w'.cell? ⟨(ad696.add ((x5_1).toNat * 10)).block, (ad696.add ((x5_1).toNat * 10)).off + 1, none⟩ = some (.int .i64 ((rd_T115 l0 x5_1).f1)) ∧ w'.cell? ⟨(ad696.add ((x5_1).toNat * 10)).block, (ad696.add ((x5_1).toNat * 10)).off + 2, none⟩ = some (.int .i64 ((rd_T115 l0 x5_1).f2)) ∧ w'.cell? ⟨(ad696.add ((x5_1).toNat * 10)).block, (ad696.add ((x5_1).toNat * 10)).off + 3, none⟩ = some (.string ((rd_T115 l0 x5_1).f3)) ∧ w'.cell? ⟨(ad696.add ((x5_1).toNat * 10)).block, (ad696.add ((x5_1).toNat * 10)).off + 4, none⟩ = some (.int .i64 ((rd_T115 l0 x5_1).f4)) ∧ w'.cell? ⟨(ad696.add ((x5_1).toNat * 10)).block, (ad696.add ((x5_1).toNat * 10)).off + 5, none⟩ = some (.string ((rd_T115 l0 x5_1).f5)) ∧ w'.cell? ⟨(ad696.add ((x5_1).toNat * 10)).block, (ad696.add ((x5_1).toNat * 10)).off + 6, none⟩ = some (.bool ((rd_T115 l0 x5_1).f6)) ∧ w'.cell? ⟨(ad696.add ((x5_1).toNat * 10)).block, (ad696.add ((x5_1).toNat * 10)).off + 7, none⟩ = some (.int .i64 ((rd_T115 l0 x5_1).f7)) ∧ w'.cell? ⟨(ad696.add ((x5_1).toNat * 10)).block, (ad696.add ((x5_1).toNat * 10)).off + 8, none⟩ = some (.int .i64 ((rd_T115 l0 x5_1).f8)) ∧ w'.cell? ⟨(ad696.add ((x5_1).toNat * 10)).block, (ad696.add ((x5_1).toNat * 10)).off + 9, none⟩ = some (.int .i64 ((rd_T115 l0 x5_1).f9))) (ds := []) #[false, false, false, false, false, false, false, false] (by kernel_rfl) rfl rfl ⟨((HB.out.cell (World.block_lt_of_cell? w _ hw700_0)).trans hw700_0), ((HB.out.cell (World.block_lt_of_cell? w _ hw700_1)).trans hw700_1), ((HB.out.cell (World.block_lt_of_cell? w _ hw700_2)).trans hw700_2), ((HB.out.cell (World.block_lt_of_cell? w _ hw700_3)).trans hw700_3), ((HB.out.cell (World.block_lt_of_cell? w _ hw700_4)).trans hw700_4), ((HB.out.cell (World.block_lt_of_cell? w _ hw700_5)).trans hw700_5), ((HB.out.cell (World.block_lt_of_cell? w _ hw700_6)).trans hw700_6), ((HB.out.cell (World.block_lt_of_cell? w _ hw700_7)).trans hw700_7), ((HB.out.cell (World.block_lt_of_cell? w _ hw700_8)).trans hw700_8), ((HB.out.cell (World.block_lt_of_cell? w _ hw700_9)).trans hw700_9)⟩ (fun hHeld => ?_); refine with_tabW laws_heldLineS.tab13 laws_heldLineS.bits13 (fun HT_ HW_ => ?_)
                              generalize w19.drew = w20 at HB hx700_0 hx700_1 hx700_2 hx700_3 hx700_4 hx700_5 hx700_6 hx700_7 hx700_8 hx700_9 hHeld ⊢
                              refine pure_ (i := 0) (N := some 40) (v := ?_) (a' := ?_) #[true, false, false, false, false, false, false, false] rfl rfl (any_of HT_.out (by kernel_rfl)) (fun _ _ _ h => h) (Or.inl ⟨by rfl, ?_⟩) ?_ ?_
                              rotate_left
                              · intro w'
                                go_simp
                                with_reducible rfl
                              rotate_left
                              · simp only [Act.put, List.setIfInBounds_toArray, List.set_cons_zero, List.set_cons_succ, i64_w, i32_w]
                                rfl
                              refine pure_ (i := 1) (N := some 41) (v := ?_) (a' := ?_) #[true, true, false, false, false, false, false, false] rfl rfl (any_of HT_.out (by kernel_rfl)) (fun _ _ _ h => h) (Or.inl ⟨by rfl, ?_⟩) ?_ ?_
                              rotate_left
                              · intro w'
                                go_simp
                                with_reducible rfl
                              rotate_left
                              · simp only [Act.put, List.setIfInBounds_toArray, List.set_cons_zero, List.set_cons_succ, i64_w, i32_w]
                                rfl
                              refine pure_ (i := 2) (N := some 42) (v := ?_) (a' := ?_) #[true, true, true, false, false, false, false, false] rfl rfl (any_of HT_.out (by kernel_rfl)) (fun _ _ _ h => h) (Or.inl ⟨by rfl, ?_⟩) ?_ ?_
                              rotate_left
                              · intro w'
                                go_simp
                                with_reducible rfl
                              rotate_left
                              · simp only [Act.put, List.setIfInBounds_toArray, List.set_cons_zero, List.set_cons_succ, i64_w, i32_w]
                                rfl
                              refine pure_ (i := 3) (N := some 43) (v := ?_) (a' := ?_) #[true, true, true, true, false, false, false, false] rfl rfl (any_of HT_.out (by kernel_rfl)) (fun _ _ _ h => h) (Or.inl ⟨by rfl, ?_⟩) ?_ ?_
                              rotate_left
                              · intro w'
                                go_simp
                                with_reducible rfl
                              rotate_left
                              · simp only [Act.put, List.setIfInBounds_toArray, List.set_cons_zero, List.set_cons_succ, i64_w, i32_w]
                                rfl
                              refine pure_ (i := 5) (N := some 45) (v := ?_) (a' := ?_) #[true, true, true, true, false, true, false, false] rfl rfl (any_of HT_.out (by kernel_rfl)) (fun _ _ _ h => h) (Or.inl ⟨by rfl, ?_⟩) ?_ ?_
                              rotate_left
                              · intro w'
                                go_simp
                                with_reducible rfl
                              rotate_left
                              · simp only [Act.put, List.setIfInBounds_toArray, List.set_cons_zero, List.set_cons_succ, i64_w, i32_w]
                                rfl
                              refine take_ (i := 4) (N := some 44) (v := ?_) (a' := ?_) #[true, true, true, true, true, true, false, false] rfl rfl (take_ofW HT_.out HW_.out (by kernel_rfl)) (fun _ _ _ h => h) (Or.inl ⟨by rfl, ?_⟩) hHeld ?_ ?_
                              rotate_left
                              · rintro w' ⟨s0, s1, s2, s3, s4, s5, s6, s7, s8, s9⟩
                                go_simp
                                with_reducible rfl
                              rotate_left
                              · simp only [Act.put, List.setIfInBounds_toArray, List.set_cons_zero, List.set_cons_succ, i64_w, i32_w]
                                rfl
                              refine one_ (i := 6) (N := some 46) #[true, true, true, true, true, true, true, false] rfl rfl (one_of HT_.out (by kernel_rfl)) (by decide) (fun K hK => ?_)
                              refine goes_ Try.func85 (by kernel_rfl) rfl #[.int .i64 (wrap64 ((wrap64 ((wrap64 (x1_1 + 1)) + 1)) + 1))] (by rfl) rfl rfl (by (try simp only [List.map_toArray, List.map_cons, List.map_nil]); first | done | rfl | (simp only [List.length_drop, List.length_take]; rfl)) ?_
                              with_reducible refine (laws_markText.calls k1 (wrap64 ((wrap64 ((wrap64 (x1_1 + 1)) + 1)) + 1)) t701 _ A9.out).mono ?_
                              rintro e w21 ⟨rfl, hb⟩
                              refine ⟨_, rfl, ?_⟩
                              have n0_ := Aside0.mk (below_step (by repeat (first | (with_reducible first | exact HB.out | apply below_alloc | apply pw_below_drewN | apply below_drew1) | exact HB.out)) hb)
                              clear HB
                              have HB := n0_
                              clear n0_
                              (try clear hb)
                              (try clear hb2)
                              (try clear hk)
                              (try clear hi)
                              refine hK.out _ _ ⟨((HB.out.cell (World.block_lt_of_cell? w _ hw700_0)).trans hw700_0), ((HB.out.cell (World.block_lt_of_cell? w _ hw700_1)).trans hw700_1), ((HB.out.cell (World.block_lt_of_cell? w _ hw700_2)).trans hw700_2), ((HB.out.cell (World.block_lt_of_cell? w _ hw700_3)).trans hw700_3), ((HB.out.cell (World.block_lt_of_cell? w _ hw700_4)).trans hw700_4), ((HB.out.cell (World.block_lt_of_cell? w _ hw700_5)).trans hw700_5), ((HB.out.cell (World.block_lt_of_cell? w _ hw700_6)).trans hw700_6), ((HB.out.cell (World.block_lt_of_cell? w _ hw700_7)).trans hw700_7), ((HB.out.cell (World.block_lt_of_cell? w _ hw700_8)).trans hw700_8), ((HB.out.cell (World.block_lt_of_cell? w _ hw700_9)).trans hw700_9)⟩ (fun hHeld => ?_)
                              clear hK K
                              refine norm_ (a' := ?_) ?_ ?_
                              rotate_left
                              · show Act.put _ (some 46) _ = _
                                simp only [Act.put, List.setIfInBounds_toArray, List.set_cons_zero, List.set_cons_succ, i64_w, i32_w]
                                rfl
                              refine pure_ (i := 7) (N := some 47) (v := ?_) (a' := ?_) #[true, true, true, true, true, true, true, true] rfl rfl (any_of HT_.out (by kernel_rfl)) (fun _ _ _ h => h) (Or.inl ⟨by rfl, ?_⟩) ?_ ?_
                              rotate_left
                              · intro w'
                                go_simp
                                with_reducible rfl
                              rotate_left
                              · simp only [Act.put, List.setIfInBounds_toArray, List.set_cons_zero, List.set_cons_succ, i64_w, i32_w]
                                rfl
                              refine done_ (done_of HT_.out (by kernel_rfl)) ?_
                              have p702 : 0 ≤ (x5_1 : Int) := of_decide_eq_true (by first | (with_reducible assumption) | assumption)
                              have q702 : x5_1 < (l0.length : Int) := of_decide_eq_true (by first | (with_reducible assumption) | assumption)
                              obtain ⟨ad702, e702, hx702_0, hx702_1, hx702_2, hx702_3, hx702_4, hx702_5, hx702_6, hx702_7, hx702_8, hx702_9⟩ := at_T115 HR0.out x5_1 p702 q702
                              obtain rfl : ad696 = ad702 := (by injection e702)
                              replace hx702_0 := (HB.out.cell (World.block_lt_of_cell? w _ hx702_0)).trans hx702_0
                              replace hx702_1 := (HB.out.cell (World.block_lt_of_cell? w _ hx702_1)).trans hx702_1
                              replace hx702_2 := (HB.out.cell (World.block_lt_of_cell? w _ hx702_2)).trans hx702_2
                              replace hx702_3 := (HB.out.cell (World.block_lt_of_cell? w _ hx702_3)).trans hx702_3
                              replace hx702_4 := (HB.out.cell (World.block_lt_of_cell? w _ hx702_4)).trans hx702_4
                              replace hx702_5 := (HB.out.cell (World.block_lt_of_cell? w _ hx702_5)).trans hx702_5
                              replace hx702_6 := (HB.out.cell (World.block_lt_of_cell? w _ hx702_6)).trans hx702_6
                              replace hx702_7 := (HB.out.cell (World.block_lt_of_cell? w _ hx702_7)).trans hx702_7
                              replace hx702_8 := (HB.out.cell (World.block_lt_of_cell? w _ hx702_8)).trans hx702_8
                              replace hx702_9 := (HB.out.cell (World.block_lt_of_cell? w _ hx702_9)).trans hx702_9
                              replace p702 := eq_true p702
                              replace q702 := eq_true q702
                              try go_wp2
                              have n0_ := Aside0.mk (below_drew1 HB.out)
                              clear HB
                              have HB := n0_
                              clear n0_
                              have p703 : 0 ≤ (x5_1 : Int) := of_decide_eq_true (by first | (with_reducible assumption) | assumption)
                              have q703 : x5_1 < (l0.length : Int) := of_decide_eq_true (by first | (with_reducible assumption) | assumption)
                              obtain ⟨ad703, e703, hx703_0, hx703_1, hx703_2, hx703_3, hx703_4, hx703_5, hx703_6, hx703_7, hx703_8, hx703_9⟩ := at_T115 HR0.out x5_1 p703 q703
                              have hw703_9 := hx703_9
                              have hw703_8 := hx703_8
                              have hw703_7 := hx703_7
                              have hw703_6 := hx703_6
                              have hw703_5 := hx703_5
                              have hw703_4 := hx703_4
                              have hw703_3 := hx703_3
                              have hw703_2 := hx703_2
                              have hw703_1 := hx703_1
                              have hw703_0 := hx703_0
                              obtain rfl : ad696 = ad703 := (by injection e703)
                              replace hx703_0 := (HB.out.cell (World.block_lt_of_cell? w _ hx703_0)).trans hx703_0
                              replace hx703_1 := (HB.out.cell (World.block_lt_of_cell? w _ hx703_1)).trans hx703_1
                              replace hx703_2 := (HB.out.cell (World.block_lt_of_cell? w _ hx703_2)).trans hx703_2
                              replace hx703_3 := (HB.out.cell (World.block_lt_of_cell? w _ hx703_3)).trans hx703_3
                              replace hx703_4 := (HB.out.cell (World.block_lt_of_cell? w _ hx703_4)).trans hx703_4
                              replace hx703_5 := (HB.out.cell (World.block_lt_of_cell? w _ hx703_5)).trans hx703_5
                              replace hx703_6 := (HB.out.cell (World.block_lt_of_cell? w _ hx703_6)).trans hx703_6
                              replace hx703_7 := (HB.out.cell (World.block_lt_of_cell? w _ hx703_7)).trans hx703_7
                              replace hx703_8 := (HB.out.cell (World.block_lt_of_cell? w _ hx703_8)).trans hx703_8
                              replace hx703_9 := (HB.out.cell (World.block_lt_of_cell? w _ hx703_9)).trans hx703_9
                              replace p703 := eq_true p703
                              replace q703 := eq_true q703
                              refine start_ (n := 8) (S := fun w' => w'.cell? (ad696.add ((x5_1).toNat * 10)) = some (.string ((rd_T115 l0 x5_1).f0)) ∧ w'.cell? ⟨(ad696.add ((x5_1).toNat * 10)).block, (ad696.add ((x5_1).toNat * 10)).off + 1, none⟩ = some (.int .i64 ((rd_T115 l0 x5_1).f1)) ∧ w'.cell? ⟨(ad696.add ((x5_1).toNat * 10)).block, (ad696.add ((x5_1).toNat * 10)).off + 2, none⟩ = some (.int .i64 ((rd_T115 l0 x5_1).f2)) ∧ w'.cell? ⟨(ad696.add ((x5_1).toNat * 10)).block, (ad696.add ((x5_1).toNat * 10)).off + 3, none⟩ = some (.string ((rd_T115 l0 x5_1).f3)) ∧ w'.cell? ⟨(ad696.add ((x5_1).toNat * 10)).block, (ad696.add ((x5_1).toNat * 10)).off + 4, none⟩ = some (.int .i64 ((rd_T115 l0 x5_1).f4)) ∧ w'.cell? ⟨(ad696.add ((x5_1).toNat * 10)).block, (ad696.add ((x5_1).toNat * 10)).off + 5, none⟩ = some (.string ((rd_T115 l0 x5_1).f5)) ∧ w'.cell? ⟨(ad696.add ((x5_1).toNat * 10)).block, (ad696.add ((x5_1).toNat * 10)).off + 6, none⟩ = some (.bool ((rd_T115 l0 x5_1).f6)) ∧ w'.cell? ⟨(ad696.add ((x5_1).toNat * 10)).block, (ad696.add ((x5_1).toNat * 10)).off + 7, none⟩ = some (.int .i64 ((rd_T115 l0 x5_1).f7)) ∧ w'.cell? ⟨(ad696.add ((x5_1).toNat * 10)).block, (ad696.add ((x5_1).toNat * 10)).off + 8, none⟩ = some (.int .i64 ((rd_T115 l0 x5_1).f8)) ∧ w'.cell? ⟨(ad696.add ((x5_1).toNat * 10)).block, (ad696.add ((x5_1).toNat * 10)).off + 9, none⟩ = some (.int .i64 ((rd_T115 l0 x5_1).f9))) (ds := []) #[false, false, false, false, false, false, false, false] (by kernel_rfl) rfl rfl ⟨((HB.out.cell (World.block_lt_of_cell? w _ hw703_0)).trans hw703_0), ((HB.out.cell (World.block_lt_of_cell? w _ hw703_1)).trans hw703_1), ((HB.out.cell (World.block_lt_of_cell? w _ hw703_2)).trans hw703_2), ((HB.out.cell (World.block_lt_of_cell? w _ hw703_3)).trans hw703_3), ((HB.out.cell (World.block_lt_of_cell? w _ hw703_4)).trans hw703_4), ((HB.out.cell (World.block_lt_of_cell? w _ hw703_5)).trans hw703_5), ((HB.out.cell (World.block_lt_of_cell? w _ hw703_6)).trans hw703_6), ((HB.out.cell (World.block_lt_of_cell? w _ hw703_7)).trans hw703_7), ((HB.out.cell (World.block_lt_of_cell? w _ hw703_8)).trans hw703_8), ((HB.out.cell (World.block_lt_of_cell? w _ hw703_9)).trans hw703_9)⟩ (fun hHeld => ?_); refine with_tabW laws_heldLineS.tab19 laws_heldLineS.bits19 (fun HT_ HW_ => ?_)
                              generalize w21.drew = w22 at HB hx703_0 hx703_1 hx703_2 hx703_3 hx703_4 hx703_5 hx703_6 hx703_7 hx703_8 hx703_9 hHeld ⊢
                              refine pure_ (i := 0) (N := some 59) (v := ?_) (a' := ?_) #[true, false, false, false, false, false, false, false] rfl rfl (any_of HT_.out (by kernel_rfl)) (fun _ _ _ h => h) (Or.inl ⟨by rfl, ?_⟩) ?_ ?_
                              rotate_left
                              · intro w'
                                go_simp
                                with_reducible rfl
                              rotate_left
                              · simp only [Act.put, List.setIfInBounds_toArray, List.set_cons_zero, List.set_cons_succ, i64_w, i32_w]
                                rfl
                              refine pure_ (i := 1) (N := some 60) (v := ?_) (a' := ?_) #[true, true, false, false, false, false, false, false] rfl rfl (any_of HT_.out (by kernel_rfl)) (fun _ _ _ h => h) (Or.inl ⟨by rfl, ?_⟩) ?_ ?_
                              rotate_left
                              · intro w'
                                go_simp
                                with_reducible rfl
                              rotate_left
                              · simp only [Act.put, List.setIfInBounds_toArray, List.set_cons_zero, List.set_cons_succ, i64_w, i32_w]
                                rfl
                              refine pure_ (i := 2) (N := some 61) (v := ?_) (a' := ?_) #[true, true, true, false, false, false, false, false] rfl rfl (any_of HT_.out (by kernel_rfl)) (fun _ _ _ h => h) (Or.inl ⟨by rfl, ?_⟩) ?_ ?_
                              rotate_left
                              · intro w'
                                go_simp
                                with_reducible rfl
                              rotate_left
                              · simp only [Act.put, List.setIfInBounds_toArray, List.set_cons_zero, List.set_cons_succ, i64_w, i32_w]
                                rfl
                              refine pure_ (i := 3) (N := some 62) (v := ?_) (a' := ?_) #[true, true, true, true, false, false, false, false] rfl rfl (any_of HT_.out (by kernel_rfl)) (fun _ _ _ h => h) (Or.inl ⟨by rfl, ?_⟩) ?_ ?_
                              rotate_left
                              · intro w'
                                go_simp
                                with_reducible rfl
                              rotate_left
                              · simp only [Act.put, List.setIfInBounds_toArray, List.set_cons_zero, List.set_cons_succ, i64_w, i32_w]
                                rfl
                              refine pure_ (i := 5) (N := some 64) (v := ?_) (a' := ?_) #[true, true, true, true, false, true, false, false] rfl rfl (any_of HT_.out (by kernel_rfl)) (fun _ _ _ h => h) (Or.inl ⟨by rfl, ?_⟩) ?_ ?_
                              rotate_left
                              · intro w'
                                go_simp
                                with_reducible rfl
                              rotate_left
                              · simp only [Act.put, List.setIfInBounds_toArray, List.set_cons_zero, List.set_cons_succ, i64_w, i32_w]
                                rfl
                              refine take_ (i := 4) (N := some 63) (v := ?_) (a' := ?_) #[true, true, true, true, true, true, false, false] rfl rfl (take_ofW HT_.out HW_.out (by kernel_rfl)) (fun _ _ _ h => h) (Or.inl ⟨by rfl, ?_⟩) hHeld ?_ ?_
                              rotate_left
                              · rintro w' ⟨s0, s1, s2, s3, s4, s5, s6, s7, s8, s9⟩
                                go_simp
                                with_reducible rfl
                              rotate_left
                              · simp only [Act.put, List.setIfInBounds_toArray, List.set_cons_zero, List.set_cons_succ, i64_w, i32_w]
                                rfl
                              refine one_ (i := 6) (N := some 65) #[true, true, true, true, true, true, true, false] rfl rfl (one_of HT_.out (by kernel_rfl)) (by decide) (fun K hK => ?_)
                              refine goes_ Try.func85 (by kernel_rfl) rfl #[.int .i64 (wrap64 ((wrap64 ((wrap64 ((wrap64 ((wrap64 (x1_1 + 1)) + 1)) + 1)) + 1)) + 1))] (by rfl) rfl rfl (by (try simp only [List.map_toArray, List.map_cons, List.map_nil]); first | done | rfl | (simp only [List.length_drop, List.length_take]; rfl)) ?_
                              with_reducible refine (laws_markText.calls k1 (wrap64 ((wrap64 ((wrap64 ((wrap64 ((wrap64 (x1_1 + 1)) + 1)) + 1)) + 1)) + 1)) t704 _ A12.out).mono ?_
                              rintro e w23 ⟨rfl, hb⟩
                              refine ⟨_, rfl, ?_⟩
                              have n0_ := Aside0.mk (below_step (by repeat (first | (with_reducible first | exact HB.out | apply below_alloc | apply pw_below_drewN | apply below_drew1) | exact HB.out)) hb)
                              clear HB
                              have HB := n0_
                              clear n0_
                              (try clear hb)
                              (try clear hb2)
                              (try clear hk)
                              (try clear hi)
                              refine hK.out _ _ ⟨((HB.out.cell (World.block_lt_of_cell? w _ hw703_0)).trans hw703_0), ((HB.out.cell (World.block_lt_of_cell? w _ hw703_1)).trans hw703_1), ((HB.out.cell (World.block_lt_of_cell? w _ hw703_2)).trans hw703_2), ((HB.out.cell (World.block_lt_of_cell? w _ hw703_3)).trans hw703_3), ((HB.out.cell (World.block_lt_of_cell? w _ hw703_4)).trans hw703_4), ((HB.out.cell (World.block_lt_of_cell? w _ hw703_5)).trans hw703_5), ((HB.out.cell (World.block_lt_of_cell? w _ hw703_6)).trans hw703_6), ((HB.out.cell (World.block_lt_of_cell? w _ hw703_7)).trans hw703_7), ((HB.out.cell (World.block_lt_of_cell? w _ hw703_8)).trans hw703_8), ((HB.out.cell (World.block_lt_of_cell? w _ hw703_9)).trans hw703_9)⟩ (fun hHeld => ?_)
                              clear hK K
                              refine norm_ (a' := ?_) ?_ ?_
                              rotate_left
                              · show Act.put _ (some 65) _ = _
                                simp only [Act.put, List.setIfInBounds_toArray, List.set_cons_zero, List.set_cons_succ, i64_w, i32_w]
                                rfl
                              refine pure_ (i := 7) (N := some 66) (v := ?_) (a' := ?_) #[true, true, true, true, true, true, true, true] rfl rfl (any_of HT_.out (by kernel_rfl)) (fun _ _ _ h => h) (Or.inl ⟨by rfl, ?_⟩) ?_ ?_
                              rotate_left
                              · intro w'
                                go_simp
                                with_reducible rfl
                              rotate_left
                              · simp only [Act.put, List.setIfInBounds_toArray, List.set_cons_zero, List.set_cons_succ, i64_w, i32_w]
                                rfl
                              refine done_ (done_of HT_.out (by kernel_rfl)) ?_
                              have p705 : 0 ≤ (x5_1 : Int) := of_decide_eq_true (by first | (with_reducible assumption) | assumption)
                              have q705 : x5_1 < (l0.length : Int) := of_decide_eq_true (by first | (with_reducible assumption) | assumption)
                              obtain ⟨ad705, e705, hx705_0, hx705_1, hx705_2, hx705_3, hx705_4, hx705_5, hx705_6, hx705_7, hx705_8, hx705_9⟩ := at_T115 HR0.out x5_1 p705 q705
                              obtain rfl : ad696 = ad705 := (by injection e705)
                              replace hx705_0 := (HB.out.cell (World.block_lt_of_cell? w _ hx705_0)).trans hx705_0
                              replace hx705_1 := (HB.out.cell (World.block_lt_of_cell? w _ hx705_1)).trans hx705_1
                              replace hx705_2 := (HB.out.cell (World.block_lt_of_cell? w _ hx705_2)).trans hx705_2
                              replace hx705_3 := (HB.out.cell (World.block_lt_of_cell? w _ hx705_3)).trans hx705_3
                              replace hx705_4 := (HB.out.cell (World.block_lt_of_cell? w _ hx705_4)).trans hx705_4
                              replace hx705_5 := (HB.out.cell (World.block_lt_of_cell? w _ hx705_5)).trans hx705_5
                              replace hx705_6 := (HB.out.cell (World.block_lt_of_cell? w _ hx705_6)).trans hx705_6
                              replace hx705_7 := (HB.out.cell (World.block_lt_of_cell? w _ hx705_7)).trans hx705_7
                              replace hx705_8 := (HB.out.cell (World.block_lt_of_cell? w _ hx705_8)).trans hx705_8
                              replace hx705_9 := (HB.out.cell (World.block_lt_of_cell? w _ hx705_9)).trans hx705_9
                              replace p705 := eq_true p705
                              replace q705 := eq_true q705
                              have p706 : 0 ≤ (x5_1 : Int) := of_decide_eq_true (by first | (with_reducible assumption) | assumption)
                              have q706 : x5_1 < (l0.length : Int) := of_decide_eq_true (by first | (with_reducible assumption) | assumption)
                              obtain ⟨ad706, e706, hx706_0, hx706_1, hx706_2, hx706_3, hx706_4, hx706_5, hx706_6, hx706_7, hx706_8, hx706_9⟩ := at_T115 HR0.out x5_1 p706 q706
                              obtain rfl : ad696 = ad706 := (by injection e706)
                              replace hx706_0 := (HB.out.cell (World.block_lt_of_cell? w _ hx706_0)).trans hx706_0
                              replace hx706_1 := (HB.out.cell (World.block_lt_of_cell? w _ hx706_1)).trans hx706_1
                              replace hx706_2 := (HB.out.cell (World.block_lt_of_cell? w _ hx706_2)).trans hx706_2
                              replace hx706_3 := (HB.out.cell (World.block_lt_of_cell? w _ hx706_3)).trans hx706_3
                              replace hx706_4 := (HB.out.cell (World.block_lt_of_cell? w _ hx706_4)).trans hx706_4
                              replace hx706_5 := (HB.out.cell (World.block_lt_of_cell? w _ hx706_5)).trans hx706_5
                              replace hx706_6 := (HB.out.cell (World.block_lt_of_cell? w _ hx706_6)).trans hx706_6
                              replace hx706_7 := (HB.out.cell (World.block_lt_of_cell? w _ hx706_7)).trans hx706_7
                              replace hx706_8 := (HB.out.cell (World.block_lt_of_cell? w _ hx706_8)).trans hx706_8
                              replace hx706_9 := (HB.out.cell (World.block_lt_of_cell? w _ hx706_9)).trans hx706_9
                              replace p706 := eq_true p706
                              replace q706 := eq_true q706
                              have p707 : 0 ≤ (x5_1 : Int) := of_decide_eq_true (by first | (with_reducible assumption) | assumption)
                              have q707 : x5_1 < (l0.length : Int) := of_decide_eq_true (by first | (with_reducible assumption) | assumption)
                              obtain ⟨ad707, e707, hx707_0, hx707_1, hx707_2, hx707_3, hx707_4, hx707_5, hx707_6, hx707_7, hx707_8, hx707_9⟩ := at_T115 HR0.out x5_1 p707 q707
                              obtain rfl : ad696 = ad707 := (by injection e707)
                              replace hx707_0 := (HB.out.cell (World.block_lt_of_cell? w _ hx707_0)).trans hx707_0
                              replace hx707_1 := (HB.out.cell (World.block_lt_of_cell? w _ hx707_1)).trans hx707_1
                              replace hx707_2 := (HB.out.cell (World.block_lt_of_cell? w _ hx707_2)).trans hx707_2
                              replace hx707_3 := (HB.out.cell (World.block_lt_of_cell? w _ hx707_3)).trans hx707_3
                              replace hx707_4 := (HB.out.cell (World.block_lt_of_cell? w _ hx707_4)).trans hx707_4
                              replace hx707_5 := (HB.out.cell (World.block_lt_of_cell? w _ hx707_5)).trans hx707_5
                              replace hx707_6 := (HB.out.cell (World.block_lt_of_cell? w _ hx707_6)).trans hx707_6
                              replace hx707_7 := (HB.out.cell (World.block_lt_of_cell? w _ hx707_7)).trans hx707_7
                              replace hx707_8 := (HB.out.cell (World.block_lt_of_cell? w _ hx707_8)).trans hx707_8
                              replace hx707_9 := (HB.out.cell (World.block_lt_of_cell? w _ hx707_9)).trans hx707_9
                              replace p707 := eq_true p707
                              replace q707 := eq_true q707
                              have p708 : 0 ≤ (x5_1 : Int) := of_decide_eq_true (by first | (with_reducible assumption) | assumption)
                              have q708 : x5_1 < (l0.length : Int) := of_decide_eq_true (by first | (with_reducible assumption) | assumption)
                              obtain ⟨ad708, e708, hx708_0, hx708_1, hx708_2, hx708_3, hx708_4, hx708_5, hx708_6, hx708_7, hx708_8, hx708_9⟩ := at_T115 HR0.out x5_1 p708 q708
                              obtain rfl : ad696 = ad708 := (by injection e708)
                              replace hx708_0 := (HB.out.cell (World.block_lt_of_cell? w _ hx708_0)).trans hx708_0
                              replace hx708_1 := (HB.out.cell (World.block_lt_of_cell? w _ hx708_1)).trans hx708_1
                              replace hx708_2 := (HB.out.cell (World.block_lt_of_cell? w _ hx708_2)).trans hx708_2
                              replace hx708_3 := (HB.out.cell (World.block_lt_of_cell? w _ hx708_3)).trans hx708_3
                              replace hx708_4 := (HB.out.cell (World.block_lt_of_cell? w _ hx708_4)).trans hx708_4
                              replace hx708_5 := (HB.out.cell (World.block_lt_of_cell? w _ hx708_5)).trans hx708_5
                              replace hx708_6 := (HB.out.cell (World.block_lt_of_cell? w _ hx708_6)).trans hx708_6
                              replace hx708_7 := (HB.out.cell (World.block_lt_of_cell? w _ hx708_7)).trans hx708_7
                              replace hx708_8 := (HB.out.cell (World.block_lt_of_cell? w _ hx708_8)).trans hx708_8
                              replace hx708_9 := (HB.out.cell (World.block_lt_of_cell? w _ hx708_9)).trans hx708_9
                              replace p708 := eq_true p708
                              replace q708 := eq_true q708
                              try go_wp2
                              go_roundg k1
                              case measure => have := HK1.out; omega
                              case rel => exact ⟨(wrap64 ((wrap64 ((wrap64 ((wrap64 ((wrap64 ((wrap64 ((wrap64 ((wrap64 ((wrap64 ((wrap64 (x1_1 + 1)) + 1)) + 1)) + 1)) + 1)) + 1)) + 1)) + 1)) + 1)) + 1)), (wrap64 (x5_1 + 1)), (by first | rfl | (simp; done) | (simp [*]; done)), (by first | rfl | (simp; done) | (simp [*]; done)), H', ⟨by have := HK1.out; omega⟩, ⟨by repeat (first | (with_reducible first | exact HB.out | apply below_alloc | apply pw_below_drewN | apply below_drew1) | exact HB.out)⟩⟩
                            · rw [if_neg c17] at H
                              exact absurd H (by simp)
                          · rw [if_neg c16] at H
                            exact absurd H (by simp)
                        · rw [if_neg c15] at H
                          exact absurd H (by simp)
                    · rw [if_neg c13] at H
                      exact absurd H (by simp)
                  · rw [if_neg c11] at H
                    exact absurd H (by simp)
                · rw [if_neg c10] at H
                  exact absurd H (by simp)
              · rw [if_neg c8] at H
                exact absurd H (by simp)
            · rw [if_neg c7] at H
              exact absurd H (by simp)
          · rw [if_neg c6] at H
            exact absurd H (by simp)
        · rw [if_neg c4] at H
          exact absurd H (by simp)
      · rw [if_neg c3] at H
        have c3b0 : decide (x5_1 < (l0.length : Int)) = false := decide_eq_false c3
        clear c3
        obtain rfl := Option.some.inj H
        go_wp2
        go_ret
        exact ⟨by first | rfl | (simp [errW_none, errW_some] <;> rfl) | (simp [*, errW_none, errW_some] <;> rfl), by repeat (first | (with_reducible first | exact HB.out | apply below_alloc | apply pw_below_drewN | apply below_drew1) | exact HB.out)⟩

end Go.Proofs.Ytahgiblifkchaaa.P
