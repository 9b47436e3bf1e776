-- Written by a program of ours (myprint.py, by way of the kit's print) out of Lean's print of the translation.
import Derived.Test.YtonmpnghlopnoaaGreatDoorPx0
import Derived.Test.YtonmpnghlopnoaaGreatDoorPxspec06b
import Derived.Test.YtonmpnghlopnoaaGreatDoorWC
namespace Go.Proofs.YtonmpnghlopnoaaGreatDoor.P
open Go.RowKit Go.Proofs.YtonmpnghlopnoaaGreatDoorW.PrintWords Go.Proofs.YtonmpnghlopnoaaGreatDoorW.PrintLast Go.Proofs.YtonmpnghlopnoaaGreatDoorW.PrintMore
attribute [local go_sem] max2_int min2_int max_two min_two max_three min_three max_four min_four   -- for this text's walks alone
set_option linter.unusedVariables false
set_option linter.unusedSimpArgs false

def spec_l6first.l0 : Nat → ByteArray → Int → Option (ByteArray × ByteArray × Int × ByteArray × Bool × (List (S41)) × ByteArray × Bool)
 | 0, _, _ => none
 | k + 1, x0, x4 => if x4 < (x0.size : Int) then (if 0 ≤ x4 then (if (bt x0 x4) = 32 then (if (x0.size : Int) < (wrap64 (x4 + 11)) then (some ((⟨#[]⟩ : ByteArray), (⟨#[]⟩ : ByteArray), 0, (⟨#[]⟩ : ByteArray), false, ([] : List (S41)), (⟨#[]⟩ : ByteArray), false)) else (if 0 ≤ (wrap64 ((x0.size : Int) - 9)) then (if (wrap64 ((x0.size : Int) - 9)) ≤ (x0.size : Int) then (if (x0.extract ((wrap64 ((x0.size : Int) - 9)) : Int).toNat x0.size).toList = ([32, 72, 84, 84, 80, 47, 49, 46, 49] : List UInt8) then (if x4 ≤ (x0.size : Int) then (if 0 ≤ (wrap64 (x4 + 1)) then (if (wrap64 (x4 + 1)) ≤ (wrap64 ((x0.size : Int) - 9)) then ((spec_l6request.f k (x0.extract 0 (x4 : Int).toNat) (x0.extract ((wrap64 (x4 + 1)) : Int).toNat ((wrap64 ((x0.size : Int) - 9)) : Int).toNat) 0 (⟨#[]⟩ : ByteArray) false ([] : List (S41)) (⟨#[]⟩ : ByteArray)).bind fun t175 => (some (x0.extract 0 (x4 : Int).toNat, x0.extract ((wrap64 (x4 + 1)) : Int).toNat ((wrap64 ((x0.size : Int) - 9)) : Int).toNat, 0, (⟨#[]⟩ : ByteArray), false, ([] : List (S41)), (⟨#[]⟩ : ByteArray), t175))) else (none)) else (none)) else (none)) else (some ((⟨#[]⟩ : ByteArray), (⟨#[]⟩ : ByteArray), 0, (⟨#[]⟩ : ByteArray), false, ([] : List (S41)), (⟨#[]⟩ : ByteArray), false))) else (none)) else (none))) else (spec_l6first.l0 k x0 (wrap64 (x4 + 1)))) else (none)) else (if (x0.size : Int) < (wrap64 (x4 + 11)) then (some ((⟨#[]⟩ : ByteArray), (⟨#[]⟩ : ByteArray), 0, (⟨#[]⟩ : ByteArray), false, ([] : List (S41)), (⟨#[]⟩ : ByteArray), false)) else (if 0 ≤ (wrap64 ((x0.size : Int) - 9)) then (if (wrap64 ((x0.size : Int) - 9)) ≤ (x0.size : Int) then (if (x0.extract ((wrap64 ((x0.size : Int) - 9)) : Int).toNat x0.size).toList = ([32, 72, 84, 84, 80, 47, 49, 46, 49] : List UInt8) then (if 0 ≤ x4 then (if x4 ≤ (x0.size : Int) then (if 0 ≤ (wrap64 (x4 + 1)) then (if (wrap64 (x4 + 1)) ≤ (wrap64 ((x0.size : Int) - 9)) then ((spec_l6request.f k (x0.extract 0 (x4 : Int).toNat) (x0.extract ((wrap64 (x4 + 1)) : Int).toNat ((wrap64 ((x0.size : Int) - 9)) : Int).toNat) 0 (⟨#[]⟩ : ByteArray) false ([] : List (S41)) (⟨#[]⟩ : ByteArray)).bind fun t177 => (some (x0.extract 0 (x4 : Int).toNat, x0.extract ((wrap64 (x4 + 1)) : Int).toNat ((wrap64 ((x0.size : Int) - 9)) : Int).toNat, 0, (⟨#[]⟩ : ByteArray), false, ([] : List (S41)), (⟨#[]⟩ : ByteArray), t177))) else (none)) else (none)) else (none)) else (none)) else (some ((⟨#[]⟩ : ByteArray), (⟨#[]⟩ : ByteArray), 0, (⟨#[]⟩ : ByteArray), false, ([] : List (S41)), (⟨#[]⟩ : ByteArray), false))) else (none)) else (none)))
def spec_l6first.f (k : Nat) (a0 : ByteArray) : Option (ByteArray × ByteArray × Int × ByteArray × Bool × (List (S41)) × ByteArray × Bool) := spec_l6first.l0 k a0 0
theorem spec_l6first.mono_l : ∀ k, (∀ y0 y1, LeO (spec_l6first.l0 k y0 y1) (spec_l6first.l0 (k + 1) y0 y1))
 | 0 => fun _ _ r h => by simp [spec_l6first.l0] at h
 | k + 1 => by
  have ih0 := spec_l6first.mono_l k
  ·intro y0 y1
   unfold spec_l6first.l0
   repeat' first
   | (with_reducible exact ih0 _ _)
   | (with_reducible exact spec_l6request.mono _ _ _ _ _ _ _ _)
   | (with_reducible exact LeO.refl _)
   | (with_reducible exact LeO.none _)
   | (with_reducible refine LeO.ite ?_ ?_)
   | (with_reducible refine LeO.bind ?_ (fun _ => ?_))
   | exact ih0 _ _
   | exact spec_l6request.mono _ _ _ _ _ _ _ _
   | exact LeO.none _
   | refine LeO.ite ?_ ?_
   | refine LeO.bind ?_ (fun _ => ?_)
theorem spec_l6first.mono : ∀ a0 k, LeO (spec_l6first.f k a0) (spec_l6first.f (k + 1) a0) := by
 intro a0 k
 have ih0 := spec_l6first.mono_l k
 unfold spec_l6first.f
 repeat' first
   | (with_reducible exact ih0 _ _)
   | (with_reducible exact spec_l6request.mono _ _ _ _ _ _ _ _)
   | (with_reducible exact LeO.refl _)
   | (with_reducible exact LeO.none _)
   | (with_reducible refine LeO.ite ?_ ?_)
   | (with_reducible refine LeO.bind ?_ (fun _ => ?_))
   | exact ih0 _ _
   | exact spec_l6request.mono _ _ _ _ _ _ _ _
   | exact LeO.none _
   | refine LeO.ite ?_ ?_
   | refine LeO.bind ?_ (fun _ => ?_)
def spec_l6first.T6 : Bool × List (List Nat × List Nat) := (true, [([], []), ([], []), ([0, 1], [0, 1]), ([], []), ([], []), ([4], [4]), ([], []), ([6], [6]), ([7], [7]), ([3, 5, 8], [3, 5, 8]), ([2, 9], [2, 9]), ([], []), ([11, 10, 0, 1, 2, 3, 4, 5, 6, 7, 8, 9, 10, 11], [10, 11])])
def spec_l6first.B6 : List Nat := [0, 0, 3, 0, 0, 16, 0, 64, 192, 504, 1023, 0, 4095]
theorem spec_l6first.tab6 : rtab .any (opsOf Tryz.f17 6) = spec_l6first.T6 := by kernel_rfl
theorem spec_l6first.bits6 : waitsOk spec_l6first.T6.2 spec_l6first.B6 = true := by kernel_rfl
set_option maxHeartbeats 8000000 in
set_option maxRecDepth 100000 in
theorem spec_l6first.calls (k : Nat) (a0 : ByteArray) (r1 : ByteArray) (r2 : ByteArray) (r3 : Int) (r4 : ByteArray) (r5 : Bool) (r6 : List (S41)) (r7 : ByteArray) (r8 : Bool) (w : World) (h : spec_l6first.f k a0 = some (r1, r2, r3, r4, r5, r6, r7, r8)) :
  Calls Tryz.prog 17 #[.string a0] w fun e w' => ∃ v5_ : Value, e = .returned (.tuple #[.agg #[.string r1, .string r2, .int .i64 r3, .string r4, .bool r5, v5_, .string r7], .bool r8]) ∧ Kd.R k41 41 w' w.heap.size (fun _ => True) v5_ r6 ∧ Below w.heap.size w w' := by
 have hu24 := Tryz.underlying24
 have HB := Aside0.mk (Below.refl w.heap.size w)
 have H : (spec_l6first.l0 k a0 0) = some (r1, r2, r3, r4, r5, r6, r7, r8) := h
 clear h
 have H' := Aside0.mk H
 clear H
 go_enter Tryz.func17, Tryz.ntmps17
 go_wp2_with (first | ((with_reducible refine gate_dst (N := 2) rfl ?_); refine boxG #[.string (⟨#[]⟩ : ByteArray), .string (⟨#[]⟩ : ByteArray), .int .i64 0, .string (⟨#[]⟩ : ByteArray), .bool false, .slice none 0 0, .string (⟨#[]⟩ : ByteArray)] 24 ?_; intro gb173 hg w2 hbox hb; have BK173 := Aside0.mk (hbox); have GE173 := geA hg; replace HB := beA hb; clear hb hbox hg))
 go_loopg [4] k (fun kq v4 w' => ∃ (x4_1 : Int), v4 = .int .i64 x4_1 ∧ Aside0 (spec_l6first.l0 kq a0 x4_1 = some (r1, r2, r3, r4, r5, r6, r7, r8)) ∧ Aside0 (kq ≤ k) ∧ Aside0 (w'.heap[gb173]? = some (.cells #[.string (⟨#[]⟩ : ByteArray), .string (⟨#[]⟩ : ByteArray), .int .i64 0, .string (⟨#[]⟩ : ByteArray), .bool false, (.slice none 0 0), .string (⟨#[]⟩ : ByteArray)] 24 (0, 0))) ∧ Aside0 (Below w.heap.size w w'))
 case atStart => exact ⟨(0), gq4, H', ⟨Nat.le_refl _⟩, ⟨gBk⟩, ⟨gBe⟩⟩
 case round =>
  clear H'
  try clear c1
  try clear p2
  obtain ⟨x4_1, rfl, HA, HK1, BK173, HB⟩ := hrel
  cases gk with
  | zero => exact absurd HA.out (by simp [spec_l6first.l0])
  | succ k1 =>
   have H := HA.out
   clear HA
   simp only [spec_l6first.l0] at H
   by_cases c3 : x4_1 < (a0.size : Int)
   ·rw [if_pos c3] at H
    have c3b0 := decide_eq_true c3
    clear c3
    by_cases c4 : 0 ≤ x4_1
    ·rw [if_pos c4] at H
     have c4b0 := decide_eq_true c4
     clear c4
     by_cases c6 : (bt a0 x4_1) = 32
     ·rw [if_pos c6] at H
      have c6b0 : ((bt a0 x4_1) == 32) = true := beq_iff_eq.mpr c6
      have c6b1 : ((bt a0 x4_1) != 32) = false := bne_eq_false_iff_eq.mpr c6
      clear c6
      by_cases c7 : (a0.size : Int) < (wrap64 (x4_1 + 11))
      ·rw [if_pos c7] at H
       have c7b0 := decide_eq_true c7
       clear c7
       simp only [Option.some.injEq, Prod.mk.injEq] at H
       obtain ⟨rfl, rfl, rfl, rfl, rfl, rfl, rfl, rfl⟩ := H
       have p5 : 0 ≤ (x4_1 : Int) := of_decide_eq_true gq3
       have q5 : x4_1 < (a0.size : Int) := of_decide_eq_true gq3
       have hx5 := bt_at a0 x4_1
       replace p5 := eq_true p5
       replace q5 := eq_true q5
       have hcz8_0 := cz0 BK173
       have hcz8_1 := cz1 BK173
       have hcz8_2 := cz2 BK173
       have hcz8_3 := cz3 BK173
       have hcz8_4 := cz4 BK173
       have hcz8_5 := cz5 BK173
       have hcz8_6 := cz6 BK173
       have hfz8_0 := blk_frozen BK173.out 0
       have hfz8_1 := blk_frozen BK173.out 1
       have hfz8_2 := blk_frozen BK173.out 2
       have hfz8_3 := blk_frozen BK173.out 3
       have hfz8_4 := blk_frozen BK173.out 4
       have hfz8_5 := blk_frozen BK173.out 5
       have hfz8_6 := blk_frozen BK173.out 6
       go_wp2
       refine rctA gb173 24 #[.string (⟨#[]⟩ : ByteArray), .string (⟨#[]⟩ : ByteArray), .int .i64 0, .string (⟨#[]⟩ : ByteArray), .bool false, .slice none 0 0, .string (⟨#[]⟩ : ByteArray)] Tryz.underlying24 ?_
       exact ⟨_, gq2, gq6, gBe⟩
      ·rw [if_neg c7] at H
       have c7b0 := decide_eq_false c7
       clear c7
       obtain ⟨ji9, hji9⟩ : ∃ j_ : Int, (wrap64 ((a0.size : Int) - 9)) = j_ := ⟨_, rfl⟩
       replace H : (if 0 ≤ (ji9) then (if (ji9) ≤ (a0.size : Int) then (if (a0.extract ((ji9) : Int).toNat a0.size).toList = ([32, 72, 84, 84, 80, 47, 49, 46, 49] : List UInt8) then (if x4_1 ≤ (a0.size : Int) then (if 0 ≤ (wrap64 (x4_1 + 1)) then (if (wrap64 (x4_1 + 1)) ≤ (ji9) then ((spec_l6request.f k1 (a0.extract 0 (x4_1 : Int).toNat) (a0.extract ((wrap64 (x4_1 + 1)) : Int).toNat ((ji9) : Int).toNat) 0 (⟨#[]⟩ : ByteArray) false ([] : List (S41)) (⟨#[]⟩ : ByteArray)).bind fun t175 => (some (a0.extract 0 (x4_1 : Int).toNat, a0.extract ((wrap64 (x4_1 + 1)) : Int).toNat ((ji9) : Int).toNat, 0, (⟨#[]⟩ : ByteArray), false, ([] : List (S41)), (⟨#[]⟩ : ByteArray), t175))) else (none)) else (none)) else (none)) else (some ((⟨#[]⟩ : ByteArray), (⟨#[]⟩ : ByteArray), 0, (⟨#[]⟩ : ByteArray), false, ([] : List (S41)), (⟨#[]⟩ : ByteArray), false))) else (none)) else (none)) = some (r1, r2, r3, r4, r5, r6, r7, r8) := by first | (rw [hji9] at H; exact H) | (simp only [hji9] at H ⊢; exact H)
       have hji9w : (IntKind.i64.wrap ((a0.size : Int) - 9)) = ji9 := (i64_w _).trans hji9
       by_cases c10 : 0 ≤ (ji9)
       ·rw [if_pos c10] at H
        have c10b0 := eq_true c10
        have c10b1 := decide_eq_true c10
        clear c10
        by_cases c11 : (ji9) ≤ (a0.size : Int)
        ·rw [if_pos c11] at H
         have c11b0 := eq_true c11
         have c11b1 := decide_eq_true c11
         clear c11
         by_cases c12 : (a0.extract ((ji9) : Int).toNat a0.size).toList = ([32, 72, 84, 84, 80, 47, 49, 46, 49] : List UInt8)
         ·rw [if_pos c12] at H
          have c12b0 : ((a0.extract ((ji9) : Int).toNat a0.size).toList == ([32, 72, 84, 84, 80, 47, 49, 46, 49] : List UInt8)) = true := beq_iff_eq.mpr c12
          have c12b1 : ((a0.extract ((ji9) : Int).toNat a0.size).toList != ([32, 72, 84, 84, 80, 47, 49, 46, 49] : List UInt8)) = false := bne_eq_false_iff_eq.mpr c12
          clear c12
          have c13b0 := eq_true (of_decide_eq_true gq3 : 0 ≤ x4_1)
          by_cases c14 : x4_1 ≤ (a0.size : Int)
          ·rw [if_pos c14] at H
           have c14b0 := eq_true c14
           have c14b1 := decide_eq_true c14
           clear c14
           obtain ⟨ji15, hji15⟩ : ∃ j_ : Int, (wrap64 (x4_1 + 1)) = j_ := ⟨_, rfl⟩
           replace H : (if 0 ≤ (ji15) then (if (ji15) ≤ (ji9) then ((spec_l6request.f k1 (a0.extract 0 (x4_1 : Int).toNat) (a0.extract ((ji15) : Int).toNat ((ji9) : Int).toNat) 0 (⟨#[]⟩ : ByteArray) false ([] : List (S41)) (⟨#[]⟩ : ByteArray)).bind fun t175 => (some (a0.extract 0 (x4_1 : Int).toNat, a0.extract ((ji15) : Int).toNat ((ji9) : Int).toNat, 0, (⟨#[]⟩ : ByteArray), false, ([] : List (S41)), (⟨#[]⟩ : ByteArray), t175))) else (none)) else (none)) = some (r1, r2, r3, r4, r5, r6, r7, r8) := by first | (rw [hji15] at H; exact H) | (simp only [hji15] at H ⊢; exact H)
           have hji15w : (IntKind.i64.wrap (x4_1 + 1)) = ji15 := (i64_w _).trans hji15
           by_cases c16 : 0 ≤ (ji15)
           ·rw [if_pos c16] at H
            have c16b0 := eq_true c16
            have c16b1 := decide_eq_true c16
            clear c16
            by_cases c17 : (ji15) ≤ (ji9)
            ·rw [if_pos c17] at H
             have c17b0 := eq_true c17
             have c17b1 := decide_eq_true c17
             clear c17
             have c18b0 := eq_true (of_decide_eq_true gq3 : (ji9) ≤ (a0.size : Int))
             replace H := Option.bind_eq_some_iff.mp H
             obtain ⟨t175, A190, H⟩ := H
             replace H : (some (a0.extract 0 (x4_1 : Int).toNat, a0.extract ((ji15) : Int).toNat ((ji9) : Int).toNat, 0, (⟨#[]⟩ : ByteArray), false, ([] : List (S41)), (⟨#[]⟩ : ByteArray), t175)) = some (r1, r2, r3, r4, r5, r6, r7, r8) := H
             have A19 := Aside0.mk A190
             clear A190
             simp only [Option.some.injEq, Prod.mk.injEq] at H
             obtain ⟨rfl, rfl, rfl, rfl, rfl, rfl, rfl, rfl⟩ := H
             have p5 : 0 ≤ (x4_1 : Int) := of_decide_eq_true gq3
             have q5 : x4_1 < (a0.size : Int) := of_decide_eq_true gq3
             have hx5 := bt_at a0 x4_1
             replace p5 := eq_true p5
             replace q5 := eq_true q5
             try go_wp2
             replace BK173 := Aside0.mk (blk_drew BK173.out)
             replace HB := Aside0.mk (below_drew1 HB.out)
             refine start_ (n := 13) (S := fun w' => True) (ds := []) #[false, false, false, false, false, false, false, false, false, false, false, false, false] (by kernel_rfl) rfl rfl trivial (fun hHeld => ?_); refine with_tabW spec_l6first.tab6 spec_l6first.bits6 (fun HT_ HW_ => ?_)
             generalize wr.drew = w20 at BK173 HB hHeld ⊢
             refine pureT 0 (some 32) ?_
             refine pureT 1 (some 33) ?_
             refine pureT 2 (some 34) ?_
             refine pureT 3 (some 35) ?_
             refine pureT 4 (some 36) ?_
             refine pureT 5 (some 37) ?_
             refine pureT 6 (some 38) ?_
             refine pureT 7 (some 39) ?_
             refine pureT 8 (some 40) ?_
             refine pureT 9 (some 41) ?_
             refine pureT 10 (some 42) ?_
             refine one_ (i := 11) (N := some 5) #[true, true, true, true, true, true, true, true, true, true, true, true, false] rfl rfl (one_of HT_.out (by kernel_rfl)) (by decide) (fun K hK => ?_)
             refine box_step ?hg (N := 5) ?hd (cs := #[.string (⟨#[]⟩ : ByteArray), .string (⟨#[]⟩ : ByteArray), .int .i64 0, .string (⟨#[]⟩ : ByteArray), .bool false, .slice none 0 0, .string (⟨#[]⟩ : ByteArray)]) (t := 24) ?hr ?_; (case hd => rfl); (case hg => rfl); (case hr => first | (go_simp; done) | (go_simp; rfl))
             intro gb174 hg w21 hbox hb
             have BK174 := Aside0.mk (hbox)
             have GE174 := geA hg
             have NB173_174 := neA (g := gb173) hg
             have NB174_173 := neB NB173_174
             replace BK173 := blA (g := gb173) hb
             replace HB := beA hb
             clear hb hbox hg
             refine hK.out _ _ trivial (fun hHeld => ?_)
             clear hK K
             refine normA (some 5) ?_
             refine one_ (i := 12) (N := none) #[true, true, true, true, true, true, true, true, true, true, true, true, true] rfl rfl (one_of HT_.out (by kernel_rfl)) (by decide) (fun K hK => ?_)
             have hs22 := cz0 BK174
             have hfs22 := blk_frozen BK174.out 0
             have hns22_0 := NB173_174.out
             have hms22_0 := NB174_173.out
             have hs23 := cz1 BK174
             have hfs23 := blk_frozen BK174.out 1
             have hns23_0 := NB173_174.out
             have hms23_0 := NB174_173.out
             have hs24 := cz2 BK174
             have hfs24 := blk_frozen BK174.out 2
             have hns24_0 := NB173_174.out
             have hms24_0 := NB174_173.out
             have hs25 := cz3 BK174
             have hfs25 := blk_frozen BK174.out 3
             have hns25_0 := NB173_174.out
             have hms25_0 := NB174_173.out
             have hs26 := cz4 BK174
             have hfs26 := blk_frozen BK174.out 4
             have hns26_0 := NB173_174.out
             have hms26_0 := NB174_173.out
             have hs27 := cz5 BK174
             have hfs27 := blk_frozen BK174.out 5
             have hns27_0 := NB173_174.out
             have hms27_0 := NB174_173.out
             have hs28 := cz6 BK174
             have hfs28 := blk_frozen BK174.out 6
             have hns28_0 := NB173_174.out
             have hms28_0 := NB174_173.out
             refine skip_ (w1 := ?_) (by rfl) rfl ?_ ?_
             rotate_left
             ·go_simp
              rfl
             refine hK.out _ _ trivial (fun hHeld => ?_)
             clear hK K
             refine done_ (done_of HT_.out (by kernel_rfl)) ?_
             try go_wp2
             have n0_ : Aside0 ((((((((w21.setCell ⟨gb174, 0, none⟩ (.string (a0.extract 0 (x4_1 : Int).toNat))).setCell ⟨gb174, 1, none⟩ (.string (a0.extract ((ji15) : Int).toNat ((ji9) : Int).toNat))).setCell ⟨gb174, 2, none⟩ (.int .i64 0)).setCell ⟨gb174, 3, none⟩ (.string (⟨#[]⟩ : ByteArray))).setCell ⟨gb174, 4, none⟩ (.bool false)).setCell ⟨gb174, 5, none⟩ (.slice none 0 0)).setCell ⟨gb174, 6, none⟩ (.string (⟨#[]⟩ : ByteArray))).heap[gb173]? = some (.cells #[.string (⟨#[]⟩ : ByteArray), .string (⟨#[]⟩ : ByteArray), .int .i64 0, .string (⟨#[]⟩ : ByteArray), .bool false, .slice none 0 0, .string (⟨#[]⟩ : ByteArray)] 24 (0, 0))) := ⟨gBk⟩
             have n1_ : Aside0 ((((((((w21.setCell ⟨gb174, 0, none⟩ (.string (a0.extract 0 (x4_1 : Int).toNat))).setCell ⟨gb174, 1, none⟩ (.string (a0.extract ((ji15) : Int).toNat ((ji9) : Int).toNat))).setCell ⟨gb174, 2, none⟩ (.int .i64 0)).setCell ⟨gb174, 3, none⟩ (.string (⟨#[]⟩ : ByteArray))).setCell ⟨gb174, 4, none⟩ (.bool false)).setCell ⟨gb174, 5, none⟩ (.slice none 0 0)).setCell ⟨gb174, 6, none⟩ (.string (⟨#[]⟩ : ByteArray))).heap[gb174]? = some (.cells #[.string (a0.extract 0 (x4_1 : Int).toNat), .string (a0.extract ((ji15) : Int).toNat ((ji9) : Int).toNat), .int .i64 0, .string (⟨#[]⟩ : ByteArray), .bool false, .slice none 0 0, .string (⟨#[]⟩ : ByteArray)] 24 (0, 0))) := ⟨gBk⟩
             have n2_ : Aside0 (Below w.heap.size w (((((((w21.setCell ⟨gb174, 0, none⟩ (.string (a0.extract 0 (x4_1 : Int).toNat))).setCell ⟨gb174, 1, none⟩ (.string (a0.extract ((ji15) : Int).toNat ((ji9) : Int).toNat))).setCell ⟨gb174, 2, none⟩ (.int .i64 0)).setCell ⟨gb174, 3, none⟩ (.string (⟨#[]⟩ : ByteArray))).setCell ⟨gb174, 4, none⟩ (.bool false)).setCell ⟨gb174, 5, none⟩ (.slice none 0 0)).setCell ⟨gb174, 6, none⟩ (.string (⟨#[]⟩ : ByteArray)))) := ⟨gBe⟩
             (try clear BK173)
             (try clear BK174)
             (try clear HB)
             generalize (((((((w21.setCell ⟨gb174, 0, none⟩ (.string (a0.extract 0 (x4_1 : Int).toNat))).setCell ⟨gb174, 1, none⟩ (.string (a0.extract ((ji15) : Int).toNat ((ji9) : Int).toNat))).setCell ⟨gb174, 2, none⟩ (.int .i64 0)).setCell ⟨gb174, 3, none⟩ (.string (⟨#[]⟩ : ByteArray))).setCell ⟨gb174, 4, none⟩ (.bool false)).setCell ⟨gb174, 5, none⟩ (.slice none 0 0)).setCell ⟨gb174, 6, none⟩ (.string (⟨#[]⟩ : ByteArray))) = w29 at n0_ n1_ n2_ ⊢
             have BK173 := n0_
             have BK174 := n1_
             have HB := n2_
             clear n0_ n1_ n2_
             replace BK173 := Aside0.mk (blk_drew BK173.out)
             replace BK174 := Aside0.mk (blk_drew BK174.out)
             replace HB := Aside0.mk (below_drew1 HB.out)
             refine start_ (n := 5) (S := fun w' => w'.cell? ⟨gb174, 0, none⟩ = some (.string (a0.extract 0 (x4_1 : Int).toNat)) ∧ w'.cell? ⟨gb174, 1, none⟩ = some (.string (a0.extract ((ji15) : Int).toNat ((ji9) : Int).toNat)) ∧ w'.cell? ⟨gb174, 2, none⟩ = some (.int .i64 0) ∧ w'.cell? ⟨gb174, 3, none⟩ = some (.string (⟨#[]⟩ : ByteArray)) ∧ w'.cell? ⟨gb174, 4, none⟩ = some (.bool false) ∧ w'.cell? ⟨gb174, 5, none⟩ = some (.slice none 0 0) ∧ w'.cell? ⟨gb174, 6, none⟩ = some (.string (⟨#[]⟩ : ByteArray))) (ds := []) #[false, false, false, false, false] (by kernel_rfl) rfl rfl ⟨(blk_cell BK174.out 0).trans rfl, (blk_cell BK174.out 1).trans rfl, (blk_cell BK174.out 2).trans rfl, (blk_cell BK174.out 3).trans rfl, (blk_cell BK174.out 4).trans rfl, (blk_cell BK174.out 5).trans rfl, (blk_cell BK174.out 6).trans rfl⟩ (fun hHeld => ?_)
             generalize w29.drew = w30 at BK173 BK174 HB hHeld ⊢
             refine takeK_ 0 (some 43) (hy := Or.inl ⟨by rfl, gq18⟩) ?_
             refine takeK_ 1 (some 44) (hy := Or.inl ⟨by rfl, gq18⟩) ?_
             refine one_ (i := 2) (N := some 45) #[true, true, true, false, false] rfl rfl (by kernel_rfl) (by decide) (fun K hK => ?_)
             refine goes_ Tryz.func30 (by kernel_rfl) rfl #[.agg #[.string (a0.extract 0 (x4_1 : Int).toNat), .string (a0.extract ((ji15) : Int).toNat ((ji9) : Int).toNat), .int .i64 0, .string (⟨#[]⟩ : ByteArray), .bool false, .slice none 0 0, .string (⟨#[]⟩ : ByteArray)]] (by rfl) rfl rfl (by (try simp only [List.map_toArray, List.map_cons, List.map_nil]); first | done | (simp only [hji15, hji9]; rfl) | rfl | (simp only [List.length_drop, List.length_take]; rfl)) ?_
             refine (spec_l6request.calls k1 (a0.extract 0 (x4_1 : Int).toNat) (a0.extract ((ji15) : Int).toNat ((ji9) : Int).toNat) 0 (⟨#[]⟩ : ByteArray) false _ _ ([] : List (S41)) (⟨#[]⟩ : ByteArray) t175 _ ?side1 ?side2 A19.out).mono ?_
             (case side1 => exact Kd.C_nil _ _)
             (case side2 => exact Nat.le_refl _)
             rintro e w31 ⟨rfl, hb⟩
             refine ⟨_, rfl, ?_⟩
             replace BK173 := blA (g := gb173) hb
             replace BK174 := blA (g := gb174) hb
             replace HB := beA hb
             (try clear hb)
             (try clear hb2)
             (try clear hk)
             (try clear hi)
             refine hK.out _ _ ⟨(blk_cell BK174.out 0).trans rfl, (blk_cell BK174.out 1).trans rfl, (blk_cell BK174.out 2).trans rfl, (blk_cell BK174.out 3).trans rfl, (blk_cell BK174.out 4).trans rfl, (blk_cell BK174.out 5).trans rfl, (blk_cell BK174.out 6).trans rfl⟩ (fun hHeld => ?_)
             clear hK K
             refine normA (some 45) ?_
             refine one_ (i := 3) (N := none) #[true, true, true, true, false] rfl rfl (by kernel_rfl) (by decide) (fun K hK => ?_)
             have hs32 := cz0 BK173
             have hfs32 := blk_frozen BK173.out 0
             have hns32_1 := NB174_173.out
             have hms32_1 := NB173_174.out
             have hs33 := cz1 BK173
             have hfs33 := blk_frozen BK173.out 1
             have hns33_1 := NB174_173.out
             have hms33_1 := NB173_174.out
             have hs34 := cz2 BK173
             have hfs34 := blk_frozen BK173.out 2
             have hns34_1 := NB174_173.out
             have hms34_1 := NB173_174.out
             have hs35 := cz3 BK173
             have hfs35 := blk_frozen BK173.out 3
             have hns35_1 := NB174_173.out
             have hms35_1 := NB173_174.out
             have hs36 := cz4 BK173
             have hfs36 := blk_frozen BK173.out 4
             have hns36_1 := NB174_173.out
             have hms36_1 := NB173_174.out
             have hs37 := cz5 BK173
             have hfs37 := blk_frozen BK173.out 5
             have hns37_1 := NB174_173.out
             have hms37_1 := NB173_174.out
             have hs38 := cz6 BK173
             have hfs38 := blk_frozen BK173.out 6
             have hns38_1 := NB174_173.out
             have hms38_1 := NB173_174.out
             refine skip_ (w1 := ?_) (by rfl) rfl ?_ ?_
             rotate_left
             ·go_simp
              rfl
             refine hK.out _ _ ⟨((cell_far (p := ⟨gb173, _, none⟩) NB174_173.out _).trans (((cell_far (p := ⟨gb173, _, none⟩) NB174_173.out _).trans (((cell_far (p := ⟨gb173, _, none⟩) NB174_173.out _).trans (((cell_far (p := ⟨gb173, _, none⟩) NB174_173.out _).trans (((cell_far (p := ⟨gb173, _, none⟩) NB174_173.out _).trans (((cell_far (p := ⟨gb173, _, none⟩) NB174_173.out _).trans (((cell_far (p := ⟨gb173, _, none⟩) NB174_173.out _).trans (hHeld.1)))))))))))))), ((cell_far (p := ⟨gb173, _, none⟩) NB174_173.out _).trans (((cell_far (p := ⟨gb173, _, none⟩) NB174_173.out _).trans (((cell_far (p := ⟨gb173, _, none⟩) NB174_173.out _).trans (((cell_far (p := ⟨gb173, _, none⟩) NB174_173.out _).trans (((cell_far (p := ⟨gb173, _, none⟩) NB174_173.out _).trans (((cell_far (p := ⟨gb173, _, none⟩) NB174_173.out _).trans (((cell_far (p := ⟨gb173, _, none⟩) NB174_173.out _).trans (hHeld.2.1)))))))))))))), ((cell_far (p := ⟨gb173, _, none⟩) NB174_173.out _).trans (((cell_far (p := ⟨gb173, _, none⟩) NB174_173.out _).trans (((cell_far (p := ⟨gb173, _, none⟩) NB174_173.out _).trans (((cell_far (p := ⟨gb173, _, none⟩) NB174_173.out _).trans (((cell_far (p := ⟨gb173, _, none⟩) NB174_173.out _).trans (((cell_far (p := ⟨gb173, _, none⟩) NB174_173.out _).trans (((cell_far (p := ⟨gb173, _, none⟩) NB174_173.out _).trans (hHeld.2.2.1)))))))))))))), ((cell_far (p := ⟨gb173, _, none⟩) NB174_173.out _).trans (((cell_far (p := ⟨gb173, _, none⟩) NB174_173.out _).trans (((cell_far (p := ⟨gb173, _, none⟩) NB174_173.out _).trans (((cell_far (p := ⟨gb173, _, none⟩) NB174_173.out _).trans (((cell_far (p := ⟨gb173, _, none⟩) NB174_173.out _).trans (((cell_far (p := ⟨gb173, _, none⟩) NB174_173.out _).trans (((cell_far (p := ⟨gb173, _, none⟩) NB174_173.out _).trans (hHeld.2.2.2.1)))))))))))))), ((cell_far (p := ⟨gb173, _, none⟩) NB174_173.out _).trans (((cell_far (p := ⟨gb173, _, none⟩) NB174_173.out _).trans (((cell_far (p := ⟨gb173, _, none⟩) NB174_173.out _).trans (((cell_far (p := ⟨gb173, _, none⟩) NB174_173.out _).trans (((cell_far (p := ⟨gb173, _, none⟩) NB174_173.out _).trans (((cell_far (p := ⟨gb173, _, none⟩) NB174_173.out _).trans (((cell_far (p := ⟨gb173, _, none⟩) NB174_173.out _).trans (hHeld.2.2.2.2.1)))))))))))))), ((cell_far (p := ⟨gb173, _, none⟩) NB174_173.out _).trans (((cell_far (p := ⟨gb173, _, none⟩) NB174_173.out _).trans (((cell_far (p := ⟨gb173, _, none⟩) NB174_173.out _).trans (((cell_far (p := ⟨gb173, _, none⟩) NB174_173.out _).trans (((cell_far (p := ⟨gb173, _, none⟩) NB174_173.out _).trans (((cell_far (p := ⟨gb173, _, none⟩) NB174_173.out _).trans (((cell_far (p := ⟨gb173, _, none⟩) NB174_173.out _).trans (hHeld.2.2.2.2.2.1)))))))))))))), ((cell_far (p := ⟨gb173, _, none⟩) NB174_173.out _).trans (((cell_far (p := ⟨gb173, _, none⟩) NB174_173.out _).trans (((cell_far (p := ⟨gb173, _, none⟩) NB174_173.out _).trans (((cell_far (p := ⟨gb173, _, none⟩) NB174_173.out _).trans (((cell_far (p := ⟨gb173, _, none⟩) NB174_173.out _).trans (((cell_far (p := ⟨gb173, _, none⟩) NB174_173.out _).trans (((cell_far (p := ⟨gb173, _, none⟩) NB174_173.out _).trans (hHeld.2.2.2.2.2.2))))))))))))))⟩ (fun hHeld => ?_)
             clear hK K
             refine pureK 4 (some 3) ?_
             refine done_ (by kernel_rfl) ?_
             try go_wp2
             refine rctA gb173 24 #[.string (a0.extract 0 (x4_1 : Int).toNat), .string (a0.extract ((ji15) : Int).toNat ((ji9) : Int).toNat), .int .i64 0, .string (⟨#[]⟩ : ByteArray), .bool false, .slice none 0 0, .string (⟨#[]⟩ : ByteArray)] Tryz.underlying24 ?_
             exact ⟨_, by first | rfl | (simp [errW_none, errW_some] <;> rfl) | (simp only [← hji9, ← hji15]; first | rfl | (simp [errW_none, errW_some] <;> rfl)) | (simp [*, errW_none, errW_some] <;> rfl), gq6, gBe⟩
            ·rw [if_neg c17] at H
             exact absurd H (by simp)
           ·rw [if_neg c16] at H
            exact absurd H (by simp)
          ·rw [if_neg c14] at H
           exact absurd H (by simp)
         ·rw [if_neg c12] at H
          have c12b0 : ((a0.extract ((ji9) : Int).toNat a0.size).toList == ([32, 72, 84, 84, 80, 47, 49, 46, 49] : List UInt8)) = false := beq_eq_false_iff_ne.mpr c12
          have c12b1 : ((a0.extract ((ji9) : Int).toNat a0.size).toList != ([32, 72, 84, 84, 80, 47, 49, 46, 49] : List UInt8)) = true := bne_iff_ne.mpr c12
          simp only [Option.some.injEq, Prod.mk.injEq] at H
          obtain ⟨rfl, rfl, rfl, rfl, rfl, rfl, rfl, rfl⟩ := H
          have p5 : 0 ≤ (x4_1 : Int) := of_decide_eq_true gq3
          have q5 : x4_1 < (a0.size : Int) := of_decide_eq_true gq3
          have hx5 := bt_at a0 x4_1
          replace p5 := eq_true p5
          replace q5 := eq_true q5
          have hcz39_0 := cz0 BK173
          have hcz39_1 := cz1 BK173
          have hcz39_2 := cz2 BK173
          have hcz39_3 := cz3 BK173
          have hcz39_4 := cz4 BK173
          have hcz39_5 := cz5 BK173
          have hcz39_6 := cz6 BK173
          have hfz39_0 := blk_frozen BK173.out 0
          have hfz39_1 := blk_frozen BK173.out 1
          have hfz39_2 := blk_frozen BK173.out 2
          have hfz39_3 := blk_frozen BK173.out 3
          have hfz39_4 := blk_frozen BK173.out 4
          have hfz39_5 := blk_frozen BK173.out 5
          have hfz39_6 := blk_frozen BK173.out 6
          go_wp2
          refine rctA gb173 24 #[.string (⟨#[]⟩ : ByteArray), .string (⟨#[]⟩ : ByteArray), .int .i64 0, .string (⟨#[]⟩ : ByteArray), .bool false, .slice none 0 0, .string (⟨#[]⟩ : ByteArray)] Tryz.underlying24 ?_
          exact ⟨_, by first | rfl | (simp [errW_none, errW_some] <;> rfl) | (simp only [← hji9]; first | rfl | (simp [errW_none, errW_some] <;> rfl)) | (simp [*, errW_none, errW_some] <;> rfl), gq6, gBe⟩
        ·rw [if_neg c11] at H
         exact absurd H (by simp)
       ·rw [if_neg c10] at H
        exact absurd H (by simp)
     ·rw [if_neg c6] at H
      have c6b0 : ((bt a0 x4_1) == 32) = false := beq_eq_false_iff_ne.mpr c6
      have c6b1 : ((bt a0 x4_1) != 32) = true := bne_iff_ne.mpr c6
      have H' := Aside0.mk H
      clear H
      have p5 : 0 ≤ (x4_1 : Int) := of_decide_eq_true gq3
      have q5 : x4_1 < (a0.size : Int) := of_decide_eq_true gq3
      have hx5 := bt_at a0 x4_1
      replace p5 := eq_true p5
      replace q5 := eq_true q5
      go_wp2
      go_roundg k1
      case measure => have := HK1.out; omega
      case rel => exact ⟨(wrap64 (x4_1 + 1)), gq4, H', ⟨by have := HK1.out; omega⟩, ⟨gBk⟩, ⟨gBe⟩⟩
    ·rw [if_neg c4] at H
     exact absurd H (by simp)
   ·rw [if_neg c3] at H
    have c3b0 := decide_eq_false c3
    clear c3
    by_cases c40 : (a0.size : Int) < (wrap64 (x4_1 + 11))
    ·rw [if_pos c40] at H
     have c40b0 := decide_eq_true c40
     clear c40
     simp only [Option.some.injEq, Prod.mk.injEq] at H
     obtain ⟨rfl, rfl, rfl, rfl, rfl, rfl, rfl, rfl⟩ := H
     have hcz41_0 := cz0 BK173
     have hcz41_1 := cz1 BK173
     have hcz41_2 := cz2 BK173
     have hcz41_3 := cz3 BK173
     have hcz41_4 := cz4 BK173
     have hcz41_5 := cz5 BK173
     have hcz41_6 := cz6 BK173
     have hfz41_0 := blk_frozen BK173.out 0
     have hfz41_1 := blk_frozen BK173.out 1
     have hfz41_2 := blk_frozen BK173.out 2
     have hfz41_3 := blk_frozen BK173.out 3
     have hfz41_4 := blk_frozen BK173.out 4
     have hfz41_5 := blk_frozen BK173.out 5
     have hfz41_6 := blk_frozen BK173.out 6
     go_wp2
     refine rctA gb173 24 #[.string (⟨#[]⟩ : ByteArray), .string (⟨#[]⟩ : ByteArray), .int .i64 0, .string (⟨#[]⟩ : ByteArray), .bool false, .slice none 0 0, .string (⟨#[]⟩ : ByteArray)] Tryz.underlying24 ?_
     exact ⟨_, gq2, gq6, gBe⟩
    ·rw [if_neg c40] at H
     have c40b0 := decide_eq_false c40
     clear c40
     obtain ⟨ji42, hji42⟩ : ∃ j_ : Int, (wrap64 ((a0.size : Int) - 9)) = j_ := ⟨_, rfl⟩
     replace H : (if 0 ≤ (ji42) then (if (ji42) ≤ (a0.size : Int) then (if (a0.extract ((ji42) : Int).toNat a0.size).toList = ([32, 72, 84, 84, 80, 47, 49, 46, 49] : List UInt8) then (if 0 ≤ x4_1 then (if x4_1 ≤ (a0.size : Int) then (if 0 ≤ (wrap64 (x4_1 + 1)) then (if (wrap64 (x4_1 + 1)) ≤ (ji42) then ((spec_l6request.f k1 (a0.extract 0 (x4_1 : Int).toNat) (a0.extract ((wrap64 (x4_1 + 1)) : Int).toNat ((ji42) : Int).toNat) 0 (⟨#[]⟩ : ByteArray) false ([] : List (S41)) (⟨#[]⟩ : ByteArray)).bind fun t177 => (some (a0.extract 0 (x4_1 : Int).toNat, a0.extract ((wrap64 (x4_1 + 1)) : Int).toNat ((ji42) : Int).toNat, 0, (⟨#[]⟩ : ByteArray), false, ([] : List (S41)), (⟨#[]⟩ : ByteArray), t177))) else (none)) else (none)) else (none)) else (none)) else (some ((⟨#[]⟩ : ByteArray), (⟨#[]⟩ : ByteArray), 0, (⟨#[]⟩ : ByteArray), false, ([] : List (S41)), (⟨#[]⟩ : ByteArray), false))) else (none)) else (none)) = some (r1, r2, r3, r4, r5, r6, r7, r8) := by first | (rw [hji42] at H; exact H) | (simp only [hji42] at H ⊢; exact H)
     have hji42w : (IntKind.i64.wrap ((a0.size : Int) - 9)) = ji42 := (i64_w _).trans hji42
     by_cases c43 : 0 ≤ (ji42)
     ·rw [if_pos c43] at H
      have c43b0 := eq_true c43
      have c43b1 := decide_eq_true c43
      clear c43
      by_cases c44 : (ji42) ≤ (a0.size : Int)
      ·rw [if_pos c44] at H
       have c44b0 := eq_true c44
       have c44b1 := decide_eq_true c44
       clear c44
       by_cases c45 : (a0.extract ((ji42) : Int).toNat a0.size).toList = ([32, 72, 84, 84, 80, 47, 49, 46, 49] : List UInt8)
       ·rw [if_pos c45] at H
        have c45b0 : ((a0.extract ((ji42) : Int).toNat a0.size).toList == ([32, 72, 84, 84, 80, 47, 49, 46, 49] : List UInt8)) = true := beq_iff_eq.mpr c45
        have c45b1 : ((a0.extract ((ji42) : Int).toNat a0.size).toList != ([32, 72, 84, 84, 80, 47, 49, 46, 49] : List UInt8)) = false := bne_eq_false_iff_eq.mpr c45
        clear c45
        by_cases c46 : 0 ≤ x4_1
        ·rw [if_pos c46] at H
         have c46b0 := eq_true c46
         have c46b1 := decide_eq_true c46
         clear c46
         by_cases c47 : x4_1 ≤ (a0.size : Int)
         ·rw [if_pos c47] at H
          have c47b0 := eq_true c47
          have c47b1 := decide_eq_true c47
          clear c47
          obtain ⟨ji48, hji48⟩ : ∃ j_ : Int, (wrap64 (x4_1 + 1)) = j_ := ⟨_, rfl⟩
          replace H : (if 0 ≤ (ji48) then (if (ji48) ≤ (ji42) then ((spec_l6request.f k1 (a0.extract 0 (x4_1 : Int).toNat) (a0.extract ((ji48) : Int).toNat ((ji42) : Int).toNat) 0 (⟨#[]⟩ : ByteArray) false ([] : List (S41)) (⟨#[]⟩ : ByteArray)).bind fun t177 => (some (a0.extract 0 (x4_1 : Int).toNat, a0.extract ((ji48) : Int).toNat ((ji42) : Int).toNat, 0, (⟨#[]⟩ : ByteArray), false, ([] : List (S41)), (⟨#[]⟩ : ByteArray), t177))) else (none)) else (none)) = some (r1, r2, r3, r4, r5, r6, r7, r8) := by first | (rw [hji48] at H; exact H) | (simp only [hji48] at H ⊢; exact H)
          have hji48w : (IntKind.i64.wrap (x4_1 + 1)) = ji48 := (i64_w _).trans hji48
          by_cases c49 : 0 ≤ (ji48)
          ·rw [if_pos c49] at H
           have c49b0 := eq_true c49
           have c49b1 := decide_eq_true c49
           clear c49
           by_cases c50 : (ji48) ≤ (ji42)
           ·rw [if_pos c50] at H
            have c50b0 := eq_true c50
            have c50b1 := decide_eq_true c50
            clear c50
            have c51b0 := eq_true (of_decide_eq_true gq3 : (ji42) ≤ (a0.size : Int))
            replace H := Option.bind_eq_some_iff.mp H
            obtain ⟨t177, A520, H⟩ := H
            replace H : (some (a0.extract 0 (x4_1 : Int).toNat, a0.extract ((ji48) : Int).toNat ((ji42) : Int).toNat, 0, (⟨#[]⟩ : ByteArray), false, ([] : List (S41)), (⟨#[]⟩ : ByteArray), t177)) = some (r1, r2, r3, r4, r5, r6, r7, r8) := H
            have A52 := Aside0.mk A520
            clear A520
            simp only [Option.some.injEq, Prod.mk.injEq] at H
            obtain ⟨rfl, rfl, rfl, rfl, rfl, rfl, rfl, rfl⟩ := H
            try go_wp2
            replace BK173 := Aside0.mk (blk_drew BK173.out)
            replace HB := Aside0.mk (below_drew1 HB.out)
            refine start_ (n := 13) (S := fun w' => True) (ds := []) #[false, false, false, false, false, false, false, false, false, false, false, false, false] (by kernel_rfl) rfl rfl trivial (fun hHeld => ?_); refine with_tabW spec_l6first.tab6 spec_l6first.bits6 (fun HT_ HW_ => ?_)
            generalize wr.drew = w53 at BK173 HB hHeld ⊢
            refine pureT 0 (some 32) ?_
            refine pureT 1 (some 33) ?_
            refine pureT 2 (some 34) ?_
            refine pureT 3 (some 35) ?_
            refine pureT 4 (some 36) ?_
            refine pureT 5 (some 37) ?_
            refine pureT 6 (some 38) ?_
            refine pureT 7 (some 39) ?_
            refine pureT 8 (some 40) ?_
            refine pureT 9 (some 41) ?_
            refine pureT 10 (some 42) ?_
            refine one_ (i := 11) (N := some 5) #[true, true, true, true, true, true, true, true, true, true, true, true, false] rfl rfl (one_of HT_.out (by kernel_rfl)) (by decide) (fun K hK => ?_)
            refine box_step ?hg (N := 5) ?hd (cs := #[.string (⟨#[]⟩ : ByteArray), .string (⟨#[]⟩ : ByteArray), .int .i64 0, .string (⟨#[]⟩ : ByteArray), .bool false, .slice none 0 0, .string (⟨#[]⟩ : ByteArray)]) (t := 24) ?hr ?_; (case hd => rfl); (case hg => rfl); (case hr => first | (go_simp; done) | (go_simp; rfl))
            intro gb176 hg w54 hbox hb
            have BK176 := Aside0.mk (hbox)
            have GE176 := geA hg
            have NB173_176 := neA (g := gb173) hg
            have NB176_173 := neB NB173_176
            replace BK173 := blA (g := gb173) hb
            replace HB := beA hb
            clear hb hbox hg
            refine hK.out _ _ trivial (fun hHeld => ?_)
            clear hK K
            refine normA (some 5) ?_
            refine one_ (i := 12) (N := none) #[true, true, true, true, true, true, true, true, true, true, true, true, true] rfl rfl (one_of HT_.out (by kernel_rfl)) (by decide) (fun K hK => ?_)
            have hs55 := cz0 BK176
            have hfs55 := blk_frozen BK176.out 0
            have hns55_0 := NB173_176.out
            have hms55_0 := NB176_173.out
            have hs56 := cz1 BK176
            have hfs56 := blk_frozen BK176.out 1
            have hns56_0 := NB173_176.out
            have hms56_0 := NB176_173.out
            have hs57 := cz2 BK176
            have hfs57 := blk_frozen BK176.out 2
            have hns57_0 := NB173_176.out
            have hms57_0 := NB176_173.out
            have hs58 := cz3 BK176
            have hfs58 := blk_frozen BK176.out 3
            have hns58_0 := NB173_176.out
            have hms58_0 := NB176_173.out
            have hs59 := cz4 BK176
            have hfs59 := blk_frozen BK176.out 4
            have hns59_0 := NB173_176.out
            have hms59_0 := NB176_173.out
            have hs60 := cz5 BK176
            have hfs60 := blk_frozen BK176.out 5
            have hns60_0 := NB173_176.out
            have hms60_0 := NB176_173.out
            have hs61 := cz6 BK176
            have hfs61 := blk_frozen BK176.out 6
            have hns61_0 := NB173_176.out
            have hms61_0 := NB176_173.out
            refine skip_ (w1 := ?_) (by rfl) rfl ?_ ?_
            rotate_left
            ·go_simp
             rfl
            refine hK.out _ _ trivial (fun hHeld => ?_)
            clear hK K
            refine done_ (done_of HT_.out (by kernel_rfl)) ?_
            try go_wp2
            have n0_ : Aside0 ((((((((w54.setCell ⟨gb176, 0, none⟩ (.string (a0.extract 0 (x4_1 : Int).toNat))).setCell ⟨gb176, 1, none⟩ (.string (a0.extract ((ji48) : Int).toNat ((ji42) : Int).toNat))).setCell ⟨gb176, 2, none⟩ (.int .i64 0)).setCell ⟨gb176, 3, none⟩ (.string (⟨#[]⟩ : ByteArray))).setCell ⟨gb176, 4, none⟩ (.bool false)).setCell ⟨gb176, 5, none⟩ (.slice none 0 0)).setCell ⟨gb176, 6, none⟩ (.string (⟨#[]⟩ : ByteArray))).heap[gb173]? = some (.cells #[.string (⟨#[]⟩ : ByteArray), .string (⟨#[]⟩ : ByteArray), .int .i64 0, .string (⟨#[]⟩ : ByteArray), .bool false, .slice none 0 0, .string (⟨#[]⟩ : ByteArray)] 24 (0, 0))) := ⟨gBk⟩
            have n1_ : Aside0 ((((((((w54.setCell ⟨gb176, 0, none⟩ (.string (a0.extract 0 (x4_1 : Int).toNat))).setCell ⟨gb176, 1, none⟩ (.string (a0.extract ((ji48) : Int).toNat ((ji42) : Int).toNat))).setCell ⟨gb176, 2, none⟩ (.int .i64 0)).setCell ⟨gb176, 3, none⟩ (.string (⟨#[]⟩ : ByteArray))).setCell ⟨gb176, 4, none⟩ (.bool false)).setCell ⟨gb176, 5, none⟩ (.slice none 0 0)).setCell ⟨gb176, 6, none⟩ (.string (⟨#[]⟩ : ByteArray))).heap[gb176]? = some (.cells #[.string (a0.extract 0 (x4_1 : Int).toNat), .string (a0.extract ((ji48) : Int).toNat ((ji42) : Int).toNat), .int .i64 0, .string (⟨#[]⟩ : ByteArray), .bool false, .slice none 0 0, .string (⟨#[]⟩ : ByteArray)] 24 (0, 0))) := ⟨gBk⟩
            have n2_ : Aside0 (Below w.heap.size w (((((((w54.setCell ⟨gb176, 0, none⟩ (.string (a0.extract 0 (x4_1 : Int).toNat))).setCell ⟨gb176, 1, none⟩ (.string (a0.extract ((ji48) : Int).toNat ((ji42) : Int).toNat))).setCell ⟨gb176, 2, none⟩ (.int .i64 0)).setCell ⟨gb176, 3, none⟩ (.string (⟨#[]⟩ : ByteArray))).setCell ⟨gb176, 4, none⟩ (.bool false)).setCell ⟨gb176, 5, none⟩ (.slice none 0 0)).setCell ⟨gb176, 6, none⟩ (.string (⟨#[]⟩ : ByteArray)))) := ⟨gBe⟩
            (try clear BK173)
            (try clear BK176)
            (try clear HB)
            generalize (((((((w54.setCell ⟨gb176, 0, none⟩ (.string (a0.extract 0 (x4_1 : Int).toNat))).setCell ⟨gb176, 1, none⟩ (.string (a0.extract ((ji48) : Int).toNat ((ji42) : Int).toNat))).setCell ⟨gb176, 2, none⟩ (.int .i64 0)).setCell ⟨gb176, 3, none⟩ (.string (⟨#[]⟩ : ByteArray))).setCell ⟨gb176, 4, none⟩ (.bool false)).setCell ⟨gb176, 5, none⟩ (.slice none 0 0)).setCell ⟨gb176, 6, none⟩ (.string (⟨#[]⟩ : ByteArray))) = w62 at n0_ n1_ n2_ ⊢
            have BK173 := n0_
            have BK176 := n1_
            have HB := n2_
            clear n0_ n1_ n2_
            replace BK173 := Aside0.mk (blk_drew BK173.out)
            replace BK176 := Aside0.mk (blk_drew BK176.out)
            replace HB := Aside0.mk (below_drew1 HB.out)
            refine start_ (n := 5) (S := fun w' => w'.cell? ⟨gb176, 0, none⟩ = some (.string (a0.extract 0 (x4_1 : Int).toNat)) ∧ w'.cell? ⟨gb176, 1, none⟩ = some (.string (a0.extract ((ji48) : Int).toNat ((ji42) : Int).toNat)) ∧ w'.cell? ⟨gb176, 2, none⟩ = some (.int .i64 0) ∧ w'.cell? ⟨gb176, 3, none⟩ = some (.string (⟨#[]⟩ : ByteArray)) ∧ w'.cell? ⟨gb176, 4, none⟩ = some (.bool false) ∧ w'.cell? ⟨gb176, 5, none⟩ = some (.slice none 0 0) ∧ w'.cell? ⟨gb176, 6, none⟩ = some (.string (⟨#[]⟩ : ByteArray))) (ds := []) #[false, false, false, false, false] (by kernel_rfl) rfl rfl ⟨(blk_cell BK176.out 0).trans rfl, (blk_cell BK176.out 1).trans rfl, (blk_cell BK176.out 2).trans rfl, (blk_cell BK176.out 3).trans rfl, (blk_cell BK176.out 4).trans rfl, (blk_cell BK176.out 5).trans rfl, (blk_cell BK176.out 6).trans rfl⟩ (fun hHeld => ?_)
            generalize w62.drew = w63 at BK173 BK176 HB hHeld ⊢
            refine takeK_ 0 (some 43) (hy := Or.inl ⟨by rfl, gq18⟩) ?_
            refine takeK_ 1 (some 44) (hy := Or.inl ⟨by rfl, gq18⟩) ?_
            refine one_ (i := 2) (N := some 45) #[true, true, true, false, false] rfl rfl (by kernel_rfl) (by decide) (fun K hK => ?_)
            refine goes_ Tryz.func30 (by kernel_rfl) rfl #[.agg #[.string (a0.extract 0 (x4_1 : Int).toNat), .string (a0.extract ((ji48) : Int).toNat ((ji42) : Int).toNat), .int .i64 0, .string (⟨#[]⟩ : ByteArray), .bool false, .slice none 0 0, .string (⟨#[]⟩ : ByteArray)]] (by rfl) rfl rfl (by (try simp only [List.map_toArray, List.map_cons, List.map_nil]); first | done | (simp only [hji42, hji48]; rfl) | rfl | (simp only [List.length_drop, List.length_take]; rfl)) ?_
            refine (spec_l6request.calls k1 (a0.extract 0 (x4_1 : Int).toNat) (a0.extract ((ji48) : Int).toNat ((ji42) : Int).toNat) 0 (⟨#[]⟩ : ByteArray) false _ _ ([] : List (S41)) (⟨#[]⟩ : ByteArray) t177 _ ?side1 ?side2 A52.out).mono ?_
            (case side1 => exact Kd.C_nil _ _)
            (case side2 => exact Nat.le_refl _)
            rintro e w64 ⟨rfl, hb⟩
            refine ⟨_, rfl, ?_⟩
            replace BK173 := blA (g := gb173) hb
            replace BK176 := blA (g := gb176) hb
            replace HB := beA hb
            (try clear hb)
            (try clear hb2)
            (try clear hk)
            (try clear hi)
            refine hK.out _ _ ⟨(blk_cell BK176.out 0).trans rfl, (blk_cell BK176.out 1).trans rfl, (blk_cell BK176.out 2).trans rfl, (blk_cell BK176.out 3).trans rfl, (blk_cell BK176.out 4).trans rfl, (blk_cell BK176.out 5).trans rfl, (blk_cell BK176.out 6).trans rfl⟩ (fun hHeld => ?_)
            clear hK K
            refine normA (some 45) ?_
            refine one_ (i := 3) (N := none) #[true, true, true, true, false] rfl rfl (by kernel_rfl) (by decide) (fun K hK => ?_)
            have hs65 := cz0 BK173
            have hfs65 := blk_frozen BK173.out 0
            have hns65_1 := NB176_173.out
            have hms65_1 := NB173_176.out
            have hs66 := cz1 BK173
            have hfs66 := blk_frozen BK173.out 1
            have hns66_1 := NB176_173.out
            have hms66_1 := NB173_176.out
            have hs67 := cz2 BK173
            have hfs67 := blk_frozen BK173.out 2
            have hns67_1 := NB176_173.out
            have hms67_1 := NB173_176.out
            have hs68 := cz3 BK173
            have hfs68 := blk_frozen BK173.out 3
            have hns68_1 := NB176_173.out
            have hms68_1 := NB173_176.out
            have hs69 := cz4 BK173
            have hfs69 := blk_frozen BK173.out 4
            have hns69_1 := NB176_173.out
            have hms69_1 := NB173_176.out
            have hs70 := cz5 BK173
            have hfs70 := blk_frozen BK173.out 5
            have hns70_1 := NB176_173.out
            have hms70_1 := NB173_176.out
            have hs71 := cz6 BK173
            have hfs71 := blk_frozen BK173.out 6
            have hns71_1 := NB176_173.out
            have hms71_1 := NB173_176.out
            refine skip_ (w1 := ?_) (by rfl) rfl ?_ ?_
            rotate_left
            ·go_simp
             rfl
            refine hK.out _ _ ⟨((cell_far (p := ⟨gb173, _, none⟩) NB176_173.out _).trans (((cell_far (p := ⟨gb173, _, none⟩) NB176_173.out _).trans (((cell_far (p := ⟨gb173, _, none⟩) NB176_173.out _).trans (((cell_far (p := ⟨gb173, _, none⟩) NB176_173.out _).trans (((cell_far (p := ⟨gb173, _, none⟩) NB176_173.out _).trans (((cell_far (p := ⟨gb173, _, none⟩) NB176_173.out _).trans (((cell_far (p := ⟨gb173, _, none⟩) NB176_173.out _).trans (hHeld.1)))))))))))))), ((cell_far (p := ⟨gb173, _, none⟩) NB176_173.out _).trans (((cell_far (p := ⟨gb173, _, none⟩) NB176_173.out _).trans (((cell_far (p := ⟨gb173, _, none⟩) NB176_173.out _).trans (((cell_far (p := ⟨gb173, _, none⟩) NB176_173.out _).trans (((cell_far (p := ⟨gb173, _, none⟩) NB176_173.out _).trans (((cell_far (p := ⟨gb173, _, none⟩) NB176_173.out _).trans (((cell_far (p := ⟨gb173, _, none⟩) NB176_173.out _).trans (hHeld.2.1)))))))))))))), ((cell_far (p := ⟨gb173, _, none⟩) NB176_173.out _).trans (((cell_far (p := ⟨gb173, _, none⟩) NB176_173.out _).trans (((cell_far (p := ⟨gb173, _, none⟩) NB176_173.out _).trans (((cell_far (p := ⟨gb173, _, none⟩) NB176_173.out _).trans (((cell_far (p := ⟨gb173, _, none⟩) NB176_173.out _).trans (((cell_far (p := ⟨gb173, _, none⟩) NB176_173.out _).trans (((cell_far (p := ⟨gb173, _, none⟩) NB176_173.out _).trans (hHeld.2.2.1)))))))))))))), ((cell_far (p := ⟨gb173, _, none⟩) NB176_173.out _).trans (((cell_far (p := ⟨gb173, _, none⟩) NB176_173.out _).trans (((cell_far (p := ⟨gb173, _, none⟩) NB176_173.out _).trans (((cell_far (p := ⟨gb173, _, none⟩) NB176_173.out _).trans (((cell_far (p := ⟨gb173, _, none⟩) NB176_173.out _).trans (((cell_far (p := ⟨gb173, _, none⟩) NB176_173.out _).trans (((cell_far (p := ⟨gb173, _, none⟩) NB176_173.out _).trans (hHeld.2.2.2.1)))))))))))))), ((cell_far (p := ⟨gb173, _, none⟩) NB176_173.out _).trans (((cell_far (p := ⟨gb173, _, none⟩) NB176_173.out _).trans (((cell_far (p := ⟨gb173, _, none⟩) NB176_173.out _).trans (((cell_far (p := ⟨gb173, _, none⟩) NB176_173.out _).trans (((cell_far (p := ⟨gb173, _, none⟩) NB176_173.out _).trans (((cell_far (p := ⟨gb173, _, none⟩) NB176_173.out _).trans (((cell_far (p := ⟨gb173, _, none⟩) NB176_173.out _).trans (hHeld.2.2.2.2.1)))))))))))))), ((cell_far (p := ⟨gb173, _, none⟩) NB176_173.out _).trans (((cell_far (p := ⟨gb173, _, none⟩) NB176_173.out _).trans (((cell_far (p := ⟨gb173, _, none⟩) NB176_173.out _).trans (((cell_far (p := ⟨gb173, _, none⟩) NB176_173.out _).trans (((cell_far (p := ⟨gb173, _, none⟩) NB176_173.out _).trans (((cell_far (p := ⟨gb173, _, none⟩) NB176_173.out _).trans (((cell_far (p := ⟨gb173, _, none⟩) NB176_173.out _).trans (hHeld.2.2.2.2.2.1)))))))))))))), ((cell_far (p := ⟨gb173, _, none⟩) NB176_173.out _).trans (((cell_far (p := ⟨gb173, _, none⟩) NB176_173.out _).trans (((cell_far (p := ⟨gb173, _, none⟩) NB176_173.out _).trans (((cell_far (p := ⟨gb173, _, none⟩) NB176_173.out _).trans (((cell_far (p := ⟨gb173, _, none⟩) NB176_173.out _).trans (((cell_far (p := ⟨gb173, _, none⟩) NB176_173.out _).trans (((cell_far (p := ⟨gb173, _, none⟩) NB176_173.out _).trans (hHeld.2.2.2.2.2.2))))))))))))))⟩ (fun hHeld => ?_)
            clear hK K
            refine pureK 4 (some 3) ?_
            refine done_ (by kernel_rfl) ?_
            try go_wp2
            refine rctA gb173 24 #[.string (a0.extract 0 (x4_1 : Int).toNat), .string (a0.extract ((ji48) : Int).toNat ((ji42) : Int).toNat), .int .i64 0, .string (⟨#[]⟩ : ByteArray), .bool false, .slice none 0 0, .string (⟨#[]⟩ : ByteArray)] Tryz.underlying24 ?_
            exact ⟨_, by first | rfl | (simp [errW_none, errW_some] <;> rfl) | (simp only [← hji42, ← hji48]; first | rfl | (simp [errW_none, errW_some] <;> rfl)) | (simp [*, errW_none, errW_some] <;> rfl), gq6, gBe⟩
           ·rw [if_neg c50] at H
            exact absurd H (by simp)
          ·rw [if_neg c49] at H
           exact absurd H (by simp)
         ·rw [if_neg c47] at H
          exact absurd H (by simp)
        ·rw [if_neg c46] at H
         exact absurd H (by simp)
       ·rw [if_neg c45] at H
        have c45b0 : ((a0.extract ((ji42) : Int).toNat a0.size).toList == ([32, 72, 84, 84, 80, 47, 49, 46, 49] : List UInt8)) = false := beq_eq_false_iff_ne.mpr c45
        have c45b1 : ((a0.extract ((ji42) : Int).toNat a0.size).toList != ([32, 72, 84, 84, 80, 47, 49, 46, 49] : List UInt8)) = true := bne_iff_ne.mpr c45
        simp only [Option.some.injEq, Prod.mk.injEq] at H
        obtain ⟨rfl, rfl, rfl, rfl, rfl, rfl, rfl, rfl⟩ := H
        have hcz72_0 := cz0 BK173
        have hcz72_1 := cz1 BK173
        have hcz72_2 := cz2 BK173
        have hcz72_3 := cz3 BK173
        have hcz72_4 := cz4 BK173
        have hcz72_5 := cz5 BK173
        have hcz72_6 := cz6 BK173
        have hfz72_0 := blk_frozen BK173.out 0
        have hfz72_1 := blk_frozen BK173.out 1
        have hfz72_2 := blk_frozen BK173.out 2
        have hfz72_3 := blk_frozen BK173.out 3
        have hfz72_4 := blk_frozen BK173.out 4
        have hfz72_5 := blk_frozen BK173.out 5
        have hfz72_6 := blk_frozen BK173.out 6
        go_wp2
        refine rctA gb173 24 #[.string (⟨#[]⟩ : ByteArray), .string (⟨#[]⟩ : ByteArray), .int .i64 0, .string (⟨#[]⟩ : ByteArray), .bool false, .slice none 0 0, .string (⟨#[]⟩ : ByteArray)] Tryz.underlying24 ?_
        exact ⟨_, by first | rfl | (simp [errW_none, errW_some] <;> rfl) | (simp only [← hji42]; first | rfl | (simp [errW_none, errW_some] <;> rfl)) | (simp [*, errW_none, errW_some] <;> rfl), gq6, gBe⟩
      ·rw [if_neg c44] at H
       exact absurd H (by simp)
     ·rw [if_neg c43] at H
      exact absurd H (by simp)

end Go.Proofs.YtonmpnghlopnoaaGreatDoor.P
