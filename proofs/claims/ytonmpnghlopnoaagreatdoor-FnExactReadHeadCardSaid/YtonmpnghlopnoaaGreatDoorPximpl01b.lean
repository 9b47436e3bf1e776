-- Written by a program of ours (myprint.py, by way of the kit's print) out of Lean's print of the translation.
import Derived.Test.YtonmpnghlopnoaaGreatDoorPx0
import Derived.Test.YtonmpnghlopnoaaGreatDoorPxliba
import Derived.Test.YtonmpnghlopnoaaGreatDoorWC
namespace Go.Proofs.YtonmpnghlopnoaaGreatDoor.P
open Go.RowKit Go.Proofs.YtonmpnghlopnoaaGreatDoorW.PrintWords Go.Proofs.YtonmpnghlopnoaaGreatDoorW.PrintLast Go.Proofs.YtonmpnghlopnoaaGreatDoorW.PrintMore
attribute [local go_sem] max2_int min2_int max_two min_two max_three min_three max_four min_four   -- for this text's walks alone
set_option linter.unusedVariables false
set_option linter.unusedSimpArgs false

def impl_TakeLine.j0 : Nat → ByteArray → Int → Bool → ByteArray → Int → Option (ByteArray × ByteArray × Int × Int)
 | 0, _, _, _, _, _ => none
 | k + 1, x5, x6, x18, x279000, x279001 => if x18 = true then (some ((⟨#[]⟩ : ByteArray), (⟨#[]⟩ : ByteArray), 0, 1)) else (if 0 ≤ x6 then (if x6 < (x5.size : Int) then (if (bt x5 x6) = 13 then (if 0 ≤ (wrap64 (x6 + 1)) then (if (wrap64 (x6 + 1)) < (x5.size : Int) then (if (bt x5 (wrap64 (x6 + 1))) = 10 then (if x6 ≤ (x5.size : Int) then (some (x5.extract 0 (x6 : Int).toNat, x279000, wrap64 ((wrap64 (x279001 + x6)) + 2), 0)) else (none)) else (some ((⟨#[]⟩ : ByteArray), (⟨#[]⟩ : ByteArray), 0, 2))) else (none)) else (none)) else (some ((⟨#[]⟩ : ByteArray), (⟨#[]⟩ : ByteArray), 0, 2))) else (none)) else (none))
def impl_TakeLine.f (k : Nat) (a0_0 : ByteArray) (a0_1 : Int) : Option (ByteArray × ByteArray × Int × Int) := (impl_CurOk.f a0_0 a0_1).bind fun t280 => (if t280 = true then (if 0 ≤ a0_1 then (if a0_1 ≤ (a0_0.size : Int) then ((strings_IndexAny.f (a0_0.extract (a0_1 : Int).toNat a0_0.size) (⟨#[13, 10]⟩ : ByteArray)).bind fun t281 => (if t281 < 0 then (impl_TakeLine.j0 k (a0_0.extract (a0_1 : Int).toNat a0_0.size) t281 true a0_0 a0_1) else (if 0 ≤ t281 then (if t281 < ((a0_0.extract (a0_1 : Int).toNat a0_0.size).size : Int) then (if (bt (a0_0.extract (a0_1 : Int).toNat a0_0.size) t281) = 13 then (impl_TakeLine.j0 k (a0_0.extract (a0_1 : Int).toNat a0_0.size) t281 (t281 == (wrap64 (((a0_0.extract (a0_1 : Int).toNat a0_0.size).size : Int) - 1))) a0_0 a0_1) else (impl_TakeLine.j0 k (a0_0.extract (a0_1 : Int).toNat a0_0.size) t281 false a0_0 a0_1)) else (none)) else (none)))) else (none)) else (none)) else (some ((⟨#[]⟩ : ByteArray), (⟨#[]⟩ : ByteArray), 0, 2)))
theorem impl_TakeLine.mono_l : ∀ k, (∀ y0 y1 y2 y3 y4, LeO (impl_TakeLine.j0 k y0 y1 y2 y3 y4) (impl_TakeLine.j0 (k + 1) y0 y1 y2 y3 y4))
 | 0 => fun _ _ _ _ _ r h => by simp [impl_TakeLine.j0] at h
 | k + 1 => by
  have ih0 := impl_TakeLine.mono_l k
  ·intro y0 y1 y2 y3 y4
   unfold impl_TakeLine.j0
   repeat' first
   | (with_reducible exact ih0 _ _ _ _ _)
   | (with_reducible exact LeO.refl _)
   | (with_reducible exact LeO.none _)
   | (with_reducible refine LeO.ite ?_ ?_)
   | (with_reducible refine LeO.bind ?_ (fun _ => ?_))
   | exact ih0 _ _ _ _ _
   | exact LeO.none _
   | refine LeO.ite ?_ ?_
   | refine LeO.bind ?_ (fun _ => ?_)
theorem impl_TakeLine.mono : ∀ a0 a1 k, LeO (impl_TakeLine.f k a0 a1) (impl_TakeLine.f (k + 1) a0 a1) := by
 intro a0 a1 k
 have ih0 := impl_TakeLine.mono_l k
 unfold impl_TakeLine.f
 repeat' first
   | (with_reducible exact ih0 _ _ _ _ _)
   | (with_reducible exact LeO.refl _)
   | (with_reducible exact LeO.none _)
   | (with_reducible refine LeO.ite ?_ ?_)
   | (with_reducible refine LeO.bind ?_ (fun _ => ?_))
   | exact ih0 _ _ _ _ _
   | exact LeO.none _
   | refine LeO.ite ?_ ?_
   | refine LeO.bind ?_ (fun _ => ?_)
def impl_TakeLine.T8 : Bool × List (List Nat × List Nat) := (true, [([], []), ([], []), ([0, 1], [0, 1]), ([], []), ([3], [3]), ([], []), ([5], [5]), ([], []), ([6, 7], [6, 7]), ([8], [8]), ([4, 9], [4, 9]), ([2, 0, 1, 2], [2]), ([10, 11, 0, 1, 2, 3, 4, 5, 6, 7, 8, 9, 10, 11], [10]), ([12, 0, 1, 2, 3, 4, 5, 6, 7, 8, 9, 10, 11, 12], [])])
def impl_TakeLine.B8 : List Nat := [0, 0, 3, 0, 8, 0, 32, 0, 224, 480, 1016, 7, 4095, 8191]
theorem impl_TakeLine.tab8 : rtab .any (opsOf Tryz.f19 8) = impl_TakeLine.T8 := by kernel_rfl
theorem impl_TakeLine.bits8 : waitsOk impl_TakeLine.T8.2 impl_TakeLine.B8 = true := by kernel_rfl
set_option maxHeartbeats 8000000 in
set_option maxRecDepth 100000 in
theorem impl_TakeLine.calls (k : Nat) (a0_0 : ByteArray) (a0_1 : Int) (r1 : ByteArray) (r2 : ByteArray) (r3 : Int) (r4 : Int) (w : World) (h : impl_TakeLine.f k a0_0 a0_1 = some (r1, r2, r3, r4)) :
  Calls Tryz.prog 19 #[.agg #[.string a0_0, .int .i64 a0_1]] w fun e w' => e = .returned (.tuple #[.string r1, .agg #[.string r2, .int .i64 r3], .int .i64 r4]) ∧ Below w.heap.size w w' := by
 have hu35 := Tryz.underlying35
 have HB := Aside0.mk (Below.refl w.heap.size w)
 have H : ((impl_CurOk.f a0_0 a0_1).bind fun t280 => (if t280 = true then (if 0 ≤ a0_1 then (if a0_1 ≤ (a0_0.size : Int) then ((strings_IndexAny.f (a0_0.extract (a0_1 : Int).toNat a0_0.size) (⟨#[13, 10]⟩ : ByteArray)).bind fun t281 => (if t281 < 0 then (impl_TakeLine.j0 k (a0_0.extract (a0_1 : Int).toNat a0_0.size) t281 true a0_0 a0_1) else (if 0 ≤ t281 then (if t281 < ((a0_0.extract (a0_1 : Int).toNat a0_0.size).size : Int) then (if (bt (a0_0.extract (a0_1 : Int).toNat a0_0.size) t281) = 13 then (impl_TakeLine.j0 k (a0_0.extract (a0_1 : Int).toNat a0_0.size) t281 (t281 == (wrap64 (((a0_0.extract (a0_1 : Int).toNat a0_0.size).size : Int) - 1))) a0_0 a0_1) else (impl_TakeLine.j0 k (a0_0.extract (a0_1 : Int).toNat a0_0.size) t281 false a0_0 a0_1)) else (none)) else (none)))) else (none)) else (none)) else (some ((⟨#[]⟩ : ByteArray), (⟨#[]⟩ : ByteArray), 0, 2)))) = some (r1, r2, r3, r4) := h
 clear h
 obtain ⟨zp0, hzp0⟩ : ∃ z_ : ByteArray, a0_0.extract (a0_1 : Int).toNat a0_0.size = z_ := ⟨_, rfl⟩
 rw [hzp0] at H
 replace H := Option.bind_eq_some_iff.mp H
 obtain ⟨t280, A20, H⟩ := H
 replace H : (if t280 = true then (if 0 ≤ a0_1 then (if a0_1 ≤ (a0_0.size : Int) then ((strings_IndexAny.f zp0 (⟨#[13, 10]⟩ : ByteArray)).bind fun t281 => (if t281 < 0 then (impl_TakeLine.j0 k zp0 t281 true a0_0 a0_1) else (if 0 ≤ t281 then (if t281 < (zp0.size : Int) then (if (bt zp0 t281) = 13 then (impl_TakeLine.j0 k zp0 t281 (t281 == (wrap64 ((zp0.size : Int) - 1))) a0_0 a0_1) else (impl_TakeLine.j0 k zp0 t281 false a0_0 a0_1)) else (none)) else (none)))) else (none)) else (none)) else (some ((⟨#[]⟩ : ByteArray), (⟨#[]⟩ : ByteArray), 0, 2))) = some (r1, r2, r3, r4) := H
 have A2 := Aside0.mk A20
 clear A20
 by_cases c3 : t280 = true
 ·subst c3
  have H1 : (if 0 ≤ a0_1 then (if a0_1 ≤ (a0_0.size : Int) then ((strings_IndexAny.f zp0 (⟨#[13, 10]⟩ : ByteArray)).bind fun t281 => (if t281 < 0 then (impl_TakeLine.j0 k zp0 t281 true a0_0 a0_1) else (if 0 ≤ t281 then (if t281 < (zp0.size : Int) then (if (bt zp0 t281) = 13 then (impl_TakeLine.j0 k zp0 t281 (t281 == (wrap64 ((zp0.size : Int) - 1))) a0_0 a0_1) else (impl_TakeLine.j0 k zp0 t281 false a0_0 a0_1)) else (none)) else (none)))) else (none)) else (none)) = some (r1, r2, r3, r4) := by rw [if_pos rfl] at H; exact H
  clear H
  have H := H1
  clear H1
  by_cases c4 : 0 ≤ a0_1
  ·rw [if_pos c4] at H
   have c4b0 := eq_true c4
   have c4b1 := decide_eq_true c4
   clear c4
   by_cases c5 : a0_1 ≤ (a0_0.size : Int)
   ·rw [if_pos c5] at H
    have c5b0 := eq_true c5
    have c5b1 := decide_eq_true c5
    clear c5
    replace H := Option.bind_eq_some_iff.mp H
    obtain ⟨t281, A60, H⟩ := H
    replace H : (if t281 < 0 then (impl_TakeLine.j0 k zp0 t281 true a0_0 a0_1) else (if 0 ≤ t281 then (if t281 < (zp0.size : Int) then (if (bt zp0 t281) = 13 then (impl_TakeLine.j0 k zp0 t281 (t281 == (wrap64 ((zp0.size : Int) - 1))) a0_0 a0_1) else (impl_TakeLine.j0 k zp0 t281 false a0_0 a0_1)) else (none)) else (none))) = some (r1, r2, r3, r4) := H
    have A6 := Aside0.mk A60
    clear A60
    have HC7 := Aside0.mk H
    clear H
    go_enter Tryz.func19, Tryz.ntmps19
    go_upto_region 5 with (first | ((with_reducible refine gate_dst (N := 1) rfl ?_); refine boxG #[.string a0_0, .int .i64 a0_1] 35 ?_; intro gb278 hg w8 hbox hb; have BK278 := Aside0.mk (hbox); have GW278 := geA hg; have GE278 := geA hg; replace HB := beA hb; clear hb hbox hg) | ((with_reducible refine gate_dst (N := 3) rfl ?_); refine boxG #[.string (⟨#[]⟩ : ByteArray), .int .i64 0] 35 ?_; intro gb279 hg w9 hbox hb; have BK279 := Aside0.mk (hbox); have GW279 := geA hg; have GE279 := geA hg; have NB278_279 := neA (g := gb278) hg; have NB279_278 := neB NB278_279; replace BK278 := blA (g := gb278) hb; replace HB := beA hb; clear hb hbox hg; have hnb10 := NB278_279.out; have hnc10 := NB279_278.out; have hcz11_0 := cz0 BK278; have hcz11_1 := cz1 BK278; have hfz11_0 := blk_frozen BK278.out 0; have hfz11_1 := blk_frozen BK278.out 1) | ((with_reducible refine gate_callee (f := 33) rfl ?_); refine goesL_ (some 8) rfl rfl Tryz.func33 (by kernel_rfl) rfl #[.agg #[.string a0_0, .int .i64 a0_1]] rfl gq1 ?_; (with_reducible refine (impl_CurOk.calls a0_0 a0_1 true _ A2.out).mono ?_); rintro e w12 ⟨rfl, hb⟩; refine ⟨_, rfl, ?_⟩; replace BK278 := blA (g := gb278) hb; replace BK279 := blA (g := gb279) hb; replace HB := beA hb; (try clear hb); (try clear hb2); (try clear hk); (try clear hi); have hcz13_0 := cz0 BK278; have hcz13_1 := cz1 BK278; have hfz13_0 := blk_frozen BK278.out 0; have hfz13_1 := blk_frozen BK278.out 1) | ((with_reducible refine gate_callee (f := 34) rfl ?_); refine goesL_ (some 17) rfl rfl Tryz.func34 (by kernel_rfl) rfl #[.string zp0, .string (⟨#[13, 10]⟩ : ByteArray)] rfl gq1 ?_; (with_reducible refine (strings_IndexAny.calls zp0 (⟨#[13, 10]⟩ : ByteArray) t281 _ A6.out).mono ?_); rintro e w14 ⟨rfl, hb⟩; refine ⟨_, rfl, ?_⟩; replace BK278 := blA (g := gb278) hb; replace BK279 := blA (g := gb279) hb; replace HB := beA hb; (try clear hb); (try clear hb2); (try clear hk); (try clear hi)))
    (try simp only [Act.put, List.setIfInBounds_toArray, List.set_cons_zero, List.set_cons_succ])
    go_cut [18] (fun v18 wc => ∃ (kq : Nat) (x18_6 : Bool), v18 = .bool x18_6 ∧ Aside0 (impl_TakeLine.j0 kq zp0 t281 x18_6 a0_0 a0_1 = some (r1, r2, r3, r4)) ∧ Aside0 (kq ≤ k) ∧ Aside0 (wc.heap[gb278]? = some (.cells #[.string a0_0, .int .i64 a0_1] 35 (0, 0))) ∧ Aside0 (wc.heap[gb279]? = some (.cells #[.string (⟨#[]⟩ : ByteArray), .int .i64 0] 35 (0, 0))) ∧ Aside0 (Below w.heap.size w wc))
    case first =>
     have H := HC7.out
     clear HC7
     by_cases c15 : t281 < 0
     ·rw [if_pos c15] at H
      have c15b0 := decide_eq_true c15
      clear c15
      (first | rw [c15b0] | (simp only [i64_w, i32_w]; rw [c15b0]) | skip)
      have H' := Aside0.mk H
      clear H
      go_wp2
      go_meet
      case rel => exact ⟨_, (true), gq4, H', ⟨gq20⟩, ⟨gBk⟩, ⟨gBk⟩, ⟨gBe⟩⟩
     ·rw [if_neg c15] at H
      have c15b0 := decide_eq_false c15
      clear c15
      (first | rw [c15b0] | (simp only [i64_w, i32_w]; rw [c15b0]) | skip)
      by_cases c16 : 0 ≤ t281
      ·rw [if_pos c16] at H
       have c16b0 := decide_eq_true c16
       clear c16
       by_cases c17 : t281 < (zp0.size : Int)
       ·rw [if_pos c17] at H
        have c17b0 := decide_eq_true c17
        clear c17
        by_cases c19 : (bt zp0 t281) = 13
        ·rw [if_pos c19] at H
         have c19b0 : ((bt zp0 t281) == 13) = true := beq_iff_eq.mpr c19
         have c19b1 : ((bt zp0 t281) != 13) = false := bne_eq_false_iff_eq.mpr c19
         clear c19
         have H' := Aside0.mk H
         clear H
         have p18 : 0 ≤ (t281 : Int) := of_decide_eq_true gq3
         have q18 : t281 < (zp0.size : Int) := of_decide_eq_true gq3
         have hx18 := bt_at zp0 t281
         replace p18 := eq_true p18
         replace q18 := eq_true q18
         go_wp2
         go_meet
         case rel => exact ⟨_, ((t281 == (wrap64 ((zp0.size : Int) - 1)))), gq4, H', ⟨gq20⟩, ⟨gBk⟩, ⟨gBk⟩, ⟨gBe⟩⟩
        ·rw [if_neg c19] at H
         have c19b0 : ((bt zp0 t281) == 13) = false := beq_eq_false_iff_ne.mpr c19
         have c19b1 : ((bt zp0 t281) != 13) = true := bne_iff_ne.mpr c19
         have H' := Aside0.mk H
         clear H
         have p18 : 0 ≤ (t281 : Int) := of_decide_eq_true gq3
         have q18 : t281 < (zp0.size : Int) := of_decide_eq_true gq3
         have hx18 := bt_at zp0 t281
         replace p18 := eq_true p18
         replace q18 := eq_true q18
         go_wp2
         go_meet
         case rel => exact ⟨_, (false), gq4, H', ⟨gq20⟩, ⟨gBk⟩, ⟨gBk⟩, ⟨gBe⟩⟩
       ·rw [if_neg c17] at H
        exact absurd H (by simp)
      ·rw [if_neg c16] at H
       exact absurd H (by simp)
    case rest =>
     clear HC7
     try clear c1
     try clear p1
     try clear q1
     try clear hx1
     try clear p2
     try clear c3
     try clear c4
     try clear c4b0
     try clear c4b1
     try clear c5
     try clear c5b0
     try clear c5b1
     try clear p6
     try clear c10
     try clear c15
     try clear c15b0
     try clear c16
     try clear c16b0
     try clear c17
     try clear c17b0
     try clear p18
     try clear q18
     try clear hx18
     try clear c19
     try clear c19b0
     try clear c19b1
     try clear hcz11_0
     try clear hcz11_1
     try clear hcz13_0
     try clear hcz13_1
     try clear hfz11_0
     try clear hfz11_1
     try clear hfz13_0
     try clear hfz13_1
     try clear p18
     try clear q18
     obtain ⟨kq, x18_6, rfl, HA, HJ6, BK278, BK279, HB⟩ := hcut
     cases kq with
     | zero => exact absurd HA.out (by simp [impl_TakeLine.j0])
     | succ kj6 =>
      have H := HA.out
      clear HA
      simp only [impl_TakeLine.j0] at H
      by_cases c20 : x18_6 = true
      ·subst c20
       have H1 : (some ((⟨#[]⟩ : ByteArray), (⟨#[]⟩ : ByteArray), 0, 1)) = some (r1, r2, r3, r4) := by rw [if_pos rfl] at H; exact H
       clear H
       have H := H1
       clear H1
       simp only [Option.some.injEq, Prod.mk.injEq] at H
       obtain ⟨rfl, rfl, rfl, rfl⟩ := H
       have hnb21 := NB279_278.out
       have hnc21 := NB278_279.out
       have hcz22_0 := cz0 BK279
       have hcz22_1 := cz1 BK279
       have hfz22_0 := blk_frozen BK279.out 0
       have hfz22_1 := blk_frozen BK279.out 1
       go_wp2
       refine bodyPost_ret (results_list (rs := [.tmp 2, .cell 3 35, .tmp 4]) rfl (by simp) (.tmp (.cell gb279 35 #[.string (⟨#[]⟩ : ByteArray), .int .i64 0] (0, 0) _ rfl gq12 Tryz.underlying35 rfl (by kernel_rfl) (.tmp .nil)))) rfl ?_
       exact ⟨gq2, gBe⟩
      ·replace c20 := Bool.eq_false_iff.mpr c20
       subst c20
       have H1 : (if 0 ≤ t281 then (if t281 < (zp0.size : Int) then (if (bt zp0 t281) = 13 then (if 0 ≤ (wrap64 (t281 + 1)) then (if (wrap64 (t281 + 1)) < (zp0.size : Int) then (if (bt zp0 (wrap64 (t281 + 1))) = 10 then (if t281 ≤ (zp0.size : Int) then (some (zp0.extract 0 (t281 : Int).toNat, a0_0, wrap64 ((wrap64 (a0_1 + t281)) + 2), 0)) else (none)) else (some ((⟨#[]⟩ : ByteArray), (⟨#[]⟩ : ByteArray), 0, 2))) else (none)) else (none)) else (some ((⟨#[]⟩ : ByteArray), (⟨#[]⟩ : ByteArray), 0, 2))) else (none)) else (none)) = some (r1, r2, r3, r4) := by rw [if_neg (show ¬ (false = true) by decide)] at H; exact H
       clear H
       have H := H1
       clear H1
       by_cases c23 : 0 ≤ t281
       ·rw [if_pos c23] at H
        have c23b0 := decide_eq_true c23
        clear c23
        by_cases c24 : t281 < (zp0.size : Int)
        ·rw [if_pos c24] at H
         have c24b0 := decide_eq_true c24
         clear c24
         by_cases c26 : (bt zp0 t281) = 13
         ·rw [if_pos c26] at H
          have c26b0 : ((bt zp0 t281) == 13) = true := beq_iff_eq.mpr c26
          have c26b1 : ((bt zp0 t281) != 13) = false := bne_eq_false_iff_eq.mpr c26
          clear c26
          obtain ⟨ji27, hji27⟩ : ∃ j_ : Int, (wrap64 (t281 + 1)) = j_ := ⟨_, rfl⟩
          replace H : (if 0 ≤ (ji27) then (if (ji27) < (zp0.size : Int) then (if (bt zp0 (ji27)) = 10 then (if t281 ≤ (zp0.size : Int) then (some (zp0.extract 0 (t281 : Int).toNat, a0_0, wrap64 ((wrap64 (a0_1 + t281)) + 2), 0)) else (none)) else (some ((⟨#[]⟩ : ByteArray), (⟨#[]⟩ : ByteArray), 0, 2))) else (none)) else (none)) = some (r1, r2, r3, r4) := by first | (rw [hji27] at H; exact H) | (simp only [hji27] at H ⊢; exact H)
          have hji27w : (IntKind.i64.wrap (t281 + 1)) = ji27 := (i64_w _).trans hji27
          by_cases c28 : 0 ≤ (ji27)
          ·rw [if_pos c28] at H
           have c28b0 := decide_eq_true c28
           clear c28
           by_cases c29 : (ji27) < (zp0.size : Int)
           ·rw [if_pos c29] at H
            have c29b0 := decide_eq_true c29
            clear c29
            by_cases c31 : (bt zp0 (ji27)) = 10
            ·rw [if_pos c31] at H
             have c31b0 : ((bt zp0 (ji27)) == 10) = true := beq_iff_eq.mpr c31
             have c31b1 : ((bt zp0 (ji27)) != 10) = false := bne_eq_false_iff_eq.mpr c31
             clear c31
             have c32b0 := eq_true (of_decide_eq_true gq3 : 0 ≤ t281)
             by_cases c33 : t281 ≤ (zp0.size : Int)
             ·rw [if_pos c33] at H
              have c33b0 := eq_true c33
              have c33b1 := decide_eq_true c33
              clear c33
              simp only [Option.some.injEq, Prod.mk.injEq] at H
              obtain ⟨rfl, rfl, rfl, rfl⟩ := H
              have p25 : 0 ≤ (t281 : Int) := of_decide_eq_true gq3
              have q25 : t281 < (zp0.size : Int) := of_decide_eq_true gq3
              have hx25 := bt_at zp0 t281
              replace p25 := eq_true p25
              replace q25 := eq_true q25
              have p30 : 0 ≤ ((ji27) : Int) := of_decide_eq_true gq3
              have q30 : (ji27) < (zp0.size : Int) := of_decide_eq_true gq3
              have hx30 := bt_at zp0 (ji27)
              replace p30 := eq_true p30
              replace q30 := eq_true q30
              try go_wp2
              replace BK278 := Aside0.mk (blk_drew BK278.out)
              replace BK279 := Aside0.mk (blk_drew BK279.out)
              replace HB := Aside0.mk (below_drew1 HB.out)
              refine start_ (n := 14) (S := fun w' => w'.cell? ⟨gb278, 0, none⟩ = some (.string a0_0) ∧ w'.cell? ⟨gb278, 1, none⟩ = some (.int .i64 a0_1)) (ds := []) #[false, false, false, false, false, false, false, false, false, false, false, false, false, false] (by kernel_rfl) rfl rfl ⟨(blk_cell BK278.out 0).trans rfl, (blk_cell BK278.out 1).trans rfl⟩ (fun hHeld => ?_); refine with_tabW impl_TakeLine.tab8 impl_TakeLine.bits8 (fun HT_ HW_ => ?_)
              generalize wc.drew = w34 at BK278 BK279 HB hHeld ⊢
              refine pureT 0 (some 47) ?_
              refine pureT 1 (some 48) ?_
              refine pureT 2 (some 49) ?_
              refine pureT 3 (some 50) ?_
              refine pureT 5 (some 52) ?_
              refine pureT 7 (some 54) ?_
              refine pureT 11 (some 2) ?_
              refine takeT_ 4 (some 51) (hy := Or.inl ⟨by rfl, gq15⟩) ?_
              refine takeT_ 6 (some 53) (hy := Or.inl ⟨by rfl, gq15⟩) ?_
              refine pureT 8 (some 55) ?_
              refine pureT 9 (some 56) ?_
              refine pureT 10 (some 57) ?_
              refine one_ (i := 12) (N := none) #[true, true, true, true, true, true, true, true, true, true, true, true, true, false] rfl rfl (one_of HT_.out (by kernel_rfl)) (by decide) (fun K hK => ?_)
              have hs35 := cz0 BK279
              have hfs35 := blk_frozen BK279.out 0
              have hns35_0 := NB278_279.out
              have hms35_0 := NB279_278.out
              have hs36 := cz1 BK279
              have hfs36 := blk_frozen BK279.out 1
              have hns36_0 := NB278_279.out
              have hms36_0 := NB279_278.out
              refine skip_ (w1 := ?_) (by rfl) rfl ?_ ?_
              rotate_left
              ·go_simp
               rfl
              refine hK.out _ _ ⟨((cell_far (p := ⟨gb279, _, none⟩) NB278_279.out _).trans (((cell_far (p := ⟨gb279, _, none⟩) NB278_279.out _).trans (hHeld.1)))), ((cell_far (p := ⟨gb279, _, none⟩) NB278_279.out _).trans (((cell_far (p := ⟨gb279, _, none⟩) NB278_279.out _).trans (hHeld.2))))⟩ (fun hHeld => ?_)
              clear hK K
              refine pureT 13 (some 4) ?_
              refine done_ (done_of HT_.out (by kernel_rfl)) ?_
              try go_wp2
              refine bodyPost_ret (results_list (rs := [.tmp 2, .cell 3 35, .tmp 4]) rfl (by simp) (.tmp (.cell gb279 35 #[.string a0_0, .int .i64 (wrap64 ((wrap64 (a0_1 + t281)) + 2))] (0, 0) _ rfl (by (with_reducible repeat (first | refine blk_drewN ?_ _ | refine blk_drew ?_ | refine blk_alloc ?_ _)); refine blk_put (cs := #[.string a0_0, .int .i64 0]) ?_ 1 _ rfl; (with_reducible repeat (first | refine blk_drewN ?_ _ | refine blk_drew ?_ | refine blk_alloc ?_ _)); refine blk_put (cs := #[.string (⟨#[]⟩ : ByteArray), .int .i64 0]) ?_ 0 _ rfl; (with_reducible repeat (first | refine blk_drewN ?_ _ | refine blk_drew ?_ | refine blk_alloc ?_ _)); exact BK279.out) Tryz.underlying35 rfl (by kernel_rfl) (.tmp .nil)))) rfl ?_
              exact ⟨by first | rfl | (simp [errW_none, errW_some] <;> rfl) | (simp only [← hji27]; first | rfl | (simp [errW_none, errW_some] <;> rfl)) | (simp [*, errW_none, errW_some] <;> rfl), gBe⟩
             ·rw [if_neg c33] at H
              exact absurd H (by simp)
            ·rw [if_neg c31] at H
             have c31b0 : ((bt zp0 (ji27)) == 10) = false := beq_eq_false_iff_ne.mpr c31
             have c31b1 : ((bt zp0 (ji27)) != 10) = true := bne_iff_ne.mpr c31
             simp only [Option.some.injEq, Prod.mk.injEq] at H
             obtain ⟨rfl, rfl, rfl, rfl⟩ := H
             have p25 : 0 ≤ (t281 : Int) := of_decide_eq_true gq3
             have q25 : t281 < (zp0.size : Int) := of_decide_eq_true gq3
             have hx25 := bt_at zp0 t281
             replace p25 := eq_true p25
             replace q25 := eq_true q25
             have p30 : 0 ≤ ((ji27) : Int) := of_decide_eq_true gq3
             have q30 : (ji27) < (zp0.size : Int) := of_decide_eq_true gq3
             have hx30 := bt_at zp0 (ji27)
             replace p30 := eq_true p30
             replace q30 := eq_true q30
             have hnb37 := NB279_278.out
             have hnc37 := NB278_279.out
             have hcz38_0 := cz0 BK279
             have hcz38_1 := cz1 BK279
             have hfz38_0 := blk_frozen BK279.out 0
             have hfz38_1 := blk_frozen BK279.out 1
             go_wp2
             refine bodyPost_ret (results_list (rs := [.tmp 2, .cell 3 35, .tmp 4]) rfl (by simp) (.tmp (.cell gb279 35 #[.string (⟨#[]⟩ : ByteArray), .int .i64 0] (0, 0) _ rfl gq12 Tryz.underlying35 rfl (by kernel_rfl) (.tmp .nil)))) rfl ?_
             exact ⟨by first | rfl | (simp [errW_none, errW_some] <;> rfl) | (simp only [← hji27]; first | rfl | (simp [errW_none, errW_some] <;> rfl)) | (simp [*, errW_none, errW_some] <;> rfl), gBe⟩
           ·rw [if_neg c29] at H
            exact absurd H (by simp)
          ·rw [if_neg c28] at H
           exact absurd H (by simp)
         ·rw [if_neg c26] at H
          have c26b0 : ((bt zp0 t281) == 13) = false := beq_eq_false_iff_ne.mpr c26
          have c26b1 : ((bt zp0 t281) != 13) = true := bne_iff_ne.mpr c26
          simp only [Option.some.injEq, Prod.mk.injEq] at H
          obtain ⟨rfl, rfl, rfl, rfl⟩ := H
          have p25 : 0 ≤ (t281 : Int) := of_decide_eq_true gq3
          have q25 : t281 < (zp0.size : Int) := of_decide_eq_true gq3
          have hx25 := bt_at zp0 t281
          replace p25 := eq_true p25
          replace q25 := eq_true q25
          have hnb39 := NB279_278.out
          have hnc39 := NB278_279.out
          have hcz40_0 := cz0 BK279
          have hcz40_1 := cz1 BK279
          have hfz40_0 := blk_frozen BK279.out 0
          have hfz40_1 := blk_frozen BK279.out 1
          go_wp2
          refine bodyPost_ret (results_list (rs := [.tmp 2, .cell 3 35, .tmp 4]) rfl (by simp) (.tmp (.cell gb279 35 #[.string (⟨#[]⟩ : ByteArray), .int .i64 0] (0, 0) _ rfl gq12 Tryz.underlying35 rfl (by kernel_rfl) (.tmp .nil)))) rfl ?_
          exact ⟨gq2, gBe⟩
        ·rw [if_neg c24] at H
         exact absurd H (by simp)
       ·rw [if_neg c23] at H
        exact absurd H (by simp)
   ·rw [if_neg c5] at H
    exact absurd H (by simp)
  ·rw [if_neg c4] at H
   exact absurd H (by simp)
 ·replace c3 := Bool.eq_false_iff.mpr c3
  subst c3
  have H1 : (some ((⟨#[]⟩ : ByteArray), (⟨#[]⟩ : ByteArray), 0, 2)) = some (r1, r2, r3, r4) := by rw [if_neg (show ¬ (false = true) by decide)] at H; exact H
  clear H
  have H := H1
  clear H1
  simp only [Option.some.injEq, Prod.mk.injEq] at H
  obtain ⟨rfl, rfl, rfl, rfl⟩ := H
  go_enter Tryz.func19, Tryz.ntmps19
  go_wp2_with (first | ((with_reducible refine gate_dst (N := 1) rfl ?_); refine boxG #[.string a0_0, .int .i64 a0_1] 35 ?_; intro gb278 hg w41 hbox hb; have BK278 := Aside0.mk (hbox); have GW278 := geA hg; have GE278 := geA hg; replace HB := beA hb; clear hb hbox hg) | ((with_reducible refine gate_dst (N := 3) rfl ?_); refine boxG #[.string (⟨#[]⟩ : ByteArray), .int .i64 0] 35 ?_; intro gb279 hg w42 hbox hb; have BK279 := Aside0.mk (hbox); have GW279 := geA hg; have GE279 := geA hg; have NB278_279 := neA (g := gb278) hg; have NB279_278 := neB NB278_279; replace BK278 := blA (g := gb278) hb; replace HB := beA hb; clear hb hbox hg; have hnb43 := NB278_279.out; have hnc43 := NB279_278.out; have hcz44_0 := cz0 BK278; have hcz44_1 := cz1 BK278; have hfz44_0 := blk_frozen BK278.out 0; have hfz44_1 := blk_frozen BK278.out 1) | ((with_reducible refine gate_callee (f := 33) rfl ?_); refine goesL_ (some 8) rfl rfl Tryz.func33 (by kernel_rfl) rfl #[.agg #[.string a0_0, .int .i64 a0_1]] rfl gq1 ?_; (with_reducible refine (impl_CurOk.calls a0_0 a0_1 false _ A2.out).mono ?_); rintro e w45 ⟨rfl, hb⟩; refine ⟨_, rfl, ?_⟩; replace BK278 := blA (g := gb278) hb; replace BK279 := blA (g := gb279) hb; replace HB := beA hb; (try clear hb); (try clear hb2); (try clear hk); (try clear hi); have hcz46_0 := cz0 BK279; have hcz46_1 := cz1 BK279; have hfz46_0 := blk_frozen BK279.out 0; have hfz46_1 := blk_frozen BK279.out 1))
  refine bodyPost_ret (results_list (rs := [.tmp 2, .cell 3 35, .tmp 4]) rfl (by simp) (.tmp (.cell gb279 35 #[.string (⟨#[]⟩ : ByteArray), .int .i64 0] (0, 0) _ rfl gq12 Tryz.underlying35 rfl (by kernel_rfl) (.tmp .nil)))) rfl ?_
  exact ⟨gq2, gBe⟩

end Go.Proofs.YtonmpnghlopnoaaGreatDoor.P
