-- Written by a program of ours (myprint.py, by way of the kit's print) out of Lean's print of the translation.
import Derived.Test.YtonmpnghlopnoaaGreatDoorPx0
import Derived.Test.YtonmpnghlopnoaaGreatDoorPxauxb
import Derived.Test.YtonmpnghlopnoaaGreatDoorWC
namespace Go.Proofs.YtonmpnghlopnoaaGreatDoor.P
open Go.RowKit Go.Proofs.YtonmpnghlopnoaaGreatDoorW.PrintWords Go.Proofs.YtonmpnghlopnoaaGreatDoorW.PrintLast Go.Proofs.YtonmpnghlopnoaaGreatDoorW.PrintMore
attribute [local go_sem] max2_int min2_int max_two min_two max_three min_three max_four min_four   -- for this text's walks alone
set_option linter.unusedVariables false
set_option linter.unusedSimpArgs false

def laws_eqMsg.f (k : Nat) (a0_0 : ByteArray) (a0_1 : ByteArray) (a0_2 : Int) (a0_3 : ByteArray) (a0_4 : Bool) (l0_5 : List (S41)) (a0_6 : ByteArray) (a1_0 : ByteArray) (a1_1 : ByteArray) (a1_2 : Int) (a1_3 : ByteArray) (a1_4 : Bool) (l1_5 : List (S41)) (a1_6 : ByteArray) : Option (Bool) := if a0_0.toList = a1_0.toList then (if a0_1.toList = a1_1.toList then (if a0_2 = a1_2 then (if a0_3.toList = a1_3.toList then (if (a0_4 != a1_4) = true then (some false) else ((laws_eqFieldS.f k l0_5 l1_5).bind fun t502 => (if t502 = true then (if a0_6.toList = a1_6.toList then (some true) else (some false)) else (some false)))) else (some false)) else (some false)) else (some false)) else (some false)
theorem laws_eqMsg.mono : ∀ a0 a1 a2 a3 a4 a5 a6 a7 a8 a9 a10 a11 a12 a13 k, LeO (laws_eqMsg.f k a0 a1 a2 a3 a4 a5 a6 a7 a8 a9 a10 a11 a12 a13) (laws_eqMsg.f (k + 1) a0 a1 a2 a3 a4 a5 a6 a7 a8 a9 a10 a11 a12 a13) := by
 intro a0 a1 a2 a3 a4 a5 a6 a7 a8 a9 a10 a11 a12 a13 k
 unfold laws_eqMsg.f
 repeat' first
   | (with_reducible exact laws_eqFieldS.mono _ _ _)
   | (with_reducible exact LeO.refl _)
   | (with_reducible exact LeO.none _)
   | (with_reducible refine LeO.ite ?_ ?_)
   | (with_reducible refine LeO.bind ?_ (fun _ => ?_))
   | exact laws_eqFieldS.mono _ _ _
   | exact LeO.none _
   | refine LeO.ite ?_ ?_
   | refine LeO.bind ?_ (fun _ => ?_)
set_option maxHeartbeats 8000000 in
set_option maxRecDepth 100000 in
theorem laws_eqMsg.calls (k : Nat) (a0_0 : ByteArray) (a0_1 : ByteArray) (a0_2 : Int) (a0_3 : ByteArray) (a0_4 : Bool) (A0_5 : Option Addr) (c0_5 : Nat) (l0_5 : List (S41)) (a0_6 : ByteArray) (a1_0 : ByteArray) (a1_1 : ByteArray) (a1_2 : Int) (a1_3 : ByteArray) (a1_4 : Bool) (A1_5 : Option Addr) (c1_5 : Nat) (l1_5 : List (S41)) (a1_6 : ByteArray) (r : Bool) (w : World) (hr0_5 : Kd.C k41 w A0_5 l0_5.length l0_5) (hc0_5 : l0_5.length ≤ c0_5) (hr1_5 : Kd.C k41 w A1_5 l1_5.length l1_5) (hc1_5 : l1_5.length ≤ c1_5) (h : laws_eqMsg.f k a0_0 a0_1 a0_2 a0_3 a0_4 l0_5 a0_6 a1_0 a1_1 a1_2 a1_3 a1_4 l1_5 a1_6 = some r) :
  Calls Tryz.prog 8 #[.agg #[.string a0_0, .string a0_1, .int .i64 a0_2, .string a0_3, .bool a0_4, .slice A0_5 l0_5.length c0_5, .string a0_6], .agg #[.string a1_0, .string a1_1, .int .i64 a1_2, .string a1_3, .bool a1_4, .slice A1_5 l1_5.length c1_5, .string a1_6]] w fun e w' => e = .returned (.bool r) ∧ Below w.heap.size w w' := by
 have hu24 := Tryz.underlying24
 have HR0_5 := Aside0.mk hr0_5
 have HC0_5 := Aside0.mk hc0_5
 clear hr0_5 hc0_5
 have HR1_5 := Aside0.mk hr1_5
 have HC1_5 := Aside0.mk hc1_5
 clear hr1_5 hc1_5
 have HB := Aside0.mk (Below.refl w.heap.size w)
 have H : (if a0_0.toList = a1_0.toList then (if a0_1.toList = a1_1.toList then (if a0_2 = a1_2 then (if a0_3.toList = a1_3.toList then (if (a0_4 != a1_4) = true then (some false) else ((laws_eqFieldS.f k l0_5 l1_5).bind fun t502 => (if t502 = true then (if a0_6.toList = a1_6.toList then (some true) else (some false)) else (some false)))) else (some false)) else (some false)) else (some false)) else (some false)) = some r := h
 clear h
 by_cases c3 : a0_0.toList = a1_0.toList
 ·rw [if_pos c3] at H
  have c3b0 : (a0_0.toList == a1_0.toList) = true := beq_iff_eq.mpr c3
  have c3b1 : (a0_0.toList != a1_0.toList) = false := bne_eq_false_iff_eq.mpr c3
  clear c3
  by_cases c4 : a0_1.toList = a1_1.toList
  ·rw [if_pos c4] at H
   have c4b0 : (a0_1.toList == a1_1.toList) = true := beq_iff_eq.mpr c4
   have c4b1 : (a0_1.toList != a1_1.toList) = false := bne_eq_false_iff_eq.mpr c4
   clear c4
   by_cases c5 : a0_2 = a1_2
   ·rw [if_pos c5] at H
    have c5b0 : (a0_2 == a1_2) = true := beq_iff_eq.mpr c5
    have c5b1 : (a0_2 != a1_2) = false := bne_eq_false_iff_eq.mpr c5
    clear c5
    by_cases c6 : a0_3.toList = a1_3.toList
    ·rw [if_pos c6] at H
     have c6b0 : (a0_3.toList == a1_3.toList) = true := beq_iff_eq.mpr c6
     have c6b1 : (a0_3.toList != a1_3.toList) = false := bne_eq_false_iff_eq.mpr c6
     clear c6
     by_cases c7 : (a0_4 != a1_4) = true
     ·rw [if_pos c7] at H
      have c7b0 : (a0_4 != a1_4) = true := c7
      (try (have c7b1 : decide (a0_4 = a1_4) = false := by simpa using c7))
      (try (have c7b2 : (a0_4 == a1_4) = false := by simpa using c7))
      (try (have c7b3 : ¬ (a0_4 = a1_4) := by simpa using c7))
      clear c7
      obtain rfl := Option.some.inj H
      go_enter Tryz.func8, Tryz.ntmps8
      go_wp2_with (first | ((with_reducible refine gate_dst (N := 2) rfl ?_); refine boxA #[.string a0_0, .string a0_1, .int .i64 a0_2, .string a0_3, .bool a0_4, .slice A0_5 l0_5.length c0_5, .string a0_6] 24 ?_; intro gb500 hg w8 hbox hb; have BK500 := Aside0.mk (hbox); have GW500 := geA hg; have GE500 := geA hg; replace HB := beA hb; clear hb hbox hg) | ((with_reducible refine gate_dst (N := 3) rfl ?_); refine boxA #[.string a1_0, .string a1_1, .int .i64 a1_2, .string a1_3, .bool a1_4, .slice A1_5 l1_5.length c1_5, .string a1_6] 24 ?_; intro gb501 hg w9 hbox hb; have BK501 := Aside0.mk (hbox); have GW501 := geA hg; have GE501 := geA hg; have NB500_501 := neA (g := gb500) hg; have NB501_500 := neB NB500_501; replace BK500 := blA (g := gb500) hb; replace HB := beA hb; clear hb hbox hg; have hnb10 := NB500_501.out; have hnc10 := NB501_500.out; have hcz11_0 := cz0 BK500; have hcz11_1 := cz1 BK500; have hcz11_2 := cz2 BK500; have hcz11_3 := cz3 BK500; have hcz11_4 := cz4 BK500; have hcz11_5 := cz5 BK500; have hcz11_6 := cz6 BK500; have hfz11_0 := blk_frozen BK500.out 0; have hfz11_1 := blk_frozen BK500.out 1; have hfz11_2 := blk_frozen BK500.out 2; have hfz11_3 := blk_frozen BK500.out 3; have hfz11_4 := blk_frozen BK500.out 4; have hfz11_5 := blk_frozen BK500.out 5; have hfz11_6 := blk_frozen BK500.out 6; have hcz12_0 := cz0 BK501; have hcz12_1 := cz1 BK501; have hcz12_2 := cz2 BK501; have hcz12_3 := cz3 BK501; have hcz12_4 := cz4 BK501; have hcz12_5 := cz5 BK501; have hcz12_6 := cz6 BK501; have hfz12_0 := blk_frozen BK501.out 0; have hfz12_1 := blk_frozen BK501.out 1; have hfz12_2 := blk_frozen BK501.out 2; have hfz12_3 := blk_frozen BK501.out 3; have hfz12_4 := blk_frozen BK501.out 4; have hfz12_5 := blk_frozen BK501.out 5; have hfz12_6 := blk_frozen BK501.out 6))
      go_ret
      exact ⟨gq2, gBe⟩
     ·rw [if_neg c7] at H
      have c7b0 : (a0_4 != a1_4) = false := by simpa using c7
      (try (have c7b1 : decide (a0_4 = a1_4) = true := by simpa using c7))
      (try (have c7b2 : (a0_4 == a1_4) = true := by simpa using c7))
      clear c7
      replace H := Option.bind_eq_some_iff.mp H
      obtain ⟨t502, A130, H⟩ := H
      replace H : (if t502 = true then (if a0_6.toList = a1_6.toList then (some true) else (some false)) else (some false)) = some r := H
      have A13 := Aside0.mk A130
      clear A130
      by_cases c14 : t502 = true
      ·subst c14
       have H1 : (if a0_6.toList = a1_6.toList then (some true) else (some false)) = some r := by rw [if_pos rfl] at H; exact H
       clear H
       have H := H1
       clear H1
       by_cases c15 : a0_6.toList = a1_6.toList
       ·rw [if_pos c15] at H
        have c15b0 : (a0_6.toList == a1_6.toList) = true := beq_iff_eq.mpr c15
        have c15b1 : (a0_6.toList != a1_6.toList) = false := bne_eq_false_iff_eq.mpr c15
        clear c15
        obtain rfl := Option.some.inj H
        go_enter Tryz.func8, Tryz.ntmps8
        go_wp2_with (first | ((with_reducible refine gate_dst (N := 2) rfl ?_); refine boxA #[.string a0_0, .string a0_1, .int .i64 a0_2, .string a0_3, .bool a0_4, .slice A0_5 l0_5.length c0_5, .string a0_6] 24 ?_; intro gb500 hg w16 hbox hb; have BK500 := Aside0.mk (hbox); have GW500 := geA hg; have GE500 := geA hg; replace HB := beA hb; clear hb hbox hg) | ((with_reducible refine gate_dst (N := 3) rfl ?_); refine boxA #[.string a1_0, .string a1_1, .int .i64 a1_2, .string a1_3, .bool a1_4, .slice A1_5 l1_5.length c1_5, .string a1_6] 24 ?_; intro gb501 hg w17 hbox hb; have BK501 := Aside0.mk (hbox); have GW501 := geA hg; have GE501 := geA hg; have NB500_501 := neA (g := gb500) hg; have NB501_500 := neB NB500_501; replace BK500 := blA (g := gb500) hb; replace HB := beA hb; clear hb hbox hg; have hnb18 := NB500_501.out; have hnc18 := NB501_500.out; have hcz19_0 := cz0 BK500; have hcz19_1 := cz1 BK500; have hcz19_2 := cz2 BK500; have hcz19_3 := cz3 BK500; have hcz19_4 := cz4 BK500; have hcz19_5 := cz5 BK500; have hcz19_6 := cz6 BK500; have hfz19_0 := blk_frozen BK500.out 0; have hfz19_1 := blk_frozen BK500.out 1; have hfz19_2 := blk_frozen BK500.out 2; have hfz19_3 := blk_frozen BK500.out 3; have hfz19_4 := blk_frozen BK500.out 4; have hfz19_5 := blk_frozen BK500.out 5; have hfz19_6 := blk_frozen BK500.out 6; have hcz20_0 := cz0 BK501; have hcz20_1 := cz1 BK501; have hcz20_2 := cz2 BK501; have hcz20_3 := cz3 BK501; have hcz20_4 := cz4 BK501; have hcz20_5 := cz5 BK501; have hcz20_6 := cz6 BK501; have hfz20_0 := blk_frozen BK501.out 0; have hfz20_1 := blk_frozen BK501.out 1; have hfz20_2 := blk_frozen BK501.out 2; have hfz20_3 := blk_frozen BK501.out 3; have hfz20_4 := blk_frozen BK501.out 4; have hfz20_5 := blk_frozen BK501.out 5; have hfz20_6 := blk_frozen BK501.out 6) | ((with_reducible refine gate_callee (f := 22) rfl ?_); refine goesL_ (some 34) rfl rfl Tryz.func22 (by kernel_rfl) rfl #[.slice A0_5 l0_5.length c0_5, .slice A1_5 l1_5.length c1_5] rfl gq1 ?_; (with_reducible refine (laws_eqFieldS.calls k _ _ l0_5 _ _ l1_5 true _ ?side1 ?side2 ?side3 ?side4 A13.out).mono ?_); (case side1 => repeat (first | exact (Kd.C_below HR0_5.out HB.out) | (with_reducible refine Kd.C_alloc ?_ _) | (with_reducible refine Kd.C_drewN ?_ _) | (with_reducible refine Kd.C_drew ?_))); (case side2 => exact HC0_5.out); (case side3 => repeat (first | exact (Kd.C_below HR1_5.out HB.out) | (with_reducible refine Kd.C_alloc ?_ _) | (with_reducible refine Kd.C_drewN ?_ _) | (with_reducible refine Kd.C_drew ?_))); (case side4 => exact HC1_5.out); rintro e w21 ⟨rfl, hb⟩; refine ⟨_, rfl, ?_⟩; replace BK500 := blA (g := gb500) hb; replace BK501 := blA (g := gb501) hb; replace HB := beA hb; (try clear hb); (try clear hb2); (try clear hk); (try clear hi); have hcz22_0 := cz0 BK500; have hcz22_1 := cz1 BK500; have hcz22_2 := cz2 BK500; have hcz22_3 := cz3 BK500; have hcz22_4 := cz4 BK500; have hcz22_5 := cz5 BK500; have hcz22_6 := cz6 BK500; have hfz22_0 := blk_frozen BK500.out 0; have hfz22_1 := blk_frozen BK500.out 1; have hfz22_2 := blk_frozen BK500.out 2; have hfz22_3 := blk_frozen BK500.out 3; have hfz22_4 := blk_frozen BK500.out 4; have hfz22_5 := blk_frozen BK500.out 5; have hfz22_6 := blk_frozen BK500.out 6; have hcz23_0 := cz0 BK501; have hcz23_1 := cz1 BK501; have hcz23_2 := cz2 BK501; have hcz23_3 := cz3 BK501; have hcz23_4 := cz4 BK501; have hcz23_5 := cz5 BK501; have hcz23_6 := cz6 BK501; have hfz23_0 := blk_frozen BK501.out 0; have hfz23_1 := blk_frozen BK501.out 1; have hfz23_2 := blk_frozen BK501.out 2; have hfz23_3 := blk_frozen BK501.out 3; have hfz23_4 := blk_frozen BK501.out 4; have hfz23_5 := blk_frozen BK501.out 5; have hfz23_6 := blk_frozen BK501.out 6))
        go_ret
        exact ⟨gq2, gBe⟩
       ·rw [if_neg c15] at H
        have c15b0 : (a0_6.toList == a1_6.toList) = false := beq_eq_false_iff_ne.mpr c15
        have c15b1 : (a0_6.toList != a1_6.toList) = true := bne_iff_ne.mpr c15
        obtain rfl := Option.some.inj H
        go_enter Tryz.func8, Tryz.ntmps8
        go_wp2_with (first | ((with_reducible refine gate_dst (N := 2) rfl ?_); refine boxA #[.string a0_0, .string a0_1, .int .i64 a0_2, .string a0_3, .bool a0_4, .slice A0_5 l0_5.length c0_5, .string a0_6] 24 ?_; intro gb500 hg w24 hbox hb; have BK500 := Aside0.mk (hbox); have GW500 := geA hg; have GE500 := geA hg; replace HB := beA hb; clear hb hbox hg) | ((with_reducible refine gate_dst (N := 3) rfl ?_); refine boxA #[.string a1_0, .string a1_1, .int .i64 a1_2, .string a1_3, .bool a1_4, .slice A1_5 l1_5.length c1_5, .string a1_6] 24 ?_; intro gb501 hg w25 hbox hb; have BK501 := Aside0.mk (hbox); have GW501 := geA hg; have GE501 := geA hg; have NB500_501 := neA (g := gb500) hg; have NB501_500 := neB NB500_501; replace BK500 := blA (g := gb500) hb; replace HB := beA hb; clear hb hbox hg; have hnb26 := NB500_501.out; have hnc26 := NB501_500.out; have hcz27_0 := cz0 BK500; have hcz27_1 := cz1 BK500; have hcz27_2 := cz2 BK500; have hcz27_3 := cz3 BK500; have hcz27_4 := cz4 BK500; have hcz27_5 := cz5 BK500; have hcz27_6 := cz6 BK500; have hfz27_0 := blk_frozen BK500.out 0; have hfz27_1 := blk_frozen BK500.out 1; have hfz27_2 := blk_frozen BK500.out 2; have hfz27_3 := blk_frozen BK500.out 3; have hfz27_4 := blk_frozen BK500.out 4; have hfz27_5 := blk_frozen BK500.out 5; have hfz27_6 := blk_frozen BK500.out 6; have hcz28_0 := cz0 BK501; have hcz28_1 := cz1 BK501; have hcz28_2 := cz2 BK501; have hcz28_3 := cz3 BK501; have hcz28_4 := cz4 BK501; have hcz28_5 := cz5 BK501; have hcz28_6 := cz6 BK501; have hfz28_0 := blk_frozen BK501.out 0; have hfz28_1 := blk_frozen BK501.out 1; have hfz28_2 := blk_frozen BK501.out 2; have hfz28_3 := blk_frozen BK501.out 3; have hfz28_4 := blk_frozen BK501.out 4; have hfz28_5 := blk_frozen BK501.out 5; have hfz28_6 := blk_frozen BK501.out 6) | ((with_reducible refine gate_callee (f := 22) rfl ?_); refine goesL_ (some 34) rfl rfl Tryz.func22 (by kernel_rfl) rfl #[.slice A0_5 l0_5.length c0_5, .slice A1_5 l1_5.length c1_5] rfl gq1 ?_; (with_reducible refine (laws_eqFieldS.calls k _ _ l0_5 _ _ l1_5 true _ ?side1 ?side2 ?side3 ?side4 A13.out).mono ?_); (case side1 => repeat (first | exact (Kd.C_below HR0_5.out HB.out) | (with_reducible refine Kd.C_alloc ?_ _) | (with_reducible refine Kd.C_drewN ?_ _) | (with_reducible refine Kd.C_drew ?_))); (case side2 => exact HC0_5.out); (case side3 => repeat (first | exact (Kd.C_below HR1_5.out HB.out) | (with_reducible refine Kd.C_alloc ?_ _) | (with_reducible refine Kd.C_drewN ?_ _) | (with_reducible refine Kd.C_drew ?_))); (case side4 => exact HC1_5.out); rintro e w29 ⟨rfl, hb⟩; refine ⟨_, rfl, ?_⟩; replace BK500 := blA (g := gb500) hb; replace BK501 := blA (g := gb501) hb; replace HB := beA hb; (try clear hb); (try clear hb2); (try clear hk); (try clear hi); have hcz30_0 := cz0 BK500; have hcz30_1 := cz1 BK500; have hcz30_2 := cz2 BK500; have hcz30_3 := cz3 BK500; have hcz30_4 := cz4 BK500; have hcz30_5 := cz5 BK500; have hcz30_6 := cz6 BK500; have hfz30_0 := blk_frozen BK500.out 0; have hfz30_1 := blk_frozen BK500.out 1; have hfz30_2 := blk_frozen BK500.out 2; have hfz30_3 := blk_frozen BK500.out 3; have hfz30_4 := blk_frozen BK500.out 4; have hfz30_5 := blk_frozen BK500.out 5; have hfz30_6 := blk_frozen BK500.out 6; have hcz31_0 := cz0 BK501; have hcz31_1 := cz1 BK501; have hcz31_2 := cz2 BK501; have hcz31_3 := cz3 BK501; have hcz31_4 := cz4 BK501; have hcz31_5 := cz5 BK501; have hcz31_6 := cz6 BK501; have hfz31_0 := blk_frozen BK501.out 0; have hfz31_1 := blk_frozen BK501.out 1; have hfz31_2 := blk_frozen BK501.out 2; have hfz31_3 := blk_frozen BK501.out 3; have hfz31_4 := blk_frozen BK501.out 4; have hfz31_5 := blk_frozen BK501.out 5; have hfz31_6 := blk_frozen BK501.out 6))
        go_ret
        exact ⟨gq2, gBe⟩
      ·replace c14 := Bool.eq_false_iff.mpr c14
       subst c14
       have H1 : (some false) = some r := by rw [if_neg (show ¬ (false = true) by decide)] at H; exact H
       clear H
       have H := H1
       clear H1
       obtain rfl := Option.some.inj H
       go_enter Tryz.func8, Tryz.ntmps8
       go_wp2_with (first | ((with_reducible refine gate_dst (N := 2) rfl ?_); refine boxA #[.string a0_0, .string a0_1, .int .i64 a0_2, .string a0_3, .bool a0_4, .slice A0_5 l0_5.length c0_5, .string a0_6] 24 ?_; intro gb500 hg w32 hbox hb; have BK500 := Aside0.mk (hbox); have GW500 := geA hg; have GE500 := geA hg; replace HB := beA hb; clear hb hbox hg) | ((with_reducible refine gate_dst (N := 3) rfl ?_); refine boxA #[.string a1_0, .string a1_1, .int .i64 a1_2, .string a1_3, .bool a1_4, .slice A1_5 l1_5.length c1_5, .string a1_6] 24 ?_; intro gb501 hg w33 hbox hb; have BK501 := Aside0.mk (hbox); have GW501 := geA hg; have GE501 := geA hg; have NB500_501 := neA (g := gb500) hg; have NB501_500 := neB NB500_501; replace BK500 := blA (g := gb500) hb; replace HB := beA hb; clear hb hbox hg; have hnb34 := NB500_501.out; have hnc34 := NB501_500.out; have hcz35_0 := cz0 BK500; have hcz35_1 := cz1 BK500; have hcz35_2 := cz2 BK500; have hcz35_3 := cz3 BK500; have hcz35_4 := cz4 BK500; have hcz35_5 := cz5 BK500; have hcz35_6 := cz6 BK500; have hfz35_0 := blk_frozen BK500.out 0; have hfz35_1 := blk_frozen BK500.out 1; have hfz35_2 := blk_frozen BK500.out 2; have hfz35_3 := blk_frozen BK500.out 3; have hfz35_4 := blk_frozen BK500.out 4; have hfz35_5 := blk_frozen BK500.out 5; have hfz35_6 := blk_frozen BK500.out 6; have hcz36_0 := cz0 BK501; have hcz36_1 := cz1 BK501; have hcz36_2 := cz2 BK501; have hcz36_3 := cz3 BK501; have hcz36_4 := cz4 BK501; have hcz36_5 := cz5 BK501; have hcz36_6 := cz6 BK501; have hfz36_0 := blk_frozen BK501.out 0; have hfz36_1 := blk_frozen BK501.out 1; have hfz36_2 := blk_frozen BK501.out 2; have hfz36_3 := blk_frozen BK501.out 3; have hfz36_4 := blk_frozen BK501.out 4; have hfz36_5 := blk_frozen BK501.out 5; have hfz36_6 := blk_frozen BK501.out 6) | ((with_reducible refine gate_callee (f := 22) rfl ?_); refine goesL_ (some 34) rfl rfl Tryz.func22 (by kernel_rfl) rfl #[.slice A0_5 l0_5.length c0_5, .slice A1_5 l1_5.length c1_5] rfl gq1 ?_; (with_reducible refine (laws_eqFieldS.calls k _ _ l0_5 _ _ l1_5 false _ ?side1 ?side2 ?side3 ?side4 A13.out).mono ?_); (case side1 => repeat (first | exact (Kd.C_below HR0_5.out HB.out) | (with_reducible refine Kd.C_alloc ?_ _) | (with_reducible refine Kd.C_drewN ?_ _) | (with_reducible refine Kd.C_drew ?_))); (case side2 => exact HC0_5.out); (case side3 => repeat (first | exact (Kd.C_below HR1_5.out HB.out) | (with_reducible refine Kd.C_alloc ?_ _) | (with_reducible refine Kd.C_drewN ?_ _) | (with_reducible refine Kd.C_drew ?_))); (case side4 => exact HC1_5.out); rintro e w37 ⟨rfl, hb⟩; refine ⟨_, rfl, ?_⟩; replace BK500 := blA (g := gb500) hb; replace BK501 := blA (g := gb501) hb; replace HB := beA hb; (try clear hb); (try clear hb2); (try clear hk); (try clear hi)))
       go_ret
       exact ⟨gq2, gBe⟩
    ·rw [if_neg c6] at H
     have c6b0 : (a0_3.toList == a1_3.toList) = false := beq_eq_false_iff_ne.mpr c6
     have c6b1 : (a0_3.toList != a1_3.toList) = true := bne_iff_ne.mpr c6
     obtain rfl := Option.some.inj H
     go_enter Tryz.func8, Tryz.ntmps8
     go_wp2_with (first | ((with_reducible refine gate_dst (N := 2) rfl ?_); refine boxA #[.string a0_0, .string a0_1, .int .i64 a0_2, .string a0_3, .bool a0_4, .slice A0_5 l0_5.length c0_5, .string a0_6] 24 ?_; intro gb500 hg w38 hbox hb; have BK500 := Aside0.mk (hbox); have GW500 := geA hg; have GE500 := geA hg; replace HB := beA hb; clear hb hbox hg) | ((with_reducible refine gate_dst (N := 3) rfl ?_); refine boxA #[.string a1_0, .string a1_1, .int .i64 a1_2, .string a1_3, .bool a1_4, .slice A1_5 l1_5.length c1_5, .string a1_6] 24 ?_; intro gb501 hg w39 hbox hb; have BK501 := Aside0.mk (hbox); have GW501 := geA hg; have GE501 := geA hg; have NB500_501 := neA (g := gb500) hg; have NB501_500 := neB NB500_501; replace BK500 := blA (g := gb500) hb; replace HB := beA hb; clear hb hbox hg; have hnb40 := NB500_501.out; have hnc40 := NB501_500.out; have hcz41_0 := cz0 BK500; have hcz41_1 := cz1 BK500; have hcz41_2 := cz2 BK500; have hcz41_3 := cz3 BK500; have hcz41_4 := cz4 BK500; have hcz41_5 := cz5 BK500; have hcz41_6 := cz6 BK500; have hfz41_0 := blk_frozen BK500.out 0; have hfz41_1 := blk_frozen BK500.out 1; have hfz41_2 := blk_frozen BK500.out 2; have hfz41_3 := blk_frozen BK500.out 3; have hfz41_4 := blk_frozen BK500.out 4; have hfz41_5 := blk_frozen BK500.out 5; have hfz41_6 := blk_frozen BK500.out 6; have hcz42_0 := cz0 BK501; have hcz42_1 := cz1 BK501; have hcz42_2 := cz2 BK501; have hcz42_3 := cz3 BK501; have hcz42_4 := cz4 BK501; have hcz42_5 := cz5 BK501; have hcz42_6 := cz6 BK501; have hfz42_0 := blk_frozen BK501.out 0; have hfz42_1 := blk_frozen BK501.out 1; have hfz42_2 := blk_frozen BK501.out 2; have hfz42_3 := blk_frozen BK501.out 3; have hfz42_4 := blk_frozen BK501.out 4; have hfz42_5 := blk_frozen BK501.out 5; have hfz42_6 := blk_frozen BK501.out 6))
     go_ret
     exact ⟨gq2, gBe⟩
   ·rw [if_neg c5] at H
    have c5b0 : (a0_2 == a1_2) = false := beq_eq_false_iff_ne.mpr c5
    have c5b1 : (a0_2 != a1_2) = true := bne_iff_ne.mpr c5
    obtain rfl := Option.some.inj H
    go_enter Tryz.func8, Tryz.ntmps8
    go_wp2_with (first | ((with_reducible refine gate_dst (N := 2) rfl ?_); refine boxA #[.string a0_0, .string a0_1, .int .i64 a0_2, .string a0_3, .bool a0_4, .slice A0_5 l0_5.length c0_5, .string a0_6] 24 ?_; intro gb500 hg w43 hbox hb; have BK500 := Aside0.mk (hbox); have GW500 := geA hg; have GE500 := geA hg; replace HB := beA hb; clear hb hbox hg) | ((with_reducible refine gate_dst (N := 3) rfl ?_); refine boxA #[.string a1_0, .string a1_1, .int .i64 a1_2, .string a1_3, .bool a1_4, .slice A1_5 l1_5.length c1_5, .string a1_6] 24 ?_; intro gb501 hg w44 hbox hb; have BK501 := Aside0.mk (hbox); have GW501 := geA hg; have GE501 := geA hg; have NB500_501 := neA (g := gb500) hg; have NB501_500 := neB NB500_501; replace BK500 := blA (g := gb500) hb; replace HB := beA hb; clear hb hbox hg; have hnb45 := NB500_501.out; have hnc45 := NB501_500.out; have hcz46_0 := cz0 BK500; have hcz46_1 := cz1 BK500; have hcz46_2 := cz2 BK500; have hcz46_3 := cz3 BK500; have hcz46_4 := cz4 BK500; have hcz46_5 := cz5 BK500; have hcz46_6 := cz6 BK500; have hfz46_0 := blk_frozen BK500.out 0; have hfz46_1 := blk_frozen BK500.out 1; have hfz46_2 := blk_frozen BK500.out 2; have hfz46_3 := blk_frozen BK500.out 3; have hfz46_4 := blk_frozen BK500.out 4; have hfz46_5 := blk_frozen BK500.out 5; have hfz46_6 := blk_frozen BK500.out 6; have hcz47_0 := cz0 BK501; have hcz47_1 := cz1 BK501; have hcz47_2 := cz2 BK501; have hcz47_3 := cz3 BK501; have hcz47_4 := cz4 BK501; have hcz47_5 := cz5 BK501; have hcz47_6 := cz6 BK501; have hfz47_0 := blk_frozen BK501.out 0; have hfz47_1 := blk_frozen BK501.out 1; have hfz47_2 := blk_frozen BK501.out 2; have hfz47_3 := blk_frozen BK501.out 3; have hfz47_4 := blk_frozen BK501.out 4; have hfz47_5 := blk_frozen BK501.out 5; have hfz47_6 := blk_frozen BK501.out 6))
    go_ret
    exact ⟨gq2, gBe⟩
  ·rw [if_neg c4] at H
   have c4b0 : (a0_1.toList == a1_1.toList) = false := beq_eq_false_iff_ne.mpr c4
   have c4b1 : (a0_1.toList != a1_1.toList) = true := bne_iff_ne.mpr c4
   obtain rfl := Option.some.inj H
   go_enter Tryz.func8, Tryz.ntmps8
   go_wp2_with (first | ((with_reducible refine gate_dst (N := 2) rfl ?_); refine boxA #[.string a0_0, .string a0_1, .int .i64 a0_2, .string a0_3, .bool a0_4, .slice A0_5 l0_5.length c0_5, .string a0_6] 24 ?_; intro gb500 hg w48 hbox hb; have BK500 := Aside0.mk (hbox); have GW500 := geA hg; have GE500 := geA hg; replace HB := beA hb; clear hb hbox hg) | ((with_reducible refine gate_dst (N := 3) rfl ?_); refine boxA #[.string a1_0, .string a1_1, .int .i64 a1_2, .string a1_3, .bool a1_4, .slice A1_5 l1_5.length c1_5, .string a1_6] 24 ?_; intro gb501 hg w49 hbox hb; have BK501 := Aside0.mk (hbox); have GW501 := geA hg; have GE501 := geA hg; have NB500_501 := neA (g := gb500) hg; have NB501_500 := neB NB500_501; replace BK500 := blA (g := gb500) hb; replace HB := beA hb; clear hb hbox hg; have hnb50 := NB500_501.out; have hnc50 := NB501_500.out; have hcz51_0 := cz0 BK500; have hcz51_1 := cz1 BK500; have hcz51_2 := cz2 BK500; have hcz51_3 := cz3 BK500; have hcz51_4 := cz4 BK500; have hcz51_5 := cz5 BK500; have hcz51_6 := cz6 BK500; have hfz51_0 := blk_frozen BK500.out 0; have hfz51_1 := blk_frozen BK500.out 1; have hfz51_2 := blk_frozen BK500.out 2; have hfz51_3 := blk_frozen BK500.out 3; have hfz51_4 := blk_frozen BK500.out 4; have hfz51_5 := blk_frozen BK500.out 5; have hfz51_6 := blk_frozen BK500.out 6; have hcz52_0 := cz0 BK501; have hcz52_1 := cz1 BK501; have hcz52_2 := cz2 BK501; have hcz52_3 := cz3 BK501; have hcz52_4 := cz4 BK501; have hcz52_5 := cz5 BK501; have hcz52_6 := cz6 BK501; have hfz52_0 := blk_frozen BK501.out 0; have hfz52_1 := blk_frozen BK501.out 1; have hfz52_2 := blk_frozen BK501.out 2; have hfz52_3 := blk_frozen BK501.out 3; have hfz52_4 := blk_frozen BK501.out 4; have hfz52_5 := blk_frozen BK501.out 5; have hfz52_6 := blk_frozen BK501.out 6))
   go_ret
   exact ⟨gq2, gBe⟩
 ·rw [if_neg c3] at H
  have c3b0 : (a0_0.toList == a1_0.toList) = false := beq_eq_false_iff_ne.mpr c3
  have c3b1 : (a0_0.toList != a1_0.toList) = true := bne_iff_ne.mpr c3
  obtain rfl := Option.some.inj H
  go_enter Tryz.func8, Tryz.ntmps8
  go_wp2_with (first | ((with_reducible refine gate_dst (N := 2) rfl ?_); refine boxA #[.string a0_0, .string a0_1, .int .i64 a0_2, .string a0_3, .bool a0_4, .slice A0_5 l0_5.length c0_5, .string a0_6] 24 ?_; intro gb500 hg w53 hbox hb; have BK500 := Aside0.mk (hbox); have GW500 := geA hg; have GE500 := geA hg; replace HB := beA hb; clear hb hbox hg) | ((with_reducible refine gate_dst (N := 3) rfl ?_); refine boxA #[.string a1_0, .string a1_1, .int .i64 a1_2, .string a1_3, .bool a1_4, .slice A1_5 l1_5.length c1_5, .string a1_6] 24 ?_; intro gb501 hg w54 hbox hb; have BK501 := Aside0.mk (hbox); have GW501 := geA hg; have GE501 := geA hg; have NB500_501 := neA (g := gb500) hg; have NB501_500 := neB NB500_501; replace BK500 := blA (g := gb500) hb; replace HB := beA hb; clear hb hbox hg; have hnb55 := NB500_501.out; have hnc55 := NB501_500.out; have hcz56_0 := cz0 BK500; have hcz56_1 := cz1 BK500; have hcz56_2 := cz2 BK500; have hcz56_3 := cz3 BK500; have hcz56_4 := cz4 BK500; have hcz56_5 := cz5 BK500; have hcz56_6 := cz6 BK500; have hfz56_0 := blk_frozen BK500.out 0; have hfz56_1 := blk_frozen BK500.out 1; have hfz56_2 := blk_frozen BK500.out 2; have hfz56_3 := blk_frozen BK500.out 3; have hfz56_4 := blk_frozen BK500.out 4; have hfz56_5 := blk_frozen BK500.out 5; have hfz56_6 := blk_frozen BK500.out 6; have hcz57_0 := cz0 BK501; have hcz57_1 := cz1 BK501; have hcz57_2 := cz2 BK501; have hcz57_3 := cz3 BK501; have hcz57_4 := cz4 BK501; have hcz57_5 := cz5 BK501; have hcz57_6 := cz6 BK501; have hfz57_0 := blk_frozen BK501.out 0; have hfz57_1 := blk_frozen BK501.out 1; have hfz57_2 := blk_frozen BK501.out 2; have hfz57_3 := blk_frozen BK501.out 3; have hfz57_4 := blk_frozen BK501.out 4; have hfz57_5 := blk_frozen BK501.out 5; have hfz57_6 := blk_frozen BK501.out 6))
  go_ret
  exact ⟨gq2, gBe⟩

end Go.Proofs.YtonmpnghlopnoaaGreatDoor.P
