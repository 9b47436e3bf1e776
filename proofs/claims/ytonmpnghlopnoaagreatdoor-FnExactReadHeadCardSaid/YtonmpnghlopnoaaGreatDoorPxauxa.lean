-- Written by a program of ours (myprint.py, by way of the kit's print) out of Lean's print of the translation.
import Derived.Test.YtonmpnghlopnoaaGreatDoorPx0
import Derived.Test.YtonmpnghlopnoaaGreatDoorWC
namespace Go.Proofs.YtonmpnghlopnoaaGreatDoor.P
open Go.RowKit Go.Proofs.YtonmpnghlopnoaaGreatDoorW.PrintWords Go.Proofs.YtonmpnghlopnoaaGreatDoorW.PrintLast Go.Proofs.YtonmpnghlopnoaaGreatDoorW.PrintMore
attribute [local go_sem] max2_int min2_int max_two min_two max_three min_three max_four min_four   -- for this text's walks alone
set_option linter.unusedVariables false
set_option linter.unusedSimpArgs false

def laws_eqField.f (a0_0 : ByteArray) (a0_1 : ByteArray) (a1_0 : ByteArray) (a1_1 : ByteArray) : Option (Bool) := if a0_0.toList = a1_0.toList then (if a0_1.toList = a1_1.toList then (some true) else (some false)) else (some false)
set_option maxHeartbeats 8000000 in
set_option maxRecDepth 100000 in
theorem laws_eqField.calls (a0_0 : ByteArray) (a0_1 : ByteArray) (a1_0 : ByteArray) (a1_1 : ByteArray) (r : Bool) (w : World) (h : laws_eqField.f a0_0 a0_1 a1_0 a1_1 = some r) :
  Calls Tryz.prog 47 #[.agg #[.string a0_0, .string a0_1], .agg #[.string a1_0, .string a1_1]] w fun e w' => e = .returned (.bool r) ∧ Below w.heap.size w w' := by
 have hu41 := Tryz.underlying41
 have HB := Aside0.mk (Below.refl w.heap.size w)
 have H : (if a0_0.toList = a1_0.toList then (if a0_1.toList = a1_1.toList then (some true) else (some false)) else (some false)) = some r := h
 clear h
 by_cases c3 : a0_0.toList = a1_0.toList
 ·rw [if_pos c3] at H
  have c3b0 : (a0_0.toList == a1_0.toList) = true := beq_iff_eq.mpr c3
  have c3b1 : (a0_0.toList != a1_0.toList) = false := bne_eq_false_iff_eq.mpr c3
  clear c3
  by_cases c4 : a0_1.toList = a1_1.toList
  ·rw [if_pos c4] at H
   have c4b0 : (a0_1.toList == a1_1.toList) = true := beq_iff_eq.mpr c4
   have c4b1 : (a0_1.toList != a1_1.toList) = false := bne_eq_false_iff_eq.mpr c4
   clear c4
   obtain rfl := Option.some.inj H
   go_enter Tryz.func47, Tryz.ntmps47
   go_wp2_with (first | ((with_reducible refine gate_dst (N := 2) rfl ?_); refine boxA #[.string a0_0, .string a0_1] 41 ?_; intro gb495 hg w5 hbox hb; have BK495 := Aside0.mk (hbox); have GW495 := geA hg; have GE495 := geA hg; replace HB := beA hb; clear hb hbox hg) | ((with_reducible refine gate_dst (N := 3) rfl ?_); refine boxA #[.string a1_0, .string a1_1] 41 ?_; intro gb496 hg w6 hbox hb; have BK496 := Aside0.mk (hbox); have GW496 := geA hg; have GE496 := geA hg; have NB495_496 := neA (g := gb495) hg; have NB496_495 := neB NB495_496; replace BK495 := blA (g := gb495) hb; replace HB := beA hb; clear hb hbox hg; have hnb7 := NB495_496.out; have hnc7 := NB496_495.out; have hcz8_0 := cz0 BK495; have hcz8_1 := cz1 BK495; have hfz8_0 := blk_frozen BK495.out 0; have hfz8_1 := blk_frozen BK495.out 1; have hcz9_0 := cz0 BK496; have hcz9_1 := cz1 BK496; have hfz9_0 := blk_frozen BK496.out 0; have hfz9_1 := blk_frozen BK496.out 1))
   go_ret
   exact ⟨gq2, gBe⟩
  ·rw [if_neg c4] at H
   have c4b0 : (a0_1.toList == a1_1.toList) = false := beq_eq_false_iff_ne.mpr c4
   have c4b1 : (a0_1.toList != a1_1.toList) = true := bne_iff_ne.mpr c4
   obtain rfl := Option.some.inj H
   go_enter Tryz.func47, Tryz.ntmps47
   go_wp2_with (first | ((with_reducible refine gate_dst (N := 2) rfl ?_); refine boxA #[.string a0_0, .string a0_1] 41 ?_; intro gb495 hg w10 hbox hb; have BK495 := Aside0.mk (hbox); have GW495 := geA hg; have GE495 := geA hg; replace HB := beA hb; clear hb hbox hg) | ((with_reducible refine gate_dst (N := 3) rfl ?_); refine boxA #[.string a1_0, .string a1_1] 41 ?_; intro gb496 hg w11 hbox hb; have BK496 := Aside0.mk (hbox); have GW496 := geA hg; have GE496 := geA hg; have NB495_496 := neA (g := gb495) hg; have NB496_495 := neB NB495_496; replace BK495 := blA (g := gb495) hb; replace HB := beA hb; clear hb hbox hg; have hnb12 := NB495_496.out; have hnc12 := NB496_495.out; have hcz13_0 := cz0 BK495; have hcz13_1 := cz1 BK495; have hfz13_0 := blk_frozen BK495.out 0; have hfz13_1 := blk_frozen BK495.out 1; have hcz14_0 := cz0 BK496; have hcz14_1 := cz1 BK496; have hfz14_0 := blk_frozen BK496.out 0; have hfz14_1 := blk_frozen BK496.out 1))
   go_ret
   exact ⟨gq2, gBe⟩
 ·rw [if_neg c3] at H
  have c3b0 : (a0_0.toList == a1_0.toList) = false := beq_eq_false_iff_ne.mpr c3
  have c3b1 : (a0_0.toList != a1_0.toList) = true := bne_iff_ne.mpr c3
  obtain rfl := Option.some.inj H
  go_enter Tryz.func47, Tryz.ntmps47
  go_wp2_with (first | ((with_reducible refine gate_dst (N := 2) rfl ?_); refine boxA #[.string a0_0, .string a0_1] 41 ?_; intro gb495 hg w15 hbox hb; have BK495 := Aside0.mk (hbox); have GW495 := geA hg; have GE495 := geA hg; replace HB := beA hb; clear hb hbox hg) | ((with_reducible refine gate_dst (N := 3) rfl ?_); refine boxA #[.string a1_0, .string a1_1] 41 ?_; intro gb496 hg w16 hbox hb; have BK496 := Aside0.mk (hbox); have GW496 := geA hg; have GE496 := geA hg; have NB495_496 := neA (g := gb495) hg; have NB496_495 := neB NB495_496; replace BK495 := blA (g := gb495) hb; replace HB := beA hb; clear hb hbox hg; have hnb17 := NB495_496.out; have hnc17 := NB496_495.out; have hcz18_0 := cz0 BK495; have hcz18_1 := cz1 BK495; have hfz18_0 := blk_frozen BK495.out 0; have hfz18_1 := blk_frozen BK495.out 1; have hcz19_0 := cz0 BK496; have hcz19_1 := cz1 BK496; have hfz19_0 := blk_frozen BK496.out 0; have hfz19_1 := blk_frozen BK496.out 1))
  go_ret
  exact ⟨gq2, gBe⟩

end Go.Proofs.YtonmpnghlopnoaaGreatDoor.P
