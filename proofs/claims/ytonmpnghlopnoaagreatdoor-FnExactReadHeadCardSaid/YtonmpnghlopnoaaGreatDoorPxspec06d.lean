-- Written by a program of ours (myprint.py, by way of the kit's print) out of Lean's print of the translation.
import Derived.Test.YtonmpnghlopnoaaGreatDoorPx0
import Derived.Test.YtonmpnghlopnoaaGreatDoorPxspec01b
import Derived.Test.YtonmpnghlopnoaaGreatDoorPxspec05b
import Derived.Test.YtonmpnghlopnoaaGreatDoorPxspec06a
import Derived.Test.YtonmpnghlopnoaaGreatDoorPxspec06c
import Derived.Test.YtonmpnghlopnoaaGreatDoorWC
namespace Go.Proofs.YtonmpnghlopnoaaGreatDoor.P
open Go.RowKit Go.Proofs.YtonmpnghlopnoaaGreatDoorW.PrintWords Go.Proofs.YtonmpnghlopnoaaGreatDoorW.PrintLast Go.Proofs.YtonmpnghlopnoaaGreatDoorW.PrintMore
attribute [local go_sem] max2_int min2_int max_two min_two max_three min_three max_four min_four   -- for this text's walks alone
set_option linter.unusedVariables false
set_option linter.unusedSimpArgs false

mutual
def spec_ReadHead.l0 : Nat → Bool → Bool → ByteArray → ByteArray → Int → ByteArray → Bool → List (S41) → ByteArray → ByteArray → Int → Option (ByteArray × ByteArray × Int × ByteArray × Bool × (List (S41)) × ByteArray × Int × Int)
 | 0, _, _, _, _, _, _, _, _, _, _, _ => none
 | k + 1, x1, x9, x222000, x222001, x222002, x222003, x222004, x222005, x222006, x223000, x223001 => (spec_TakeLine.f k x223000 x223001).bind fun bt223 => (if bt223.2.2.2 = 0 then (if (bt223.1.size : Int) > 300 then (spec_ReadHead.j1 k x1 x9 bt223.1 true x222000 x222001 x222002 x222003 x222004 x222005 x222006 bt223.2.1 bt223.2.2.1) else (spec_ReadHead.j1 k x1 x9 bt223.1 (decide (bt223.2.2.1 > 1500)) x222000 x222001 x222002 x222003 x222004 x222005 x222006 bt223.2.1 bt223.2.2.1)) else (some ((⟨#[]⟩ : ByteArray), (⟨#[]⟩ : ByteArray), 0, (⟨#[]⟩ : ByteArray), false, ([] : List (S41)), (⟨#[]⟩ : ByteArray), 0, 400)))
def spec_ReadHead.j1 : Nat → Bool → Bool → ByteArray → Bool → ByteArray → ByteArray → Int → ByteArray → Bool → List (S41) → ByteArray → ByteArray → Int → Option (ByteArray × ByteArray × Int × ByteArray × Bool × (List (S41)) × ByteArray × Int × Int)
 | 0, _, _, _, _, _, _, _, _, _, _, _, _, _ => none
 | k + 1, x1, x9, x10, x39, x222000, x222001, x222002, x222003, x222004, x222005, x222006, x223000, x223001 => if x39 = true then (some ((⟨#[]⟩ : ByteArray), (⟨#[]⟩ : ByteArray), 0, (⟨#[]⟩ : ByteArray), false, ([] : List (S41)), (⟨#[]⟩ : ByteArray), 0, 431)) else (if x9 = true then (if x1 = true then ((spec_l6status.f k x10).bind fun bt228 => (if bt228.2.2.2.2.2.2.2 = true then (spec_ReadHead.l0 k x1 false bt228.1 bt228.2.1 bt228.2.2.1 bt228.2.2.2.1 bt228.2.2.2.2.1 bt228.2.2.2.2.2.1 bt228.2.2.2.2.2.2.1 x223000 x223001) else (some ((⟨#[]⟩ : ByteArray), (⟨#[]⟩ : ByteArray), 0, (⟨#[]⟩ : ByteArray), false, ([] : List (S41)), (⟨#[]⟩ : ByteArray), 0, 400)))) else ((spec_l6first.f k x10).bind fun bt238 => (if bt238.2.2.2.2.2.2.2 = true then (spec_ReadHead.l0 k x1 false bt238.1 bt238.2.1 bt238.2.2.1 bt238.2.2.2.1 bt238.2.2.2.2.1 bt238.2.2.2.2.2.1 bt238.2.2.2.2.2.2.1 x223000 x223001) else (some ((⟨#[]⟩ : ByteArray), (⟨#[]⟩ : ByteArray), 0, (⟨#[]⟩ : ByteArray), false, ([] : List (S41)), (⟨#[]⟩ : ByteArray), 0, 400))))) else (if x10.toList = ([] : List UInt8) then (some (x222000, x222001, x222002, x222003, x222004, x222005, x222006, x223001, 0)) else (if (x222005.length : Int) = 20 then (some ((⟨#[]⟩ : ByteArray), (⟨#[]⟩ : ByteArray), 0, (⟨#[]⟩ : ByteArray), false, ([] : List (S41)), (⟨#[]⟩ : ByteArray), 0, 431)) else ((spec_ReadField.f k x10).bind fun bt248 => (if bt248.2.2 = true then (if x222005.length < 4398046511104 then (spec_ReadHead.l0 k x1 false x222000 x222001 x222002 x222003 x222004 (x222005 ++ [(⟨bt248.1, bt248.2.1⟩ : S41)]) x222006 x223000 x223001) else (none)) else (some ((⟨#[]⟩ : ByteArray), (⟨#[]⟩ : ByteArray), 0, (⟨#[]⟩ : ByteArray), false, ([] : List (S41)), (⟨#[]⟩ : ByteArray), 0, 400)))))))
end
def spec_ReadHead.f (k : Nat) (a0 : ByteArray) (a1 : Bool) : Option (ByteArray × ByteArray × Int × ByteArray × Bool × (List (S41)) × ByteArray × Int × Int) := if (a0.size : Int) > 4000 then (some ((⟨#[]⟩ : ByteArray), (⟨#[]⟩ : ByteArray), 0, (⟨#[]⟩ : ByteArray), false, ([] : List (S41)), (⟨#[]⟩ : ByteArray), 0, 413)) else (spec_ReadHead.l0 k a1 true (⟨#[]⟩ : ByteArray) (⟨#[]⟩ : ByteArray) 0 (⟨#[]⟩ : ByteArray) false ([] : List (S41)) (⟨#[]⟩ : ByteArray) a0 0)
theorem spec_ReadHead.mono_l : ∀ k, (∀ y0 y1 y2 y3 y4 y5 y6 y7 y8 y9 y10, LeO (spec_ReadHead.l0 k y0 y1 y2 y3 y4 y5 y6 y7 y8 y9 y10) (spec_ReadHead.l0 (k + 1) y0 y1 y2 y3 y4 y5 y6 y7 y8 y9 y10)) ∧ (∀ y0 y1 y2 y3 y4 y5 y6 y7 y8 y9 y10 y11 y12, LeO (spec_ReadHead.j1 k y0 y1 y2 y3 y4 y5 y6 y7 y8 y9 y10 y11 y12) (spec_ReadHead.j1 (k + 1) y0 y1 y2 y3 y4 y5 y6 y7 y8 y9 y10 y11 y12))
 | 0 => ⟨fun _ _ _ _ _ _ _ _ _ _ _ r h => by simp [spec_ReadHead.l0] at h, fun _ _ _ _ _ _ _ _ _ _ _ _ _ r h => by simp [spec_ReadHead.j1] at h⟩
 | k + 1 => by
  obtain ⟨ih0, ih1⟩ := spec_ReadHead.mono_l k
  refine ⟨?_, ?_⟩
  ·intro y0 y1 y2 y3 y4 y5 y6 y7 y8 y9 y10
   unfold spec_ReadHead.l0
   repeat' first
   | (with_reducible exact ih0 _ _ _ _ _ _ _ _ _ _ _)
   | (with_reducible exact ih1 _ _ _ _ _ _ _ _ _ _ _ _ _)
   | (with_reducible exact spec_ReadField.mono _ _)
   | (with_reducible exact spec_TakeLine.mono _ _ _)
   | (with_reducible exact spec_l6first.mono _ _)
   | (with_reducible exact spec_l6status.mono _ _)
   | (with_reducible exact LeO.refl _)
   | (with_reducible exact LeO.none _)
   | (with_reducible refine LeO.ite ?_ ?_)
   | (with_reducible refine LeO.bind ?_ (fun _ => ?_))
   | exact ih0 _ _ _ _ _ _ _ _ _ _ _
   | exact ih1 _ _ _ _ _ _ _ _ _ _ _ _ _
   | exact spec_ReadField.mono _ _
   | exact spec_TakeLine.mono _ _ _
   | exact spec_l6first.mono _ _
   | exact spec_l6status.mono _ _
   | exact LeO.none _
   | refine LeO.ite ?_ ?_
   | refine LeO.bind ?_ (fun _ => ?_)
  ·intro y0 y1 y2 y3 y4 y5 y6 y7 y8 y9 y10 y11 y12
   unfold spec_ReadHead.j1
   repeat' first
   | (with_reducible exact ih0 _ _ _ _ _ _ _ _ _ _ _)
   | (with_reducible exact ih1 _ _ _ _ _ _ _ _ _ _ _ _ _)
   | (with_reducible exact spec_ReadField.mono _ _)
   | (with_reducible exact spec_TakeLine.mono _ _ _)
   | (with_reducible exact spec_l6first.mono _ _)
   | (with_reducible exact spec_l6status.mono _ _)
   | (with_reducible exact LeO.refl _)
   | (with_reducible exact LeO.none _)
   | (with_reducible refine LeO.ite ?_ ?_)
   | (with_reducible refine LeO.bind ?_ (fun _ => ?_))
   | exact ih0 _ _ _ _ _ _ _ _ _ _ _
   | exact ih1 _ _ _ _ _ _ _ _ _ _ _ _ _
   | exact spec_ReadField.mono _ _
   | exact spec_TakeLine.mono _ _ _
   | exact spec_l6first.mono _ _
   | exact spec_l6status.mono _ _
   | exact LeO.none _
   | refine LeO.ite ?_ ?_
   | refine LeO.bind ?_ (fun _ => ?_)
theorem spec_ReadHead.mono : ∀ a0 a1 k, LeO (spec_ReadHead.f k a0 a1) (spec_ReadHead.f (k + 1) a0 a1) := by
 intro a0 a1 k
 obtain ⟨ih0, ih1⟩ := spec_ReadHead.mono_l k
 unfold spec_ReadHead.f
 repeat' first
   | (with_reducible exact ih0 _ _ _ _ _ _ _ _ _ _ _)
   | (with_reducible exact ih1 _ _ _ _ _ _ _ _ _ _ _ _ _)
   | (with_reducible exact spec_ReadField.mono _ _)
   | (with_reducible exact spec_TakeLine.mono _ _ _)
   | (with_reducible exact spec_l6first.mono _ _)
   | (with_reducible exact spec_l6status.mono _ _)
   | (with_reducible exact LeO.refl _)
   | (with_reducible exact LeO.none _)
   | (with_reducible refine LeO.ite ?_ ?_)
   | (with_reducible refine LeO.bind ?_ (fun _ => ?_))
   | exact ih0 _ _ _ _ _ _ _ _ _ _ _
   | exact ih1 _ _ _ _ _ _ _ _ _ _ _ _ _
   | exact spec_ReadField.mono _ _
   | exact spec_TakeLine.mono _ _ _
   | exact spec_l6first.mono _ _
   | exact spec_l6status.mono _ _
   | exact LeO.none _
   | refine LeO.ite ?_ ?_
   | refine LeO.bind ?_ (fun _ => ?_)
set_option maxHeartbeats 8000000 in
set_option maxRecDepth 100000 in
theorem spec_ReadHead.calls (k : Nat) (a0 : ByteArray) (a1 : Bool) (r1 : ByteArray) (r2 : ByteArray) (r3 : Int) (r4 : ByteArray) (r5 : Bool) (r6 : List (S41)) (r7 : ByteArray) (r8 : Int) (r9 : Int) (w : World) (h : spec_ReadHead.f k a0 a1 = some (r1, r2, r3, r4, r5, r6, r7, r8, r9)) :
  Calls Tryz.prog 6 #[.string a0, .bool a1] w fun e w' => ∃ v5_ : Value, e = .returned (.tuple #[.agg #[.string r1, .string r2, .int .i64 r3, .string r4, .bool r5, v5_, .string r7], .int .i64 r8, .int .i64 r9]) ∧ Kd.R k41 41 w' w.heap.size (fun _ => True) v5_ r6 ∧ Below w.heap.size w w' := by
 have hu24 := Tryz.underlying24
 have hu35 := Tryz.underlying35
 have hu41 := Tryz.underlying41
 have HB := Aside0.mk (Below.refl w.heap.size w)
 have H : (if (a0.size : Int) > 4000 then (some ((⟨#[]⟩ : ByteArray), (⟨#[]⟩ : ByteArray), 0, (⟨#[]⟩ : ByteArray), false, ([] : List (S41)), (⟨#[]⟩ : ByteArray), 0, 413)) else (spec_ReadHead.l0 k a1 true (⟨#[]⟩ : ByteArray) (⟨#[]⟩ : ByteArray) 0 (⟨#[]⟩ : ByteArray) false ([] : List (S41)) (⟨#[]⟩ : ByteArray) a0 0)) = some (r1, r2, r3, r4, r5, r6, r7, r8, r9) := h
 clear h
 by_cases c3 : (a0.size : Int) > 4000
 ·rw [if_pos c3] at H
  have c3b0 : decide (4000 < (a0.size : Int)) = true := decide_eq_true c3
  have c3b1 : decide (4000 < a0.size) = true := decide_eq_true (by omega)
  clear c3
  simp only [Option.some.injEq, Prod.mk.injEq] at H
  obtain ⟨rfl, rfl, rfl, rfl, rfl, rfl, rfl, rfl, rfl⟩ := H
  go_enter Tryz.func6, Tryz.ntmps6
  go_wp2_with (first | ((with_reducible refine gate_dst (N := 4) rfl ?_); refine boxA #[.string (⟨#[]⟩ : ByteArray), .string (⟨#[]⟩ : ByteArray), .int .i64 0, .string (⟨#[]⟩ : ByteArray), .bool false, .slice none 0 0, .string (⟨#[]⟩ : ByteArray)] 24 ?_; intro gb220 hg w4 hbox hb; have BK220 := Aside0.mk (hbox); have GW220 := geA hg; have GE220 := geA hg; replace HB := beA hb; clear hb hbox hg; have hcz5_0 := cz0 BK220; have hcz5_1 := cz1 BK220; have hcz5_2 := cz2 BK220; have hcz5_3 := cz3 BK220; have hcz5_4 := cz4 BK220; have hcz5_5 := cz5 BK220; have hcz5_6 := cz6 BK220; have hfz5_0 := blk_frozen BK220.out 0; have hfz5_1 := blk_frozen BK220.out 1; have hfz5_2 := blk_frozen BK220.out 2; have hfz5_3 := blk_frozen BK220.out 3; have hfz5_4 := blk_frozen BK220.out 4; have hfz5_5 := blk_frozen BK220.out 5; have hfz5_6 := blk_frozen BK220.out 6))
  refine rcttA gb220 24 #[.string (⟨#[]⟩ : ByteArray), .string (⟨#[]⟩ : ByteArray), .int .i64 0, .string (⟨#[]⟩ : ByteArray), .bool false, .slice none 0 0, .string (⟨#[]⟩ : ByteArray)] Tryz.underlying24 ?_
  exact ⟨_, gq2, gq6, gBe⟩
 ·rw [if_neg c3] at H
  have c3b0 : decide (4000 < (a0.size : Int)) = false := decide_eq_false c3
  have c3b1 : decide (4000 < a0.size) = false := decide_eq_false (by omega)
  clear c3
  have H' := Aside0.mk H
  clear H
  go_enter Tryz.func6, Tryz.ntmps6
  go_wp2_with (first | ((with_reducible refine gate_dst (N := 4) rfl ?_); refine boxA #[.string (⟨#[]⟩ : ByteArray), .string (⟨#[]⟩ : ByteArray), .int .i64 0, .string (⟨#[]⟩ : ByteArray), .bool false, .slice none 0 0, .string (⟨#[]⟩ : ByteArray)] 24 ?_; intro gb220 hg w6 hbox hb; have BK220 := Aside0.mk (hbox); have GW220 := geA hg; have GE220 := geA hg; replace HB := beA hb; clear hb hbox hg) | ((with_reducible refine gate_dst (N := 7) rfl ?_); refine boxA #[.string (⟨#[]⟩ : ByteArray), .string (⟨#[]⟩ : ByteArray), .int .i64 0, .string (⟨#[]⟩ : ByteArray), .bool false, .slice none 0 0, .string (⟨#[]⟩ : ByteArray)] 24 ?_; intro gb221 hg w7 hbox hb; have BK221 := Aside0.mk (hbox); have GE221 := geA hg; have NB220_221 := neA (g := gb220) hg; have NB221_220 := neB NB220_221; replace BK220 := blA (g := gb220) hb; replace HB := beA hb; clear hb hbox hg) | ((with_reducible refine gate_dst (N := 8) rfl ?_); refine boxA #[.string (⟨#[]⟩ : ByteArray), .int .i64 0] 35 ?_; intro gb222 hg w8 hbox hb; have BK222 := Aside0.mk (hbox); have GE222 := geA hg; have NB220_222 := neA (g := gb220) hg; have NB222_220 := neB NB220_222; have NB221_222 := neA (g := gb221) hg; have NB222_221 := neB NB221_222; replace BK220 := blA (g := gb220) hb; replace BK221 := blA (g := gb221) hb; replace HB := beA hb; clear hb hbox hg; have hnb9 := NB222_220.out; have hnc9 := NB220_222.out; have hnb10 := NB222_221.out; have hnc10 := NB221_222.out; have hcz11_0 := cz0 BK222; have hcz11_1 := cz1 BK222; have hfz11_0 := blk_frozen BK222.out 0; have hfz11_1 := blk_frozen BK222.out 1))
  go_loopg [9] k (fun kq v9 w' => ∃ (x9_1 : Bool) (x221000_1 : ByteArray) (x221001_1 : ByteArray) (x221002_1 : Int) (x221003_1 : ByteArray) (x221004_1 : Bool) (x221006_1 : ByteArray) (x222000_1 : ByteArray) (x222001_1 : ByteArray) (x222002_1 : Int) (x222003_1 : ByteArray) (x222004_1 : Bool) (x222005_1 : List (S41)) (x222006_1 : ByteArray) (x223000_1 : ByteArray) (x223001_1 : Int) (u222005 : Value), v9 = .bool x9_1 ∧ Aside0 (spec_ReadHead.l0 kq a1 x9_1 x222000_1 x222001_1 x222002_1 x222003_1 x222004_1 x222005_1 x222006_1 x223000_1 x223001_1 = some (r1, r2, r3, r4, r5, r6, r7, r8, r9)) ∧ Aside0 (kq ≤ k) ∧ Aside0 (Kd.R k41 41 w' w.heap.size (fun _ => True) u222005 x222005_1) ∧ Aside0 (w'.heap[gb220]? = some (.cells #[.string x221000_1, .string x221001_1, .int .i64 x221002_1, .string x221003_1, .bool x221004_1, (.slice none 0 0), .string x221006_1] 24 (0, 0))) ∧ Aside0 (w'.heap[gb221]? = some (.cells #[.string x222000_1, .string x222001_1, .int .i64 x222002_1, .string x222003_1, .bool x222004_1, u222005, .string x222006_1] 24 (0, 0))) ∧ Aside0 (w'.heap[gb222]? = some (.cells #[.string x223000_1, .int .i64 x223001_1] 35 (0, 0))) ∧ Aside0 (Below w.heap.size w w'))
  case atStart => exact ⟨(true), ((⟨#[]⟩ : ByteArray)), ((⟨#[]⟩ : ByteArray)), (0), ((⟨#[]⟩ : ByteArray)), (false), ((⟨#[]⟩ : ByteArray)), ((⟨#[]⟩ : ByteArray)), ((⟨#[]⟩ : ByteArray)), (0), ((⟨#[]⟩ : ByteArray)), (false), (([] : List (S41))), ((⟨#[]⟩ : ByteArray)), (a0), (0), (.slice none 0 0), gq4, H', ⟨Nat.le_refl _⟩, ⟨gq6⟩, ⟨gBk⟩, ⟨gBk⟩, ⟨gBk⟩, ⟨gBe⟩⟩
  case round =>
   clear H'
   try clear c1
   try clear p2
   try clear c3
   try clear c3b0
   try clear c3b1
   try clear c6
   try clear c9
   try clear c10
   try clear hcz11_0
   try clear hcz11_1
   try clear hcz5_0
   try clear hcz5_1
   try clear hcz5_2
   try clear hcz5_3
   try clear hcz5_4
   try clear hcz5_5
   try clear hcz5_6
   try clear hfz11_0
   try clear hfz11_1
   try clear hfz5_0
   try clear hfz5_1
   try clear hfz5_2
   try clear hfz5_3
   try clear hfz5_4
   try clear hfz5_5
   try clear hfz5_6
   obtain ⟨x9_1, x221000_1, x221001_1, x221002_1, x221003_1, x221004_1, x221006_1, x222000_1, x222001_1, x222002_1, x222003_1, x222004_1, x222005_1, x222006_1, x223000_1, x223001_1, u222005, rfl, HA, HK1, HO_222005, BK220, BK221, BK222, HB⟩ := hrel
   cases gk with
   | zero => exact absurd HA.out (by simp [spec_ReadHead.l0])
   | succ k1 =>
    have H := HA.out
    clear HA
    simp only [spec_ReadHead.l0] at H
    replace H := Option.bind_eq_some_iff.mp H
    obtain ⟨⟨t223, t224, t225, t226⟩, A120, H⟩ := H
    replace H : (if t226 = 0 then (if (t223.size : Int) > 300 then (spec_ReadHead.j1 k1 a1 x9_1 t223 true x222000_1 x222001_1 x222002_1 x222003_1 x222004_1 x222005_1 x222006_1 t224 t225) else (spec_ReadHead.j1 k1 a1 x9_1 t223 (decide (t225 > 1500)) x222000_1 x222001_1 x222002_1 x222003_1 x222004_1 x222005_1 x222006_1 t224 t225)) else (some ((⟨#[]⟩ : ByteArray), (⟨#[]⟩ : ByteArray), 0, (⟨#[]⟩ : ByteArray), false, ([] : List (S41)), (⟨#[]⟩ : ByteArray), 0, 400))) = some (r1, r2, r3, r4, r5, r6, r7, r8, r9) := H
    have A12 := Aside0.mk A120
    clear A120
    by_cases c13 : t226 = 0
    ·rw [if_pos c13] at H
     have c13b0 : (t226 == 0) = true := beq_iff_eq.mpr c13
     have c13b1 : (t226 != 0) = false := bne_eq_false_iff_eq.mpr c13
     clear c13
     have HC14 := Aside0.mk H
     clear H
     have hnb15 := NB222_220.out
     have hnc15 := NB220_222.out
     have hnb16 := NB222_221.out
     have hnc16 := NB221_222.out
     have hcz17_0 := cz0 BK222
     have hcz17_1 := cz1 BK222
     have hfz17_0 := blk_frozen BK222.out 0
     have hfz17_1 := blk_frozen BK222.out 1
     go_upto_region 11 with (first | ((with_reducible refine gate_callee (f := 15) rfl ?_); refine goesL_ (some 24) rfl rfl Tryz.func15 (by kernel_rfl) rfl #[.agg #[.string x223000_1, .int .i64 x223001_1]] rfl gq1 ?_; (with_reducible refine (spec_TakeLine.calls k1 x223000_1 x223001_1 t223 t224 t225 t226 _ A12.out).mono ?_); rintro e w18 ⟨rfl, hb⟩; refine ⟨_, rfl, ?_⟩; replace HO_222005 := Aside0.mk (Kd.R_below gq13 hb); replace BK220 := blA (g := gb220) hb; replace BK221 := blA (g := gb221) hb; replace BK222 := blA (g := gb222) hb; replace HB := beA hb; (try clear hb); (try clear hb2); (try clear hk); (try clear hi)) | ((with_reducible refine gate_dst (N := 11) rfl ?_); refine boxA #[.string (⟨#[]⟩ : ByteArray), .int .i64 0] 35 ?_; intro gb227 hg w19 hbox hb; have BK227 := Aside0.mk (hbox); have GW227 := geA hg; have GE227 := geA hg; have NB220_227 := neA (g := gb220) hg; have NB227_220 := neB NB220_227; have NB221_227 := neA (g := gb221) hg; have NB227_221 := neB NB221_227; have NB222_227 := neA (g := gb222) hg; have NB227_222 := neB NB222_227; replace HO_222005 := Aside0.mk (Kd.R_below gq13 hb); replace BK220 := blA (g := gb220) hb; replace BK221 := blA (g := gb221) hb; replace BK222 := blA (g := gb222) hb; replace HB := beA hb; clear hb hbox hg; have hnb20 := NB227_220.out; have hnc20 := NB220_227.out; have hnb21 := NB227_221.out; have hnc21 := NB221_227.out; have hnb22 := NB227_222.out; have hnc22 := NB222_227.out; have hcz23_0 := cz0 BK227; have hcz23_1 := cz1 BK227; have hfz23_0 := blk_frozen BK227.out 0; have hfz23_1 := blk_frozen BK227.out 1; have hcz24_0 := cz0 BK222; have hcz24_1 := cz1 BK222; have hfz24_0 := blk_frozen BK222.out 0; have hfz24_1 := blk_frozen BK222.out 1))
     (try simp only [Act.put, List.setIfInBounds_toArray, List.set_cons_zero, List.set_cons_succ])
     go_cut [39] (fun v39 wc => ∃ (kq : Nat) (x39_13 : Bool), v39 = .bool x39_13 ∧ Aside0 (spec_ReadHead.j1 kq a1 x9_1 t223 x39_13 x222000_1 x222001_1 x222002_1 x222003_1 x222004_1 x222005_1 x222006_1 t224 t225 = some (r1, r2, r3, r4, r5, r6, r7, r8, r9)) ∧ Aside0 (kq ≤ k1) ∧ Aside0 (Kd.R k41 41 wc w.heap.size (fun _ => True) u222005 x222005_1) ∧ Aside0 (wc.heap[gb220]? = some (.cells #[.string x221000_1, .string x221001_1, .int .i64 x221002_1, .string x221003_1, .bool x221004_1, (.slice none 0 0), .string x221006_1] 24 (0, 0))) ∧ Aside0 (wc.heap[gb221]? = some (.cells #[.string x222000_1, .string x222001_1, .int .i64 x222002_1, .string x222003_1, .bool x222004_1, u222005, .string x222006_1] 24 (0, 0))) ∧ Aside0 (wc.heap[gb222]? = some (.cells #[.string t224, .int .i64 t225] 35 (0, 0))) ∧ Aside0 (wc.heap[gb227]? = some (.cells #[.string t224, .int .i64 t225] 35 (0, 0))) ∧ Aside0 (Below w.heap.size w wc))
     case first =>
      have H := HC14.out
      clear HC14
      by_cases c25 : (t223.size : Int) > 300
      ·rw [if_pos c25] at H
       have c25b0 : decide (300 < (t223.size : Int)) = true := decide_eq_true c25
       have c25b1 : decide (300 < t223.size) = true := decide_eq_true (by omega)
       clear c25
       (first | rw [c25b0] | (simp only [i64_w, i32_w]; rw [c25b0]) | skip)
       have H' := Aside0.mk H
       clear H
       go_wp2
       go_meet
       case rel => exact ⟨_, (true), gq4, H', ⟨gq24⟩, ⟨by (with_reducible repeat (first | apply Kd.R_alloc | apply Kd.R_drewN | apply Kd.R_drew)); exact Kd.R_mono (Kd.R_far (p := ⟨gb222, 1, none⟩) (Kd.R_far (p := ⟨gb222, 0, none⟩) (Kd.R_far (p := ⟨gb227, 1, none⟩) (Kd.R_far (p := ⟨gb227, 0, none⟩) (Kd.R_types (Kd.R_types HO_222005.out BK227.out (by decide)) BK222.out (by decide)) (fun _ hk => hk.1.2) (.string t224)) (fun _ hk => hk.1.2) (.int .i64 t225)) (fun _ hk => hk.2) (.string t224)) (fun _ hk => hk.2) (.int .i64 t225)) (fun _ hk => trivial)⟩, ⟨gBk⟩, ⟨gBk⟩, ⟨gBk⟩, ⟨gBk⟩, ⟨gBe⟩⟩
      ·rw [if_neg c25] at H
       have c25b0 : decide (300 < (t223.size : Int)) = false := decide_eq_false c25
       have c25b1 : decide (300 < t223.size) = false := decide_eq_false (by omega)
       clear c25
       (first | rw [c25b0] | (simp only [i64_w, i32_w]; rw [c25b0]) | skip)
       have H' := Aside0.mk H
       clear H
       have hnb26 := NB222_220.out
       have hnc26 := NB220_222.out
       have hnb27 := NB222_221.out
       have hnc27 := NB221_222.out
       have hnb28 := NB222_227.out
       have hnc28 := NB227_222.out
       have hcz29_0 := cz0 BK222
       have hcz29_1 := cz1 BK222
       have hfz29_0 := blk_frozen BK222.out 0
       have hfz29_1 := blk_frozen BK222.out 1
       go_wp2
       go_meet
       case rel => exact ⟨_, (decide (t225 > 1500)), gq4, H', ⟨gq24⟩, ⟨by (with_reducible repeat (first | apply Kd.R_alloc | apply Kd.R_drewN | apply Kd.R_drew)); exact Kd.R_mono (Kd.R_far (p := ⟨gb222, 1, none⟩) (Kd.R_far (p := ⟨gb222, 0, none⟩) (Kd.R_far (p := ⟨gb227, 1, none⟩) (Kd.R_far (p := ⟨gb227, 0, none⟩) (Kd.R_types (Kd.R_types HO_222005.out BK227.out (by decide)) BK222.out (by decide)) (fun _ hk => hk.1.2) (.string t224)) (fun _ hk => hk.1.2) (.int .i64 t225)) (fun _ hk => hk.2) (.string t224)) (fun _ hk => hk.2) (.int .i64 t225)) (fun _ hk => trivial)⟩, ⟨gBk⟩, ⟨gBk⟩, ⟨gBk⟩, ⟨gBk⟩, ⟨gBe⟩⟩
     case rest =>
      clear HC14
      try clear c1
      try clear c2
      try clear p2
      try clear c3
      try clear c3b0
      try clear c3b1
      try clear c6
      try clear c9
      try clear c10
      try clear c13
      try clear c13b0
      try clear c13b1
      try clear c15
      try clear c16
      try clear c20
      try clear c21
      try clear c22
      try clear c25
      try clear c25b0
      try clear c25b1
      try clear c26
      try clear c27
      try clear c28
      try clear hcz11_0
      try clear hcz11_1
      try clear hcz17_0
      try clear hcz17_1
      try clear hcz23_0
      try clear hcz23_1
      try clear hcz24_0
      try clear hcz24_1
      try clear hcz29_0
      try clear hcz29_1
      try clear hcz5_0
      try clear hcz5_1
      try clear hcz5_2
      try clear hcz5_3
      try clear hcz5_4
      try clear hcz5_5
      try clear hcz5_6
      try clear hfz11_0
      try clear hfz11_1
      try clear hfz17_0
      try clear hfz17_1
      try clear hfz23_0
      try clear hfz23_1
      try clear hfz24_0
      try clear hfz24_1
      try clear hfz29_0
      try clear hfz29_1
      try clear hfz5_0
      try clear hfz5_1
      try clear hfz5_2
      try clear hfz5_3
      try clear hfz5_4
      try clear hfz5_5
      try clear hfz5_6
      try clear p2
      obtain ⟨kq, x39_13, rfl, HA, HJ13, HO_222005, BK220, BK221, BK222, BK227, HB⟩ := hcut
      cases kq with
      | zero => exact absurd HA.out (by simp [spec_ReadHead.j1])
      | succ kj13 =>
       have H := HA.out
       clear HA
       simp only [spec_ReadHead.j1] at H
       by_cases c30 : x39_13 = true
       ·subst c30
        have H1 : (some ((⟨#[]⟩ : ByteArray), (⟨#[]⟩ : ByteArray), 0, (⟨#[]⟩ : ByteArray), false, ([] : List (S41)), (⟨#[]⟩ : ByteArray), 0, 431)) = some (r1, r2, r3, r4, r5, r6, r7, r8, r9) := by rw [if_pos rfl] at H; exact H
        clear H
        have H := H1
        clear H1
        simp only [Option.some.injEq, Prod.mk.injEq] at H
        obtain ⟨rfl, rfl, rfl, rfl, rfl, rfl, rfl, rfl, rfl⟩ := H
        have hnb31 := NB220_221.out
        have hnc31 := NB221_220.out
        have hnb32 := NB220_222.out
        have hnc32 := NB222_220.out
        have hnb33 := NB220_227.out
        have hnc33 := NB227_220.out
        have hcz34_0 := cz0 BK220
        have hcz34_1 := cz1 BK220
        have hcz34_2 := cz2 BK220
        have hcz34_3 := cz3 BK220
        have hcz34_4 := cz4 BK220
        have hcz34_5 := cz5 BK220
        have hcz34_6 := cz6 BK220
        have hfz34_0 := blk_frozen BK220.out 0
        have hfz34_1 := blk_frozen BK220.out 1
        have hfz34_2 := blk_frozen BK220.out 2
        have hfz34_3 := blk_frozen BK220.out 3
        have hfz34_4 := blk_frozen BK220.out 4
        have hfz34_5 := blk_frozen BK220.out 5
        have hfz34_6 := blk_frozen BK220.out 6
        go_wp2
        refine rcttA gb220 24 #[.string (⟨#[]⟩ : ByteArray), .string (⟨#[]⟩ : ByteArray), .int .i64 0, .string (⟨#[]⟩ : ByteArray), .bool false, .slice none 0 0, .string (⟨#[]⟩ : ByteArray)] Tryz.underlying24 ?_
        exact ⟨_, gq2, gq6, gBe⟩
       ·replace c30 := Bool.eq_false_iff.mpr c30
        subst c30
        have H1 : (if x9_1 = true then (if a1 = true then ((spec_l6status.f kj13 t223).bind fun bt228 => (if bt228.2.2.2.2.2.2.2 = true then (spec_ReadHead.l0 kj13 a1 false bt228.1 bt228.2.1 bt228.2.2.1 bt228.2.2.2.1 bt228.2.2.2.2.1 bt228.2.2.2.2.2.1 bt228.2.2.2.2.2.2.1 t224 t225) else (some ((⟨#[]⟩ : ByteArray), (⟨#[]⟩ : ByteArray), 0, (⟨#[]⟩ : ByteArray), false, ([] : List (S41)), (⟨#[]⟩ : ByteArray), 0, 400)))) else ((spec_l6first.f kj13 t223).bind fun bt238 => (if bt238.2.2.2.2.2.2.2 = true then (spec_ReadHead.l0 kj13 a1 false bt238.1 bt238.2.1 bt238.2.2.1 bt238.2.2.2.1 bt238.2.2.2.2.1 bt238.2.2.2.2.2.1 bt238.2.2.2.2.2.2.1 t224 t225) else (some ((⟨#[]⟩ : ByteArray), (⟨#[]⟩ : ByteArray), 0, (⟨#[]⟩ : ByteArray), false, ([] : List (S41)), (⟨#[]⟩ : ByteArray), 0, 400))))) else (if t223.toList = ([] : List UInt8) then (some (x222000_1, x222001_1, x222002_1, x222003_1, x222004_1, x222005_1, x222006_1, t225, 0)) else (if (x222005_1.length : Int) = 20 then (some ((⟨#[]⟩ : ByteArray), (⟨#[]⟩ : ByteArray), 0, (⟨#[]⟩ : ByteArray), false, ([] : List (S41)), (⟨#[]⟩ : ByteArray), 0, 431)) else ((spec_ReadField.f kj13 t223).bind fun bt248 => (if bt248.2.2 = true then (if x222005_1.length < 4398046511104 then (spec_ReadHead.l0 kj13 a1 false x222000_1 x222001_1 x222002_1 x222003_1 x222004_1 (x222005_1 ++ [(⟨bt248.1, bt248.2.1⟩ : S41)]) x222006_1 t224 t225) else (none)) else (some ((⟨#[]⟩ : ByteArray), (⟨#[]⟩ : ByteArray), 0, (⟨#[]⟩ : ByteArray), false, ([] : List (S41)), (⟨#[]⟩ : ByteArray), 0, 400))))))) = some (r1, r2, r3, r4, r5, r6, r7, r8, r9) := by rw [if_neg (show ¬ (false = true) by decide)] at H; exact H
        clear H
        have H := H1
        clear H1
        by_cases c35 : x9_1 = true
        ·subst c35
         have H1 : (if a1 = true then ((spec_l6status.f kj13 t223).bind fun bt228 => (if bt228.2.2.2.2.2.2.2 = true then (spec_ReadHead.l0 kj13 a1 false bt228.1 bt228.2.1 bt228.2.2.1 bt228.2.2.2.1 bt228.2.2.2.2.1 bt228.2.2.2.2.2.1 bt228.2.2.2.2.2.2.1 t224 t225) else (some ((⟨#[]⟩ : ByteArray), (⟨#[]⟩ : ByteArray), 0, (⟨#[]⟩ : ByteArray), false, ([] : List (S41)), (⟨#[]⟩ : ByteArray), 0, 400)))) else ((spec_l6first.f kj13 t223).bind fun bt238 => (if bt238.2.2.2.2.2.2.2 = true then (spec_ReadHead.l0 kj13 a1 false bt238.1 bt238.2.1 bt238.2.2.1 bt238.2.2.2.1 bt238.2.2.2.2.1 bt238.2.2.2.2.2.1 bt238.2.2.2.2.2.2.1 t224 t225) else (some ((⟨#[]⟩ : ByteArray), (⟨#[]⟩ : ByteArray), 0, (⟨#[]⟩ : ByteArray), false, ([] : List (S41)), (⟨#[]⟩ : ByteArray), 0, 400))))) = some (r1, r2, r3, r4, r5, r6, r7, r8, r9) := by rw [if_pos rfl] at H; exact H
         clear H
         have H := H1
         clear H1
         by_cases c36 : a1 = true
         ·subst c36
          have H1 : ((spec_l6status.f kj13 t223).bind fun bt228 => (if bt228.2.2.2.2.2.2.2 = true then (spec_ReadHead.l0 kj13 true false bt228.1 bt228.2.1 bt228.2.2.1 bt228.2.2.2.1 bt228.2.2.2.2.1 bt228.2.2.2.2.2.1 bt228.2.2.2.2.2.2.1 t224 t225) else (some ((⟨#[]⟩ : ByteArray), (⟨#[]⟩ : ByteArray), 0, (⟨#[]⟩ : ByteArray), false, ([] : List (S41)), (⟨#[]⟩ : ByteArray), 0, 400)))) = some (r1, r2, r3, r4, r5, r6, r7, r8, r9) := by rw [if_pos rfl] at H; exact H
          clear H
          have H := H1
          clear H1
          replace H := Option.bind_eq_some_iff.mp H
          obtain ⟨⟨t228, t229, t230, t231, t232, t233, t236, t237⟩, A370, H⟩ := H
          replace H : (if t237 = true then (spec_ReadHead.l0 kj13 true false t228 t229 t230 t231 t232 t233 t236 t224 t225) else (some ((⟨#[]⟩ : ByteArray), (⟨#[]⟩ : ByteArray), 0, (⟨#[]⟩ : ByteArray), false, ([] : List (S41)), (⟨#[]⟩ : ByteArray), 0, 400))) = some (r1, r2, r3, r4, r5, r6, r7, r8, r9) := H
          have A37 := Aside0.mk A370
          clear A370
          by_cases c38 : t237 = true
          ·subst c38
           have H1 : (spec_ReadHead.l0 kj13 true false t228 t229 t230 t231 t232 t233 t236 t224 t225) = some (r1, r2, r3, r4, r5, r6, r7, r8, r9) := by rw [if_pos rfl] at H; exact H
           clear H
           have H := H1
           clear H1
           have H' := Aside0.mk H
           clear H
           go_wp2_with (first | ((with_reducible refine gate_callee (f := 16) rfl ?_); refine goesL_ (some 45) rfl rfl Tryz.func16 (by kernel_rfl) rfl #[.string t223] rfl gq1 ?_; (with_reducible refine (spec_l6status.calls kj13 t223 t228 t229 t230 t231 t232 t233 t236 true _ A37.out).mono ?_); rintro e w39 ⟨v234, rfl, ho0, hb⟩; refine ⟨_, rfl, ?_⟩; have HO235 := Aside0.mk (Kd.R_lower (Kd.R_new' ho0 (Kd.R_lt gq13)) (below_size gBe)); replace HO_222005 := Aside0.mk (Kd.R_elder' gq13 (Kd.R_base ho0) hb); replace BK220 := blA (g := gb220) hb; replace BK221 := blA (g := gb221) hb; replace BK222 := blA (g := gb222) hb; replace BK227 := blA (g := gb227) hb; replace HB := beA hb; (try clear hb); (try clear hb2); (try clear hk); (try clear hi); (try clear ho0); have hnb40 := NB221_220.out; have hnc40 := NB220_221.out; have hnb41 := NB221_222.out; have hnc41 := NB222_221.out; have hnb42 := NB221_227.out; have hnc42 := NB227_221.out; have hcz43_0 := cz0 BK221; have hcz43_1 := cz1 BK221; have hcz43_2 := cz2 BK221; have hcz43_3 := cz3 BK221; have hcz43_4 := cz4 BK221; have hcz43_5 := cz5 BK221; have hcz43_6 := cz6 BK221; have hfz43_0 := blk_frozen BK221.out 0; have hfz43_1 := blk_frozen BK221.out 1; have hfz43_2 := blk_frozen BK221.out 2; have hfz43_3 := blk_frozen BK221.out 3; have hfz43_4 := blk_frozen BK221.out 4; have hfz43_5 := blk_frozen BK221.out 5; have hfz43_6 := blk_frozen BK221.out 6; obtain ⟨Ao44, co44, eo44⟩ := Kd.R_slice HO235.out; subst eo44))
           go_roundg kj13
           case measure => have := HK1.out; have := HJ13.out; omega
           case rel => exact ⟨(false), (x221000_1), (x221001_1), (x221002_1), (x221003_1), (x221004_1), (x221006_1), (t228), (t229), (t230), (t231), (t232), (t233), (t236), (t224), (t225), (.slice Ao44 t233.length co44), gq4, H', ⟨by have := HK1.out; have := HJ13.out; omega⟩, ⟨by (with_reducible repeat (first | apply Kd.R_alloc | apply Kd.R_drewN | apply Kd.R_drew)); exact Kd.R_mono (Kd.R_far (p := ⟨gb221, 6, none⟩) (Kd.R_far (p := ⟨gb221, 5, none⟩) (Kd.R_far (p := ⟨gb221, 4, none⟩) (Kd.R_far (p := ⟨gb221, 3, none⟩) (Kd.R_far (p := ⟨gb221, 2, none⟩) (Kd.R_far (p := ⟨gb221, 1, none⟩) (Kd.R_far (p := ⟨gb221, 0, none⟩) (Kd.R_types HO235.out BK221.out (by decide)) (fun _ hk => hk.2) (.string t228)) (fun _ hk => hk.2) (.string t229)) (fun _ hk => hk.2) (.int .i64 t230)) (fun _ hk => hk.2) (.string t231)) (fun _ hk => hk.2) (.bool t232)) (fun _ hk => hk.2) (.slice Ao44 t233.length co44)) (fun _ hk => hk.2) (.string t236)) (fun _ hk => trivial)⟩, ⟨gBk⟩, ⟨gBk⟩, ⟨gBk⟩, ⟨gBe⟩⟩
          ·replace c38 := Bool.eq_false_iff.mpr c38
           subst c38
           have H1 : (some ((⟨#[]⟩ : ByteArray), (⟨#[]⟩ : ByteArray), 0, (⟨#[]⟩ : ByteArray), false, ([] : List (S41)), (⟨#[]⟩ : ByteArray), 0, 400)) = some (r1, r2, r3, r4, r5, r6, r7, r8, r9) := by rw [if_neg (show ¬ (false = true) by decide)] at H; exact H
           clear H
           have H := H1
           clear H1
           simp only [Option.some.injEq, Prod.mk.injEq] at H
           obtain ⟨rfl, rfl, rfl, rfl, rfl, rfl, rfl, rfl, rfl⟩ := H
           go_wp2_with (first | ((with_reducible refine gate_callee (f := 16) rfl ?_); refine goesL_ (some 45) rfl rfl Tryz.func16 (by kernel_rfl) rfl #[.string t223] rfl gq1 ?_; (with_reducible refine (spec_l6status.calls kj13 t223 t228 t229 t230 t231 t232 t233 t236 false _ A37.out).mono ?_); rintro e w45 ⟨v234, rfl, ho0, hb⟩; refine ⟨_, rfl, ?_⟩; have HO235 := Aside0.mk (Kd.R_lower (Kd.R_new' ho0 (Kd.R_lt gq13)) (below_size gBe)); replace HO_222005 := Aside0.mk (Kd.R_elder' gq13 (Kd.R_base ho0) hb); replace BK220 := blA (g := gb220) hb; replace BK221 := blA (g := gb221) hb; replace BK222 := blA (g := gb222) hb; replace BK227 := blA (g := gb227) hb; replace HB := beA hb; (try clear hb); (try clear hb2); (try clear hk); (try clear hi); (try clear ho0); have hnb46 := NB221_220.out; have hnc46 := NB220_221.out; have hnb47 := NB221_222.out; have hnc47 := NB222_221.out; have hnb48 := NB221_227.out; have hnc48 := NB227_221.out; have hcz49_0 := cz0 BK221; have hcz49_1 := cz1 BK221; have hcz49_2 := cz2 BK221; have hcz49_3 := cz3 BK221; have hcz49_4 := cz4 BK221; have hcz49_5 := cz5 BK221; have hcz49_6 := cz6 BK221; have hfz49_0 := blk_frozen BK221.out 0; have hfz49_1 := blk_frozen BK221.out 1; have hfz49_2 := blk_frozen BK221.out 2; have hfz49_3 := blk_frozen BK221.out 3; have hfz49_4 := blk_frozen BK221.out 4; have hfz49_5 := blk_frozen BK221.out 5; have hfz49_6 := blk_frozen BK221.out 6; obtain ⟨Ao50, co50, eo50⟩ := Kd.R_slice HO235.out; subst eo50; have hnb51 := NB220_222.out; have hnc51 := NB222_220.out; have hnb52 := NB220_227.out; have hnc52 := NB227_220.out; have hcz53_0 := cz0 BK220; have hcz53_1 := cz1 BK220; have hcz53_2 := cz2 BK220; have hcz53_3 := cz3 BK220; have hcz53_4 := cz4 BK220; have hcz53_5 := cz5 BK220; have hcz53_6 := cz6 BK220; have hfz53_0 := blk_frozen BK220.out 0; have hfz53_1 := blk_frozen BK220.out 1; have hfz53_2 := blk_frozen BK220.out 2; have hfz53_3 := blk_frozen BK220.out 3; have hfz53_4 := blk_frozen BK220.out 4; have hfz53_5 := blk_frozen BK220.out 5; have hfz53_6 := blk_frozen BK220.out 6))
           refine rcttA gb220 24 #[.string (⟨#[]⟩ : ByteArray), .string (⟨#[]⟩ : ByteArray), .int .i64 0, .string (⟨#[]⟩ : ByteArray), .bool false, .slice none 0 0, .string (⟨#[]⟩ : ByteArray)] Tryz.underlying24 ?_
           exact ⟨_, gq2, gq6, gBe⟩
         ·replace c36 := Bool.eq_false_iff.mpr c36
          subst c36
          have H1 : ((spec_l6first.f kj13 t223).bind fun bt238 => (if bt238.2.2.2.2.2.2.2 = true then (spec_ReadHead.l0 kj13 false false bt238.1 bt238.2.1 bt238.2.2.1 bt238.2.2.2.1 bt238.2.2.2.2.1 bt238.2.2.2.2.2.1 bt238.2.2.2.2.2.2.1 t224 t225) else (some ((⟨#[]⟩ : ByteArray), (⟨#[]⟩ : ByteArray), 0, (⟨#[]⟩ : ByteArray), false, ([] : List (S41)), (⟨#[]⟩ : ByteArray), 0, 400)))) = some (r1, r2, r3, r4, r5, r6, r7, r8, r9) := by rw [if_neg (show ¬ (false = true) by decide)] at H; exact H
          clear H
          have H := H1
          clear H1
          replace H := Option.bind_eq_some_iff.mp H
          obtain ⟨⟨t238, t239, t240, t241, t242, t243, t246, t247⟩, A540, H⟩ := H
          replace H : (if t247 = true then (spec_ReadHead.l0 kj13 false false t238 t239 t240 t241 t242 t243 t246 t224 t225) else (some ((⟨#[]⟩ : ByteArray), (⟨#[]⟩ : ByteArray), 0, (⟨#[]⟩ : ByteArray), false, ([] : List (S41)), (⟨#[]⟩ : ByteArray), 0, 400))) = some (r1, r2, r3, r4, r5, r6, r7, r8, r9) := H
          have A54 := Aside0.mk A540
          clear A540
          by_cases c55 : t247 = true
          ·subst c55
           have H1 : (spec_ReadHead.l0 kj13 false false t238 t239 t240 t241 t242 t243 t246 t224 t225) = some (r1, r2, r3, r4, r5, r6, r7, r8, r9) := by rw [if_pos rfl] at H; exact H
           clear H
           have H := H1
           clear H1
           have H' := Aside0.mk H
           clear H
           go_wp2_with (first | ((with_reducible refine gate_callee (f := 17) rfl ?_); refine goesL_ (some 50) rfl rfl Tryz.func17 (by kernel_rfl) rfl #[.string t223] rfl gq1 ?_; (with_reducible refine (spec_l6first.calls kj13 t223 t238 t239 t240 t241 t242 t243 t246 true _ A54.out).mono ?_); rintro e w56 ⟨v244, rfl, ho0, hb⟩; refine ⟨_, rfl, ?_⟩; have HO245 := Aside0.mk (Kd.R_lower (Kd.R_new' ho0 (Kd.R_lt gq13)) (below_size gBe)); replace HO_222005 := Aside0.mk (Kd.R_elder' gq13 (Kd.R_base ho0) hb); replace BK220 := blA (g := gb220) hb; replace BK221 := blA (g := gb221) hb; replace BK222 := blA (g := gb222) hb; replace BK227 := blA (g := gb227) hb; replace HB := beA hb; (try clear hb); (try clear hb2); (try clear hk); (try clear hi); (try clear ho0); have hnb57 := NB221_220.out; have hnc57 := NB220_221.out; have hnb58 := NB221_222.out; have hnc58 := NB222_221.out; have hnb59 := NB221_227.out; have hnc59 := NB227_221.out; have hcz60_0 := cz0 BK221; have hcz60_1 := cz1 BK221; have hcz60_2 := cz2 BK221; have hcz60_3 := cz3 BK221; have hcz60_4 := cz4 BK221; have hcz60_5 := cz5 BK221; have hcz60_6 := cz6 BK221; have hfz60_0 := blk_frozen BK221.out 0; have hfz60_1 := blk_frozen BK221.out 1; have hfz60_2 := blk_frozen BK221.out 2; have hfz60_3 := blk_frozen BK221.out 3; have hfz60_4 := blk_frozen BK221.out 4; have hfz60_5 := blk_frozen BK221.out 5; have hfz60_6 := blk_frozen BK221.out 6; obtain ⟨Ao61, co61, eo61⟩ := Kd.R_slice HO245.out; subst eo61))
           go_roundg kj13
           case measure => have := HK1.out; have := HJ13.out; omega
           case rel => exact ⟨(false), (x221000_1), (x221001_1), (x221002_1), (x221003_1), (x221004_1), (x221006_1), (t238), (t239), (t240), (t241), (t242), (t243), (t246), (t224), (t225), (.slice Ao61 t243.length co61), gq4, H', ⟨by have := HK1.out; have := HJ13.out; omega⟩, ⟨by (with_reducible repeat (first | apply Kd.R_alloc | apply Kd.R_drewN | apply Kd.R_drew)); exact Kd.R_mono (Kd.R_far (p := ⟨gb221, 6, none⟩) (Kd.R_far (p := ⟨gb221, 5, none⟩) (Kd.R_far (p := ⟨gb221, 4, none⟩) (Kd.R_far (p := ⟨gb221, 3, none⟩) (Kd.R_far (p := ⟨gb221, 2, none⟩) (Kd.R_far (p := ⟨gb221, 1, none⟩) (Kd.R_far (p := ⟨gb221, 0, none⟩) (Kd.R_types HO245.out BK221.out (by decide)) (fun _ hk => hk.2) (.string t238)) (fun _ hk => hk.2) (.string t239)) (fun _ hk => hk.2) (.int .i64 t240)) (fun _ hk => hk.2) (.string t241)) (fun _ hk => hk.2) (.bool t242)) (fun _ hk => hk.2) (.slice Ao61 t243.length co61)) (fun _ hk => hk.2) (.string t246)) (fun _ hk => trivial)⟩, ⟨gBk⟩, ⟨gBk⟩, ⟨gBk⟩, ⟨gBe⟩⟩
          ·replace c55 := Bool.eq_false_iff.mpr c55
           subst c55
           have H1 : (some ((⟨#[]⟩ : ByteArray), (⟨#[]⟩ : ByteArray), 0, (⟨#[]⟩ : ByteArray), false, ([] : List (S41)), (⟨#[]⟩ : ByteArray), 0, 400)) = some (r1, r2, r3, r4, r5, r6, r7, r8, r9) := by rw [if_neg (show ¬ (false = true) by decide)] at H; exact H
           clear H
           have H := H1
           clear H1
           simp only [Option.some.injEq, Prod.mk.injEq] at H
           obtain ⟨rfl, rfl, rfl, rfl, rfl, rfl, rfl, rfl, rfl⟩ := H
           go_wp2_with (first | ((with_reducible refine gate_callee (f := 17) rfl ?_); refine goesL_ (some 50) rfl rfl Tryz.func17 (by kernel_rfl) rfl #[.string t223] rfl gq1 ?_; (with_reducible refine (spec_l6first.calls kj13 t223 t238 t239 t240 t241 t242 t243 t246 false _ A54.out).mono ?_); rintro e w62 ⟨v244, rfl, ho0, hb⟩; refine ⟨_, rfl, ?_⟩; have HO245 := Aside0.mk (Kd.R_lower (Kd.R_new' ho0 (Kd.R_lt gq13)) (below_size gBe)); replace HO_222005 := Aside0.mk (Kd.R_elder' gq13 (Kd.R_base ho0) hb); replace BK220 := blA (g := gb220) hb; replace BK221 := blA (g := gb221) hb; replace BK222 := blA (g := gb222) hb; replace BK227 := blA (g := gb227) hb; replace HB := beA hb; (try clear hb); (try clear hb2); (try clear hk); (try clear hi); (try clear ho0); have hnb63 := NB221_220.out; have hnc63 := NB220_221.out; have hnb64 := NB221_222.out; have hnc64 := NB222_221.out; have hnb65 := NB221_227.out; have hnc65 := NB227_221.out; have hcz66_0 := cz0 BK221; have hcz66_1 := cz1 BK221; have hcz66_2 := cz2 BK221; have hcz66_3 := cz3 BK221; have hcz66_4 := cz4 BK221; have hcz66_5 := cz5 BK221; have hcz66_6 := cz6 BK221; have hfz66_0 := blk_frozen BK221.out 0; have hfz66_1 := blk_frozen BK221.out 1; have hfz66_2 := blk_frozen BK221.out 2; have hfz66_3 := blk_frozen BK221.out 3; have hfz66_4 := blk_frozen BK221.out 4; have hfz66_5 := blk_frozen BK221.out 5; have hfz66_6 := blk_frozen BK221.out 6; obtain ⟨Ao67, co67, eo67⟩ := Kd.R_slice HO245.out; subst eo67; have hnb68 := NB220_222.out; have hnc68 := NB222_220.out; have hnb69 := NB220_227.out; have hnc69 := NB227_220.out; have hcz70_0 := cz0 BK220; have hcz70_1 := cz1 BK220; have hcz70_2 := cz2 BK220; have hcz70_3 := cz3 BK220; have hcz70_4 := cz4 BK220; have hcz70_5 := cz5 BK220; have hcz70_6 := cz6 BK220; have hfz70_0 := blk_frozen BK220.out 0; have hfz70_1 := blk_frozen BK220.out 1; have hfz70_2 := blk_frozen BK220.out 2; have hfz70_3 := blk_frozen BK220.out 3; have hfz70_4 := blk_frozen BK220.out 4; have hfz70_5 := blk_frozen BK220.out 5; have hfz70_6 := blk_frozen BK220.out 6))
           refine rcttA gb220 24 #[.string (⟨#[]⟩ : ByteArray), .string (⟨#[]⟩ : ByteArray), .int .i64 0, .string (⟨#[]⟩ : ByteArray), .bool false, .slice none 0 0, .string (⟨#[]⟩ : ByteArray)] Tryz.underlying24 ?_
           exact ⟨_, gq2, gq6, gBe⟩
        ·replace c35 := Bool.eq_false_iff.mpr c35
         subst c35
         have H1 : (if t223.toList = ([] : List UInt8) then (some (x222000_1, x222001_1, x222002_1, x222003_1, x222004_1, x222005_1, x222006_1, t225, 0)) else (if (x222005_1.length : Int) = 20 then (some ((⟨#[]⟩ : ByteArray), (⟨#[]⟩ : ByteArray), 0, (⟨#[]⟩ : ByteArray), false, ([] : List (S41)), (⟨#[]⟩ : ByteArray), 0, 431)) else ((spec_ReadField.f kj13 t223).bind fun bt248 => (if bt248.2.2 = true then (if x222005_1.length < 4398046511104 then (spec_ReadHead.l0 kj13 a1 false x222000_1 x222001_1 x222002_1 x222003_1 x222004_1 (x222005_1 ++ [(⟨bt248.1, bt248.2.1⟩ : S41)]) x222006_1 t224 t225) else (none)) else (some ((⟨#[]⟩ : ByteArray), (⟨#[]⟩ : ByteArray), 0, (⟨#[]⟩ : ByteArray), false, ([] : List (S41)), (⟨#[]⟩ : ByteArray), 0, 400)))))) = some (r1, r2, r3, r4, r5, r6, r7, r8, r9) := by rw [if_neg (show ¬ (false = true) by decide)] at H; exact H
         clear H
         have H := H1
         clear H1
         by_cases c71 : t223.toList = ([] : List UInt8)
         ·rw [if_pos c71] at H
          have c71b0 : (t223.toList == ([] : List UInt8)) = true := beq_iff_eq.mpr c71
          have c71b1 : (t223.toList != ([] : List UInt8)) = false := bne_eq_false_iff_eq.mpr c71
          clear c71
          simp only [Option.some.injEq, Prod.mk.injEq] at H
          obtain ⟨rfl, rfl, rfl, rfl, rfl, rfl, rfl, rfl, rfl⟩ := H
          try go_wp2
          replace HO_222005 := Aside0.mk (Kd.R_drew HO_222005.out)
          replace BK220 := Aside0.mk (blk_drew BK220.out)
          replace BK221 := Aside0.mk (blk_drew BK221.out)
          replace BK222 := Aside0.mk (blk_drew BK222.out)
          replace BK227 := Aside0.mk (blk_drew BK227.out)
          replace HB := Aside0.mk (below_drew1 HB.out)
          obtain ⟨Ao78, co78, eo78⟩ := Kd.R_slice HO_222005.out
          (first | subst eo78 | (injection eo78 with f1_ f2_ f3_; have f4_ := f1_.symm; have f5_ := f3_.symm; clear f1_ f2_ f3_; subst f4_; subst f5_))
          refine start_ (n := 6) (S := fun w' => w'.cell? ⟨gb221, 0, none⟩ = some (.string x222000_1) ∧ w'.cell? ⟨gb221, 1, none⟩ = some (.string x222001_1) ∧ w'.cell? ⟨gb221, 2, none⟩ = some (.int .i64 x222002_1) ∧ w'.cell? ⟨gb221, 3, none⟩ = some (.string x222003_1) ∧ w'.cell? ⟨gb221, 4, none⟩ = some (.bool x222004_1) ∧ w'.cell? ⟨gb221, 5, none⟩ = some (.slice Ao78 x222005_1.length co78) ∧ w'.cell? ⟨gb221, 6, none⟩ = some (.string x222006_1) ∧ w'.cell? ⟨gb222, 0, none⟩ = some (.string t224) ∧ w'.cell? ⟨gb222, 1, none⟩ = some (.int .i64 t225)) (ds := []) #[false, false, false, false, false, false] (by kernel_rfl) rfl rfl ⟨(blk_cell BK221.out 0).trans rfl, (blk_cell BK221.out 1).trans rfl, (blk_cell BK221.out 2).trans rfl, (blk_cell BK221.out 3).trans rfl, (blk_cell BK221.out 4).trans rfl, (blk_cell BK221.out 5).trans rfl, (blk_cell BK221.out 6).trans rfl, (blk_cell BK222.out 0).trans rfl, (blk_cell BK222.out 1).trans rfl⟩ (fun hHeld => ?_)
          generalize wc.drew = w72 at HO_222005 BK220 BK221 BK222 BK227 HB hHeld ⊢
          refine pureK 1 (some 59) ?_
          refine takeK_ 0 (some 58) (hy := Or.inl ⟨by rfl, gq30⟩) ?_
          refine takeK_ 2 (some 60) (hy := Or.inl ⟨by rfl, gq30⟩) ?_
          refine one_ (i := 3) (N := none) #[true, true, true, true, false, false] rfl rfl (by kernel_rfl) (by decide) (fun K hK => ?_)
          have hs73 := cz0 BK220
          have hfs73 := blk_frozen BK220.out 0
          have hns73_1 := NB221_220.out
          have hns73_2 := NB222_220.out
          have hns73_3 := NB227_220.out
          have hms73_1 := NB220_221.out
          have hms73_2 := NB220_222.out
          have hms73_3 := NB220_227.out
          have hs74 := cz1 BK220
          have hfs74 := blk_frozen BK220.out 1
          have hns74_1 := NB221_220.out
          have hns74_2 := NB222_220.out
          have hns74_3 := NB227_220.out
          have hms74_1 := NB220_221.out
          have hms74_2 := NB220_222.out
          have hms74_3 := NB220_227.out
          have hs75 := cz2 BK220
          have hfs75 := blk_frozen BK220.out 2
          have hns75_1 := NB221_220.out
          have hns75_2 := NB222_220.out
          have hns75_3 := NB227_220.out
          have hms75_1 := NB220_221.out
          have hms75_2 := NB220_222.out
          have hms75_3 := NB220_227.out
          have hs76 := cz3 BK220
          have hfs76 := blk_frozen BK220.out 3
          have hns76_1 := NB221_220.out
          have hns76_2 := NB222_220.out
          have hns76_3 := NB227_220.out
          have hms76_1 := NB220_221.out
          have hms76_2 := NB220_222.out
          have hms76_3 := NB220_227.out
          have hs77 := cz4 BK220
          have hfs77 := blk_frozen BK220.out 4
          have hns77_1 := NB221_220.out
          have hns77_2 := NB222_220.out
          have hns77_3 := NB227_220.out
          have hms77_1 := NB220_221.out
          have hms77_2 := NB220_222.out
          have hms77_3 := NB220_227.out
          have hs79 := cz5 BK220
          have hfs79 := blk_frozen BK220.out 5
          have hns79_1 := NB221_220.out
          have hns79_2 := NB222_220.out
          have hns79_3 := NB227_220.out
          have hms79_1 := NB220_221.out
          have hms79_2 := NB220_222.out
          have hms79_3 := NB220_227.out
          have hs80 := cz6 BK220
          have hfs80 := blk_frozen BK220.out 6
          have hns80_1 := NB221_220.out
          have hns80_2 := NB222_220.out
          have hns80_3 := NB227_220.out
          have hms80_1 := NB220_221.out
          have hms80_2 := NB220_222.out
          have hms80_3 := NB220_227.out
          refine skip_ (w1 := ?_) (by rfl) rfl ?_ ?_
          rotate_left
          ·go_simp
           rfl
          refine hK.out _ _ ⟨((cell_far (p := ⟨gb220, _, none⟩) NB221_220.out _).trans (((cell_far (p := ⟨gb220, _, none⟩) NB221_220.out _).trans (((cell_far (p := ⟨gb220, _, none⟩) NB221_220.out _).trans (((cell_far (p := ⟨gb220, _, none⟩) NB221_220.out _).trans (((cell_far (p := ⟨gb220, _, none⟩) NB221_220.out _).trans (((cell_far (p := ⟨gb220, _, none⟩) NB221_220.out _).trans (((cell_far (p := ⟨gb220, _, none⟩) NB221_220.out _).trans (hHeld.1)))))))))))))), ((cell_far (p := ⟨gb220, _, none⟩) NB221_220.out _).trans (((cell_far (p := ⟨gb220, _, none⟩) NB221_220.out _).trans (((cell_far (p := ⟨gb220, _, none⟩) NB221_220.out _).trans (((cell_far (p := ⟨gb220, _, none⟩) NB221_220.out _).trans (((cell_far (p := ⟨gb220, _, none⟩) NB221_220.out _).trans (((cell_far (p := ⟨gb220, _, none⟩) NB221_220.out _).trans (((cell_far (p := ⟨gb220, _, none⟩) NB221_220.out _).trans (hHeld.2.1)))))))))))))), ((cell_far (p := ⟨gb220, _, none⟩) NB221_220.out _).trans (((cell_far (p := ⟨gb220, _, none⟩) NB221_220.out _).trans (((cell_far (p := ⟨gb220, _, none⟩) NB221_220.out _).trans (((cell_far (p := ⟨gb220, _, none⟩) NB221_220.out _).trans (((cell_far (p := ⟨gb220, _, none⟩) NB221_220.out _).trans (((cell_far (p := ⟨gb220, _, none⟩) NB221_220.out _).trans (((cell_far (p := ⟨gb220, _, none⟩) NB221_220.out _).trans (hHeld.2.2.1)))))))))))))), ((cell_far (p := ⟨gb220, _, none⟩) NB221_220.out _).trans (((cell_far (p := ⟨gb220, _, none⟩) NB221_220.out _).trans (((cell_far (p := ⟨gb220, _, none⟩) NB221_220.out _).trans (((cell_far (p := ⟨gb220, _, none⟩) NB221_220.out _).trans (((cell_far (p := ⟨gb220, _, none⟩) NB221_220.out _).trans (((cell_far (p := ⟨gb220, _, none⟩) NB221_220.out _).trans (((cell_far (p := ⟨gb220, _, none⟩) NB221_220.out _).trans (hHeld.2.2.2.1)))))))))))))), ((cell_far (p := ⟨gb220, _, none⟩) NB221_220.out _).trans (((cell_far (p := ⟨gb220, _, none⟩) NB221_220.out _).trans (((cell_far (p := ⟨gb220, _, none⟩) NB221_220.out _).trans (((cell_far (p := ⟨gb220, _, none⟩) NB221_220.out _).trans (((cell_far (p := ⟨gb220, _, none⟩) NB221_220.out _).trans (((cell_far (p := ⟨gb220, _, none⟩) NB221_220.out _).trans (((cell_far (p := ⟨gb220, _, none⟩) NB221_220.out _).trans (hHeld.2.2.2.2.1)))))))))))))), ((cell_far (p := ⟨gb220, _, none⟩) NB221_220.out _).trans (((cell_far (p := ⟨gb220, _, none⟩) NB221_220.out _).trans (((cell_far (p := ⟨gb220, _, none⟩) NB221_220.out _).trans (((cell_far (p := ⟨gb220, _, none⟩) NB221_220.out _).trans (((cell_far (p := ⟨gb220, _, none⟩) NB221_220.out _).trans (((cell_far (p := ⟨gb220, _, none⟩) NB221_220.out _).trans (((cell_far (p := ⟨gb220, _, none⟩) NB221_220.out _).trans (hHeld.2.2.2.2.2.1)))))))))))))), ((cell_far (p := ⟨gb220, _, none⟩) NB221_220.out _).trans (((cell_far (p := ⟨gb220, _, none⟩) NB221_220.out _).trans (((cell_far (p := ⟨gb220, _, none⟩) NB221_220.out _).trans (((cell_far (p := ⟨gb220, _, none⟩) NB221_220.out _).trans (((cell_far (p := ⟨gb220, _, none⟩) NB221_220.out _).trans (((cell_far (p := ⟨gb220, _, none⟩) NB221_220.out _).trans (((cell_far (p := ⟨gb220, _, none⟩) NB221_220.out _).trans (hHeld.2.2.2.2.2.2.1)))))))))))))), ((cell_far (p := ⟨gb220, _, none⟩) NB222_220.out _).trans (((cell_far (p := ⟨gb220, _, none⟩) NB222_220.out _).trans (((cell_far (p := ⟨gb220, _, none⟩) NB222_220.out _).trans (((cell_far (p := ⟨gb220, _, none⟩) NB222_220.out _).trans (((cell_far (p := ⟨gb220, _, none⟩) NB222_220.out _).trans (((cell_far (p := ⟨gb220, _, none⟩) NB222_220.out _).trans (((cell_far (p := ⟨gb220, _, none⟩) NB222_220.out _).trans (hHeld.2.2.2.2.2.2.2.1)))))))))))))), ((cell_far (p := ⟨gb220, _, none⟩) NB222_220.out _).trans (((cell_far (p := ⟨gb220, _, none⟩) NB222_220.out _).trans (((cell_far (p := ⟨gb220, _, none⟩) NB222_220.out _).trans (((cell_far (p := ⟨gb220, _, none⟩) NB222_220.out _).trans (((cell_far (p := ⟨gb220, _, none⟩) NB222_220.out _).trans (((cell_far (p := ⟨gb220, _, none⟩) NB222_220.out _).trans (((cell_far (p := ⟨gb220, _, none⟩) NB222_220.out _).trans (hHeld.2.2.2.2.2.2.2.2))))))))))))))⟩ (fun hHeld => ?_)
          clear hK K
          refine pureK 4 (some 5) ?_
          refine pureK 5 (some 6) ?_
          refine done_ (by kernel_rfl) ?_
          try go_wp2
          refine rcttA gb220 24 #[.string x222000_1, .string x222001_1, .int .i64 x222002_1, .string x222003_1, .bool x222004_1, .slice Ao78 x222005_1.length co78, .string x222006_1] Tryz.underlying24 ?_
          exact ⟨_, gq2, by (with_reducible repeat (first | apply Kd.R_alloc | apply Kd.R_drewN | apply Kd.R_drew)); exact Kd.R_mono (Kd.R_far (p := ⟨gb220, 6, none⟩) (Kd.R_far (p := ⟨gb220, 5, none⟩) (Kd.R_far (p := ⟨gb220, 4, none⟩) (Kd.R_far (p := ⟨gb220, 3, none⟩) (Kd.R_far (p := ⟨gb220, 2, none⟩) (Kd.R_far (p := ⟨gb220, 1, none⟩) (Kd.R_far (p := ⟨gb220, 0, none⟩) (Kd.R_types HO_222005.out BK220.out (by decide)) (fun _ hk => hk.2) (.string x222000_1)) (fun _ hk => hk.2) (.string x222001_1)) (fun _ hk => hk.2) (.int .i64 x222002_1)) (fun _ hk => hk.2) (.string x222003_1)) (fun _ hk => hk.2) (.bool x222004_1)) (fun _ hk => hk.2) (.slice Ao78 x222005_1.length co78)) (fun _ hk => hk.2) (.string x222006_1)) (fun _ hk => trivial), gBe⟩
         ·rw [if_neg c71] at H
          have c71b0 : (t223.toList == ([] : List UInt8)) = false := beq_eq_false_iff_ne.mpr c71
          have c71b1 : (t223.toList != ([] : List UInt8)) = true := bne_iff_ne.mpr c71
          by_cases c81 : (x222005_1.length : Int) = 20
          ·rw [if_pos c81] at H
           have c81b0 : ((x222005_1.length : Int) == 20) = true := beq_iff_eq.mpr c81
           have c81b1 : ((x222005_1.length : Int) != 20) = false := bne_eq_false_iff_eq.mpr c81
           clear c81
           simp only [Option.some.injEq, Prod.mk.injEq] at H
           obtain ⟨rfl, rfl, rfl, rfl, rfl, rfl, rfl, rfl, rfl⟩ := H
           have hnb82 := NB221_220.out
           have hnc82 := NB220_221.out
           have hnb83 := NB221_222.out
           have hnc83 := NB222_221.out
           have hnb84 := NB221_227.out
           have hnc84 := NB227_221.out
           have hcz85_0 := cz0 BK221
           have hcz85_1 := cz1 BK221
           have hcz85_2 := cz2 BK221
           have hcz85_3 := cz3 BK221
           have hcz85_4 := cz4 BK221
           have hcz85_5 := cz5 BK221
           have hcz85_6 := cz6 BK221
           have hfz85_0 := blk_frozen BK221.out 0
           have hfz85_1 := blk_frozen BK221.out 1
           have hfz85_2 := blk_frozen BK221.out 2
           have hfz85_3 := blk_frozen BK221.out 3
           have hfz85_4 := blk_frozen BK221.out 4
           have hfz85_5 := blk_frozen BK221.out 5
           have hfz85_6 := blk_frozen BK221.out 6
           obtain ⟨Ao86, co86, eo86⟩ := Kd.R_slice HO_222005.out
           subst eo86
           have hnb87 := NB220_222.out
           have hnc87 := NB222_220.out
           have hnb88 := NB220_227.out
           have hnc88 := NB227_220.out
           have hcz89_0 := cz0 BK220
           have hcz89_1 := cz1 BK220
           have hcz89_2 := cz2 BK220
           have hcz89_3 := cz3 BK220
           have hcz89_4 := cz4 BK220
           have hcz89_5 := cz5 BK220
           have hcz89_6 := cz6 BK220
           have hfz89_0 := blk_frozen BK220.out 0
           have hfz89_1 := blk_frozen BK220.out 1
           have hfz89_2 := blk_frozen BK220.out 2
           have hfz89_3 := blk_frozen BK220.out 3
           have hfz89_4 := blk_frozen BK220.out 4
           have hfz89_5 := blk_frozen BK220.out 5
           have hfz89_6 := blk_frozen BK220.out 6
           go_wp2
           refine rcttA gb220 24 #[.string (⟨#[]⟩ : ByteArray), .string (⟨#[]⟩ : ByteArray), .int .i64 0, .string (⟨#[]⟩ : ByteArray), .bool false, .slice none 0 0, .string (⟨#[]⟩ : ByteArray)] Tryz.underlying24 ?_
           exact ⟨_, gq2, gq6, gBe⟩
          ·rw [if_neg c81] at H
           have c81b0 : ((x222005_1.length : Int) == 20) = false := beq_eq_false_iff_ne.mpr c81
           have c81b1 : ((x222005_1.length : Int) != 20) = true := bne_iff_ne.mpr c81
           replace H := Option.bind_eq_some_iff.mp H
           obtain ⟨⟨t248, t249, t250⟩, A900, H⟩ := H
           replace H : (if t250 = true then (if x222005_1.length < 4398046511104 then (spec_ReadHead.l0 kj13 a1 false x222000_1 x222001_1 x222002_1 x222003_1 x222004_1 (x222005_1 ++ [(⟨t248, t249⟩ : S41)]) x222006_1 t224 t225) else (none)) else (some ((⟨#[]⟩ : ByteArray), (⟨#[]⟩ : ByteArray), 0, (⟨#[]⟩ : ByteArray), false, ([] : List (S41)), (⟨#[]⟩ : ByteArray), 0, 400))) = some (r1, r2, r3, r4, r5, r6, r7, r8, r9) := H
           have A90 := Aside0.mk A900
           clear A900
           by_cases c91 : t250 = true
           ·subst c91
            have H1 : (if x222005_1.length < 4398046511104 then (spec_ReadHead.l0 kj13 a1 false x222000_1 x222001_1 x222002_1 x222003_1 x222004_1 (x222005_1 ++ [(⟨t248, t249⟩ : S41)]) x222006_1 t224 t225) else (none)) = some (r1, r2, r3, r4, r5, r6, r7, r8, r9) := by rw [if_pos rfl] at H; exact H
            clear H
            have H := H1
            clear H1
            by_cases c92 : x222005_1.length < 4398046511104
            ·rw [if_pos c92] at H
             have LMc92 := Aside0.mk c92
             clear c92
             obtain ⟨y252, hy252⟩ : ∃ y_ : List (S41), y_ = (x222005_1 ++ [(⟨t248, t249⟩ : S41)]) := ⟨_, rfl⟩
             replace H : (spec_ReadHead.l0 kj13 a1 false x222000_1 x222001_1 x222002_1 x222003_1 x222004_1 y252 x222006_1 t224 t225) = some (r1, r2, r3, r4, r5, r6, r7, r8, r9) := by first | (rw [hy252]; with_reducible exact H) | (have H2_ := (Option.bind_some _ _).symm.trans H; rw [hy252]; with_reducible exact H2_) | (have H2_ := (Option.bind_some _ _).symm.trans H; with_reducible exact H2_) | with_reducible exact H | (rw [hy252]; exact H) | exact H
             have Ny252 := Aside0.mk hy252
             clear hy252
             have H' := Aside0.mk H
             clear H
             have hnb93 := NB221_220.out
             have hnc93 := NB220_221.out
             have hnb94 := NB221_222.out
             have hnc94 := NB222_221.out
             have hnb95 := NB221_227.out
             have hnc95 := NB227_221.out
             have hcz96_0 := cz0 BK221
             have hcz96_1 := cz1 BK221
             have hcz96_2 := cz2 BK221
             have hcz96_3 := cz3 BK221
             have hcz96_4 := cz4 BK221
             have hcz96_5 := cz5 BK221
             have hcz96_6 := cz6 BK221
             have hfz96_0 := blk_frozen BK221.out 0
             have hfz96_1 := blk_frozen BK221.out 1
             have hfz96_2 := blk_frozen BK221.out 2
             have hfz96_3 := blk_frozen BK221.out 3
             have hfz96_4 := blk_frozen BK221.out 4
             have hfz96_5 := blk_frozen BK221.out 5
             have hfz96_6 := blk_frozen BK221.out 6
             obtain ⟨Ao97, co97, eo97⟩ := Kd.R_slice HO_222005.out
             subst eo97
             go_wp2_with (first | ((with_reducible refine gate_callee (f := 18) rfl ?_); refine goesL_ (some 68) rfl rfl Tryz.func18 (by kernel_rfl) rfl #[.string t223] rfl gq1 ?_; (with_reducible refine (spec_ReadField.calls kj13 t223 t248 t249 true _ A90.out).mono ?_); rintro e w98 ⟨rfl, hb⟩; refine ⟨_, rfl, ?_⟩; replace HO_222005 := Aside0.mk (Kd.R_below gq13 hb); replace BK220 := blA (g := gb220) hb; replace BK221 := blA (g := gb221) hb; replace BK222 := blA (g := gb222) hb; replace BK227 := blA (g := gb227) hb; replace HB := beA hb; (try clear hb); (try clear hb2); (try clear hk); (try clear hi)) | ((with_reducible refine gate_dst (N := 14) rfl ?_); refine boxA #[.string (⟨#[]⟩ : ByteArray), .string (⟨#[]⟩ : ByteArray)] 41 ?_; intro gb251 hg w99 hbox hb; have BK251 := Aside0.mk (hbox); have GW251 := geA hg; have GE251 := geA hg; have NB220_251 := neA (g := gb220) hg; have NB251_220 := neB NB220_251; have NB221_251 := neA (g := gb221) hg; have NB251_221 := neB NB221_251; have NB222_251 := neA (g := gb222) hg; have NB251_222 := neB NB222_251; have NB227_251 := neA (g := gb227) hg; have NB251_227 := neB NB227_251; replace HO_222005 := Aside0.mk (Kd.R_below (Kd.R_elderB gq13 gb251 (Nat.le_of_eq hg.symm)) hb); replace BK220 := blA (g := gb220) hb; replace BK221 := blA (g := gb221) hb; replace BK222 := blA (g := gb222) hb; replace BK227 := blA (g := gb227) hb; replace HB := beA hb; clear hb hbox hg; have hnb100 := NB251_220.out; have hnc100 := NB220_251.out; have hnb101 := NB251_221.out; have hnc101 := NB221_251.out; have hnb102 := NB251_222.out; have hnc102 := NB222_251.out; have hnb103 := NB251_227.out; have hnc103 := NB227_251.out; have hcz104_0 := cz0 BK251; have hcz104_1 := cz1 BK251; have hfz104_0 := blk_frozen BK251.out 0; have hfz104_1 := blk_frozen BK251.out 1; have hcz105_0 := cz0 BK221; have hcz105_1 := cz1 BK221; have hcz105_2 := cz2 BK221; have hcz105_3 := cz3 BK221; have hcz105_4 := cz4 BK221; have hcz105_5 := cz5 BK221; have hcz105_6 := cz6 BK221; have hfz105_0 := blk_frozen BK221.out 0; have hfz105_1 := blk_frozen BK221.out 1; have hfz105_2 := blk_frozen BK221.out 2; have hfz105_3 := blk_frozen BK221.out 3; have hfz105_4 := blk_frozen BK221.out 4; have hfz105_5 := blk_frozen BK221.out 5; have hfz105_6 := blk_frozen BK221.out 6) | ((with_reducible refine gate_builtin (b := .append) (xs := #[.tmp 75, .tmp 77]) rfl ?_); at_builtin; refine Kd.R_append k41 (w0 := w) w.heap.size rfl (.tmp 75) (.tmp 77) 22 41 (.agg #[(.string ⟨#[]⟩), (.string ⟨#[]⟩)]) 32 rfl Tryz.underlying22 info41 rfl (by decide) (by omega) (.slice Ao97 x222005_1.length co97) x222005_1 (⟨t248, t249⟩ : S41) [.string t248, .string t249] (fun k_ => k_ ≠ gb251) (fun _ => False) rfl (by first | (go_simp; done) | (go_simp; rfl)) ?aP (fun _ hk => hk.elim) ?aF ?aO ?aB ?aS ?aL ?_; (case aP => exact k41_mkM _ _ _ (⟨t248, t249⟩ : S41)); (case aB => exact gBe); (case aF => exact (fun k_ hk => Kd.freshB (g := gb251) (o := .cells #[.string t248, .string t249] 41 (0, 0)) (by (with_reducible repeat (first | refine blk_drewN ?_ _ | refine blk_drew ?_ | refine blk_alloc ?_ _)); refine blk_put (cs := #[.string t248, .string (⟨#[]⟩ : ByteArray)]) ?_ 1 _ rfl; (with_reducible repeat (first | refine blk_drewN ?_ _ | refine blk_drew ?_ | refine blk_alloc ?_ _)); refine blk_put (cs := #[.string (⟨#[]⟩ : ByteArray), .string (⟨#[]⟩ : ByteArray)]) ?_ 0 _ rfl; (with_reducible repeat (first | refine blk_drewN ?_ _ | refine blk_drew ?_ | refine blk_alloc ?_ _)); exact BK251.out) k_ hk)); (case aO => exact (by (with_reducible repeat (first | apply Kd.R_alloc | apply Kd.R_drewN | apply Kd.R_drew)); exact Kd.R_mono (Kd.R_far (p := ⟨gb251, 1, none⟩) (Kd.R_far (p := ⟨gb251, 0, none⟩) (Kd.R_mono HO_222005.out (fun k_ hk => (⟨hk, hk.2⟩ : _ ∧ k_ ≠ gb251))) (fun _ hk => hk.2) (.string t248)) (fun _ hk => hk.2) (.string t249)) (fun _ hk => hk.1.2))); (case aS => exact (below_size gBe)); (case aL => have := LMc92.out; omega); intro v253 w106 ho hb hg hat; rw [← Ny252.out] at ho; have n0_ := Aside0.mk (blk_grown (g := gb220) (o := .cells #[.string x221000_1, .string x221001_1, .int .i64 x221002_1, .string x221003_1, .bool x221004_1, .slice none 0 0, .string x221006_1] 24 (0, 0)) (by (with_reducible repeat (first | refine blk_drewN ?_ _ | refine blk_drew ?_ | refine blk_alloc ?_ _)); refine blk_far ?_ NB220_251.out _; (with_reducible repeat (first | refine blk_drewN ?_ _ | refine blk_drew ?_ | refine blk_alloc ?_ _)); refine blk_far ?_ NB220_251.out _; (with_reducible repeat (first | refine blk_drewN ?_ _ | refine blk_drew ?_ | refine blk_alloc ?_ _)); exact BK220.out) hg (Kd.R_ne HO_222005.out BK220.out (by decide))); have n1_ := Aside0.mk (blk_grown (g := gb221) (o := .cells #[.string x222000_1, .string x222001_1, .int .i64 x222002_1, .string x222003_1, .bool x222004_1, .slice Ao97 x222005_1.length co97, .string x222006_1] 24 (0, 0)) (by (with_reducible repeat (first | refine blk_drewN ?_ _ | refine blk_drew ?_ | refine blk_alloc ?_ _)); refine blk_far ?_ NB221_251.out _; (with_reducible repeat (first | refine blk_drewN ?_ _ | refine blk_drew ?_ | refine blk_alloc ?_ _)); refine blk_far ?_ NB221_251.out _; (with_reducible repeat (first | refine blk_drewN ?_ _ | refine blk_drew ?_ | refine blk_alloc ?_ _)); exact BK221.out) hg (Kd.R_ne HO_222005.out BK221.out (by decide))); have n2_ := Aside0.mk (blk_grown (g := gb222) (o := .cells #[.string t224, .int .i64 t225] 35 (0, 0)) (by (with_reducible repeat (first | refine blk_drewN ?_ _ | refine blk_drew ?_ | refine blk_alloc ?_ _)); refine blk_far ?_ NB222_251.out _; (with_reducible repeat (first | refine blk_drewN ?_ _ | refine blk_drew ?_ | refine blk_alloc ?_ _)); refine blk_far ?_ NB222_251.out _; (with_reducible repeat (first | refine blk_drewN ?_ _ | refine blk_drew ?_ | refine blk_alloc ?_ _)); exact BK222.out) hg (Kd.R_ne HO_222005.out BK222.out (by decide))); have n3_ := Aside0.mk (blk_grown (g := gb227) (o := .cells #[.string t224, .int .i64 t225] 35 (0, 0)) (by (with_reducible repeat (first | refine blk_drewN ?_ _ | refine blk_drew ?_ | refine blk_alloc ?_ _)); refine blk_far ?_ NB227_251.out _; (with_reducible repeat (first | refine blk_drewN ?_ _ | refine blk_drew ?_ | refine blk_alloc ?_ _)); refine blk_far ?_ NB227_251.out _; (with_reducible repeat (first | refine blk_drewN ?_ _ | refine blk_drew ?_ | refine blk_alloc ?_ _)); exact BK227.out) hg (Kd.R_ne HO_222005.out BK227.out (by decide))); have n4_ := Aside0.mk (blk_grown (g := gb251) (o := .cells #[.string t248, .string t249] 41 (0, 0)) (by (with_reducible repeat (first | refine blk_drewN ?_ _ | refine blk_drew ?_ | refine blk_alloc ?_ _)); refine blk_put (cs := #[.string t248, .string (⟨#[]⟩ : ByteArray)]) ?_ 1 _ rfl; (with_reducible repeat (first | refine blk_drewN ?_ _ | refine blk_drew ?_ | refine blk_alloc ?_ _)); refine blk_put (cs := #[.string (⟨#[]⟩ : ByteArray), .string (⟨#[]⟩ : ByteArray)]) ?_ 0 _ rfl; (with_reducible repeat (first | refine blk_drewN ?_ _ | refine blk_drew ?_ | refine blk_alloc ?_ _)); exact BK251.out) hg (Kd.R_away HO_222005.out (fun _ hk => hk.2))); have n5_ := Aside0.mk (hb); have n6_ := Aside0.mk (ho); clear BK220; clear BK221; clear BK222; clear BK227; clear BK251; clear HB; clear HO_222005; have BK220 := n0_; have BK221 := n1_; have BK222 := n2_; have BK227 := n3_; have BK251 := n4_; have HB := n5_; have HO254 := n6_; clear n0_ n1_ n2_ n3_ n4_ n5_ n6_; clear ho hb hg hat; obtain ⟨Ao107, co107, eo107⟩ := Kd.R_slice HO254.out; subst eo107; have hcz108_0 := cz0 BK221; have hcz108_1 := cz1 BK221; have hcz108_2 := cz2 BK221; have hcz108_3 := cz3 BK221; have hcz108_4 := cz4 BK221; have hcz108_5 := cz5 BK221; have hcz108_6 := cz6 BK221; have hfz108_0 := blk_frozen BK221.out 0; have hfz108_1 := blk_frozen BK221.out 1; have hfz108_2 := blk_frozen BK221.out 2; have hfz108_3 := blk_frozen BK221.out 3; have hfz108_4 := blk_frozen BK221.out 4; have hfz108_5 := blk_frozen BK221.out 5; have hfz108_6 := blk_frozen BK221.out 6))
             go_roundg kj13
             case measure => have := HK1.out; have := HJ13.out; omega
             case rel => exact ⟨(false), (x221000_1), (x221001_1), (x221002_1), (x221003_1), (x221004_1), (x221006_1), (x222000_1), (x222001_1), (x222002_1), (x222003_1), (x222004_1), (y252), (x222006_1), (t224), (t225), (.slice Ao107 y252.length co107), gq4, H', ⟨by have := HK1.out; have := HJ13.out; omega⟩, ⟨by (with_reducible repeat (first | apply Kd.R_alloc | apply Kd.R_drewN | apply Kd.R_drew)); exact Kd.R_mono (Kd.R_far (p := ⟨gb221, 5, none⟩) (Kd.R_types HO254.out BK221.out (by decide)) (fun _ hk => hk.2) (.slice Ao107 y252.length co107)) (fun _ hk => trivial)⟩, ⟨gBk⟩, ⟨gBk⟩, ⟨gBk⟩, ⟨gBe⟩⟩
            ·rw [if_neg c92] at H
             exact absurd H (by simp)
           ·replace c91 := Bool.eq_false_iff.mpr c91
            subst c91
            have H1 : (some ((⟨#[]⟩ : ByteArray), (⟨#[]⟩ : ByteArray), 0, (⟨#[]⟩ : ByteArray), false, ([] : List (S41)), (⟨#[]⟩ : ByteArray), 0, 400)) = some (r1, r2, r3, r4, r5, r6, r7, r8, r9) := by rw [if_neg (show ¬ (false = true) by decide)] at H; exact H
            clear H
            have H := H1
            clear H1
            simp only [Option.some.injEq, Prod.mk.injEq] at H
            obtain ⟨rfl, rfl, rfl, rfl, rfl, rfl, rfl, rfl, rfl⟩ := H
            have hnb109 := NB221_220.out
            have hnc109 := NB220_221.out
            have hnb110 := NB221_222.out
            have hnc110 := NB222_221.out
            have hnb111 := NB221_227.out
            have hnc111 := NB227_221.out
            have hcz112_0 := cz0 BK221
            have hcz112_1 := cz1 BK221
            have hcz112_2 := cz2 BK221
            have hcz112_3 := cz3 BK221
            have hcz112_4 := cz4 BK221
            have hcz112_5 := cz5 BK221
            have hcz112_6 := cz6 BK221
            have hfz112_0 := blk_frozen BK221.out 0
            have hfz112_1 := blk_frozen BK221.out 1
            have hfz112_2 := blk_frozen BK221.out 2
            have hfz112_3 := blk_frozen BK221.out 3
            have hfz112_4 := blk_frozen BK221.out 4
            have hfz112_5 := blk_frozen BK221.out 5
            have hfz112_6 := blk_frozen BK221.out 6
            obtain ⟨Ao113, co113, eo113⟩ := Kd.R_slice HO_222005.out
            subst eo113
            go_wp2_with (first | ((with_reducible refine gate_callee (f := 18) rfl ?_); refine goesL_ (some 68) rfl rfl Tryz.func18 (by kernel_rfl) rfl #[.string t223] rfl gq1 ?_; (with_reducible refine (spec_ReadField.calls kj13 t223 t248 t249 false _ A90.out).mono ?_); rintro e w114 ⟨rfl, hb⟩; refine ⟨_, rfl, ?_⟩; replace HO_222005 := Aside0.mk (Kd.R_below gq13 hb); replace BK220 := blA (g := gb220) hb; replace BK221 := blA (g := gb221) hb; replace BK222 := blA (g := gb222) hb; replace BK227 := blA (g := gb227) hb; replace HB := beA hb; (try clear hb); (try clear hb2); (try clear hk); (try clear hi)) | ((with_reducible refine gate_dst (N := 14) rfl ?_); refine boxA #[.string (⟨#[]⟩ : ByteArray), .string (⟨#[]⟩ : ByteArray)] 41 ?_; intro gb251 hg w115 hbox hb; have BK251 := Aside0.mk (hbox); have GW251 := geA hg; have GE251 := geA hg; have NB220_251 := neA (g := gb220) hg; have NB251_220 := neB NB220_251; have NB221_251 := neA (g := gb221) hg; have NB251_221 := neB NB221_251; have NB222_251 := neA (g := gb222) hg; have NB251_222 := neB NB222_251; have NB227_251 := neA (g := gb227) hg; have NB251_227 := neB NB227_251; replace HO_222005 := Aside0.mk (Kd.R_below (Kd.R_elderB gq13 gb251 (Nat.le_of_eq hg.symm)) hb); replace BK220 := blA (g := gb220) hb; replace BK221 := blA (g := gb221) hb; replace BK222 := blA (g := gb222) hb; replace BK227 := blA (g := gb227) hb; replace HB := beA hb; clear hb hbox hg; have hnb116 := NB251_220.out; have hnc116 := NB220_251.out; have hnb117 := NB251_221.out; have hnc117 := NB221_251.out; have hnb118 := NB251_222.out; have hnc118 := NB222_251.out; have hnb119 := NB251_227.out; have hnc119 := NB227_251.out; have hcz120_0 := cz0 BK251; have hcz120_1 := cz1 BK251; have hfz120_0 := blk_frozen BK251.out 0; have hfz120_1 := blk_frozen BK251.out 1; have hnb121 := NB220_222.out; have hnc121 := NB222_220.out; have hnb122 := NB220_227.out; have hnc122 := NB227_220.out; have hcz123_0 := cz0 BK220; have hcz123_1 := cz1 BK220; have hcz123_2 := cz2 BK220; have hcz123_3 := cz3 BK220; have hcz123_4 := cz4 BK220; have hcz123_5 := cz5 BK220; have hcz123_6 := cz6 BK220; have hfz123_0 := blk_frozen BK220.out 0; have hfz123_1 := blk_frozen BK220.out 1; have hfz123_2 := blk_frozen BK220.out 2; have hfz123_3 := blk_frozen BK220.out 3; have hfz123_4 := blk_frozen BK220.out 4; have hfz123_5 := blk_frozen BK220.out 5; have hfz123_6 := blk_frozen BK220.out 6))
            refine rcttA gb220 24 #[.string (⟨#[]⟩ : ByteArray), .string (⟨#[]⟩ : ByteArray), .int .i64 0, .string (⟨#[]⟩ : ByteArray), .bool false, .slice none 0 0, .string (⟨#[]⟩ : ByteArray)] Tryz.underlying24 ?_
            exact ⟨_, gq2, gq6, gBe⟩
    ·rw [if_neg c13] at H
     have c13b0 : (t226 == 0) = false := beq_eq_false_iff_ne.mpr c13
     have c13b1 : (t226 != 0) = true := bne_iff_ne.mpr c13
     simp only [Option.some.injEq, Prod.mk.injEq] at H
     obtain ⟨rfl, rfl, rfl, rfl, rfl, rfl, rfl, rfl, rfl⟩ := H
     have hnb124 := NB222_220.out
     have hnc124 := NB220_222.out
     have hnb125 := NB222_221.out
     have hnc125 := NB221_222.out
     have hcz126_0 := cz0 BK222
     have hcz126_1 := cz1 BK222
     have hfz126_0 := blk_frozen BK222.out 0
     have hfz126_1 := blk_frozen BK222.out 1
     go_wp2_with (first | ((with_reducible refine gate_callee (f := 15) rfl ?_); refine goesL_ (some 24) rfl rfl Tryz.func15 (by kernel_rfl) rfl #[.agg #[.string x223000_1, .int .i64 x223001_1]] rfl gq1 ?_; (with_reducible refine (spec_TakeLine.calls k1 x223000_1 x223001_1 t223 t224 t225 t226 _ A12.out).mono ?_); rintro e w127 ⟨rfl, hb⟩; refine ⟨_, rfl, ?_⟩; replace HO_222005 := Aside0.mk (Kd.R_below gq13 hb); replace BK220 := blA (g := gb220) hb; replace BK221 := blA (g := gb221) hb; replace BK222 := blA (g := gb222) hb; replace HB := beA hb; (try clear hb); (try clear hb2); (try clear hk); (try clear hi)) | ((with_reducible refine gate_dst (N := 11) rfl ?_); refine boxA #[.string (⟨#[]⟩ : ByteArray), .int .i64 0] 35 ?_; intro gb227 hg w128 hbox hb; have BK227 := Aside0.mk (hbox); have GW227 := geA hg; have GE227 := geA hg; have NB220_227 := neA (g := gb220) hg; have NB227_220 := neB NB220_227; have NB221_227 := neA (g := gb221) hg; have NB227_221 := neB NB221_227; have NB222_227 := neA (g := gb222) hg; have NB227_222 := neB NB222_227; replace HO_222005 := Aside0.mk (Kd.R_below gq13 hb); replace BK220 := blA (g := gb220) hb; replace BK221 := blA (g := gb221) hb; replace BK222 := blA (g := gb222) hb; replace HB := beA hb; clear hb hbox hg; have hnb129 := NB227_220.out; have hnc129 := NB220_227.out; have hnb130 := NB227_221.out; have hnc130 := NB221_227.out; have hnb131 := NB227_222.out; have hnc131 := NB222_227.out; have hcz132_0 := cz0 BK227; have hcz132_1 := cz1 BK227; have hfz132_0 := blk_frozen BK227.out 0; have hfz132_1 := blk_frozen BK227.out 1; have hnb133 := NB220_221.out; have hnc133 := NB221_220.out; have hcz134_0 := cz0 BK220; have hcz134_1 := cz1 BK220; have hcz134_2 := cz2 BK220; have hcz134_3 := cz3 BK220; have hcz134_4 := cz4 BK220; have hcz134_5 := cz5 BK220; have hcz134_6 := cz6 BK220; have hfz134_0 := blk_frozen BK220.out 0; have hfz134_1 := blk_frozen BK220.out 1; have hfz134_2 := blk_frozen BK220.out 2; have hfz134_3 := blk_frozen BK220.out 3; have hfz134_4 := blk_frozen BK220.out 4; have hfz134_5 := blk_frozen BK220.out 5; have hfz134_6 := blk_frozen BK220.out 6))
     refine rcttA gb220 24 #[.string (⟨#[]⟩ : ByteArray), .string (⟨#[]⟩ : ByteArray), .int .i64 0, .string (⟨#[]⟩ : ByteArray), .bool false, .slice none 0 0, .string (⟨#[]⟩ : ByteArray)] Tryz.underlying24 ?_
     exact ⟨_, gq2, gq6, gBe⟩

end Go.Proofs.YtonmpnghlopnoaaGreatDoor.P
