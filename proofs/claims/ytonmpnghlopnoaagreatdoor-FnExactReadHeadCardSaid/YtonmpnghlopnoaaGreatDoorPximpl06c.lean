-- Written by a program of ours (myprint.py, by way of the kit's print) out of Lean's print of the translation.
import Derived.Test.YtonmpnghlopnoaaGreatDoorPx0
import Derived.Test.YtonmpnghlopnoaaGreatDoorPximpl01b
import Derived.Test.YtonmpnghlopnoaaGreatDoorPximpl05b
import Derived.Test.YtonmpnghlopnoaaGreatDoorPximpl06b
import Derived.Test.YtonmpnghlopnoaaGreatDoorWC
namespace Go.Proofs.YtonmpnghlopnoaaGreatDoor.P
open Go.RowKit Go.Proofs.YtonmpnghlopnoaaGreatDoorW.PrintWords Go.Proofs.YtonmpnghlopnoaaGreatDoorW.PrintLast Go.Proofs.YtonmpnghlopnoaaGreatDoorW.PrintMore
attribute [local go_sem] max2_int min2_int max_two min_two max_three min_three max_four min_four   -- for this text's walks alone
set_option linter.unusedVariables false
set_option linter.unusedSimpArgs false

mutual
def impl_ReadHead.l0 : Nat → Bool → Bool → ByteArray → Int → ByteArray → ByteArray → Int → ByteArray → Bool → List (S41) → ByteArray → Option (ByteArray × ByteArray × Int × ByteArray × Bool × (List (S41)) × ByteArray × Int × Int)
 | 0, _, _, _, _, _, _, _, _, _, _, _ => none
 | k + 1, x1, x9, x443000, x443001, x444000, x444001, x444002, x444003, x444004, x444005, x444006 => (impl_TakeLine.f k x443000 x443001).bind fun bt444 => (if bt444.2.2.2 = 0 then (if (bt444.1.size : Int) > 300 then (impl_ReadHead.j1 k x1 x9 bt444.1 true bt444.2.1 bt444.2.2.1 x444000 x444001 x444002 x444003 x444004 x444005 x444006) else (impl_ReadHead.j1 k x1 x9 bt444.1 (decide (bt444.2.2.1 > 1500)) bt444.2.1 bt444.2.2.1 x444000 x444001 x444002 x444003 x444004 x444005 x444006)) else (some ((⟨#[]⟩ : ByteArray), (⟨#[]⟩ : ByteArray), 0, (⟨#[]⟩ : ByteArray), false, ([] : List (S41)), (⟨#[]⟩ : ByteArray), 0, 400)))
def impl_ReadHead.j1 : Nat → Bool → Bool → ByteArray → Bool → ByteArray → Int → ByteArray → ByteArray → Int → ByteArray → Bool → List (S41) → ByteArray → Option (ByteArray × ByteArray × Int × ByteArray × Bool × (List (S41)) × ByteArray × Int × Int)
 | 0, _, _, _, _, _, _, _, _, _, _, _, _, _ => none
 | k + 1, x1, x9, x10, x40, x443000, x443001, x444000, x444001, x444002, x444003, x444004, x444005, x444006 => if x40 = true then (some ((⟨#[]⟩ : ByteArray), (⟨#[]⟩ : ByteArray), 0, (⟨#[]⟩ : ByteArray), false, ([] : List (S41)), (⟨#[]⟩ : ByteArray), 0, 431)) else (if x9 = true then ((impl_readFirst.f k x10 x1).bind fun bt449 => (if bt449.2.2.2.2.2.2.2 = true then (impl_ReadHead.l0 k x1 false x443000 x443001 bt449.1 bt449.2.1 bt449.2.2.1 bt449.2.2.2.1 bt449.2.2.2.2.1 bt449.2.2.2.2.2.1 bt449.2.2.2.2.2.2.1) else (some ((⟨#[]⟩ : ByteArray), (⟨#[]⟩ : ByteArray), 0, (⟨#[]⟩ : ByteArray), false, ([] : List (S41)), (⟨#[]⟩ : ByteArray), 0, 400)))) else (if x10.toList = ([] : List UInt8) then (some (x444000, x444001, x444002, x444003, x444004, x444005, x444006, x443001, 0)) else (if (x444005.length : Int) = 20 then (some ((⟨#[]⟩ : ByteArray), (⟨#[]⟩ : ByteArray), 0, (⟨#[]⟩ : ByteArray), false, ([] : List (S41)), (⟨#[]⟩ : ByteArray), 0, 431)) else ((impl_ReadField.f k x10).bind fun bt460 => (if bt460.2.2 = true then (if x444005.length < 4398046511104 then (impl_ReadHead.l0 k x1 false x443000 x443001 x444000 x444001 x444002 x444003 x444004 (x444005 ++ [(⟨bt460.1, bt460.2.1⟩ : S41)]) x444006) else (none)) else (some ((⟨#[]⟩ : ByteArray), (⟨#[]⟩ : ByteArray), 0, (⟨#[]⟩ : ByteArray), false, ([] : List (S41)), (⟨#[]⟩ : ByteArray), 0, 400)))))))
end
def impl_ReadHead.f (k : Nat) (a0 : ByteArray) (a1 : Bool) : Option (ByteArray × ByteArray × Int × ByteArray × Bool × (List (S41)) × ByteArray × Int × Int) := if (a0.size : Int) > 4000 then (some ((⟨#[]⟩ : ByteArray), (⟨#[]⟩ : ByteArray), 0, (⟨#[]⟩ : ByteArray), false, ([] : List (S41)), (⟨#[]⟩ : ByteArray), 0, 413)) else (impl_ReadHead.l0 k a1 true a0 0 (⟨#[]⟩ : ByteArray) (⟨#[]⟩ : ByteArray) 0 (⟨#[]⟩ : ByteArray) false ([] : List (S41)) (⟨#[]⟩ : ByteArray))
theorem impl_ReadHead.mono_l : ∀ k, (∀ y0 y1 y2 y3 y4 y5 y6 y7 y8 y9 y10, LeO (impl_ReadHead.l0 k y0 y1 y2 y3 y4 y5 y6 y7 y8 y9 y10) (impl_ReadHead.l0 (k + 1) y0 y1 y2 y3 y4 y5 y6 y7 y8 y9 y10)) ∧ (∀ y0 y1 y2 y3 y4 y5 y6 y7 y8 y9 y10 y11 y12, LeO (impl_ReadHead.j1 k y0 y1 y2 y3 y4 y5 y6 y7 y8 y9 y10 y11 y12) (impl_ReadHead.j1 (k + 1) y0 y1 y2 y3 y4 y5 y6 y7 y8 y9 y10 y11 y12))
 | 0 => ⟨fun _ _ _ _ _ _ _ _ _ _ _ r h => by simp [impl_ReadHead.l0] at h, fun _ _ _ _ _ _ _ _ _ _ _ _ _ r h => by simp [impl_ReadHead.j1] at h⟩
 | k + 1 => by
  obtain ⟨ih0, ih1⟩ := impl_ReadHead.mono_l k
  refine ⟨?_, ?_⟩
  ·intro y0 y1 y2 y3 y4 y5 y6 y7 y8 y9 y10
   unfold impl_ReadHead.l0
   repeat' first
   | (with_reducible exact ih0 _ _ _ _ _ _ _ _ _ _ _)
   | (with_reducible exact ih1 _ _ _ _ _ _ _ _ _ _ _ _ _)
   | (with_reducible exact impl_ReadField.mono _ _)
   | (with_reducible exact impl_TakeLine.mono _ _ _)
   | (with_reducible exact impl_readFirst.mono _ _ _)
   | (with_reducible exact LeO.refl _)
   | (with_reducible exact LeO.none _)
   | (with_reducible refine LeO.ite ?_ ?_)
   | (with_reducible refine LeO.bind ?_ (fun _ => ?_))
   | exact ih0 _ _ _ _ _ _ _ _ _ _ _
   | exact ih1 _ _ _ _ _ _ _ _ _ _ _ _ _
   | exact impl_ReadField.mono _ _
   | exact impl_TakeLine.mono _ _ _
   | exact impl_readFirst.mono _ _ _
   | exact LeO.none _
   | refine LeO.ite ?_ ?_
   | refine LeO.bind ?_ (fun _ => ?_)
  ·intro y0 y1 y2 y3 y4 y5 y6 y7 y8 y9 y10 y11 y12
   unfold impl_ReadHead.j1
   repeat' first
   | (with_reducible exact ih0 _ _ _ _ _ _ _ _ _ _ _)
   | (with_reducible exact ih1 _ _ _ _ _ _ _ _ _ _ _ _ _)
   | (with_reducible exact impl_ReadField.mono _ _)
   | (with_reducible exact impl_TakeLine.mono _ _ _)
   | (with_reducible exact impl_readFirst.mono _ _ _)
   | (with_reducible exact LeO.refl _)
   | (with_reducible exact LeO.none _)
   | (with_reducible refine LeO.ite ?_ ?_)
   | (with_reducible refine LeO.bind ?_ (fun _ => ?_))
   | exact ih0 _ _ _ _ _ _ _ _ _ _ _
   | exact ih1 _ _ _ _ _ _ _ _ _ _ _ _ _
   | exact impl_ReadField.mono _ _
   | exact impl_TakeLine.mono _ _ _
   | exact impl_readFirst.mono _ _ _
   | exact LeO.none _
   | refine LeO.ite ?_ ?_
   | refine LeO.bind ?_ (fun _ => ?_)
theorem impl_ReadHead.mono : ∀ a0 a1 k, LeO (impl_ReadHead.f k a0 a1) (impl_ReadHead.f (k + 1) a0 a1) := by
 intro a0 a1 k
 obtain ⟨ih0, ih1⟩ := impl_ReadHead.mono_l k
 unfold impl_ReadHead.f
 repeat' first
   | (with_reducible exact ih0 _ _ _ _ _ _ _ _ _ _ _)
   | (with_reducible exact ih1 _ _ _ _ _ _ _ _ _ _ _ _ _)
   | (with_reducible exact impl_ReadField.mono _ _)
   | (with_reducible exact impl_TakeLine.mono _ _ _)
   | (with_reducible exact impl_readFirst.mono _ _ _)
   | (with_reducible exact LeO.refl _)
   | (with_reducible exact LeO.none _)
   | (with_reducible refine LeO.ite ?_ ?_)
   | (with_reducible refine LeO.bind ?_ (fun _ => ?_))
   | exact ih0 _ _ _ _ _ _ _ _ _ _ _
   | exact ih1 _ _ _ _ _ _ _ _ _ _ _ _ _
   | exact impl_ReadField.mono _ _
   | exact impl_TakeLine.mono _ _ _
   | exact impl_readFirst.mono _ _ _
   | exact LeO.none _
   | refine LeO.ite ?_ ?_
   | refine LeO.bind ?_ (fun _ => ?_)
set_option maxHeartbeats 8000000 in
set_option maxRecDepth 100000 in
theorem impl_ReadHead.calls (k : Nat) (a0 : ByteArray) (a1 : Bool) (r1 : ByteArray) (r2 : ByteArray) (r3 : Int) (r4 : ByteArray) (r5 : Bool) (r6 : List (S41)) (r7 : ByteArray) (r8 : Int) (r9 : Int) (w : World) (h : impl_ReadHead.f k a0 a1 = some (r1, r2, r3, r4, r5, r6, r7, r8, r9)) :
  Calls Tryz.prog 7 #[.string a0, .bool a1] w fun e w' => ∃ v5_ : Value, e = .returned (.tuple #[.agg #[.string r1, .string r2, .int .i64 r3, .string r4, .bool r5, v5_, .string r7], .int .i64 r8, .int .i64 r9]) ∧ Kd.R k41 41 w' w.heap.size (fun _ => True) v5_ r6 ∧ Below w.heap.size w w' := by
 have hu24 := Tryz.underlying24
 have hu35 := Tryz.underlying35
 have hu41 := Tryz.underlying41
 have HB := Aside0.mk (Below.refl w.heap.size w)
 have H : (if (a0.size : Int) > 4000 then (some ((⟨#[]⟩ : ByteArray), (⟨#[]⟩ : ByteArray), 0, (⟨#[]⟩ : ByteArray), false, ([] : List (S41)), (⟨#[]⟩ : ByteArray), 0, 413)) else (impl_ReadHead.l0 k a1 true a0 0 (⟨#[]⟩ : ByteArray) (⟨#[]⟩ : ByteArray) 0 (⟨#[]⟩ : ByteArray) false ([] : List (S41)) (⟨#[]⟩ : ByteArray))) = some (r1, r2, r3, r4, r5, r6, r7, r8, r9) := h
 clear h
 by_cases c3 : (a0.size : Int) > 4000
 ·rw [if_pos c3] at H
  have c3b0 : decide (4000 < (a0.size : Int)) = true := decide_eq_true c3
  have c3b1 : decide (4000 < a0.size) = true := decide_eq_true (by omega)
  clear c3
  simp only [Option.some.injEq, Prod.mk.injEq] at H
  obtain ⟨rfl, rfl, rfl, rfl, rfl, rfl, rfl, rfl, rfl⟩ := H
  go_enter Tryz.func7, Tryz.ntmps7
  go_wp2_with (first | ((with_reducible refine gate_dst (N := 4) rfl ?_); refine boxA #[.string (⟨#[]⟩ : ByteArray), .string (⟨#[]⟩ : ByteArray), .int .i64 0, .string (⟨#[]⟩ : ByteArray), .bool false, .slice none 0 0, .string (⟨#[]⟩ : ByteArray)] 24 ?_; intro gb441 hg w4 hbox hb; have BK441 := Aside0.mk (hbox); have GW441 := geA hg; have GE441 := geA hg; replace HB := beA hb; clear hb hbox hg; have hcz5_0 := cz0 BK441; have hcz5_1 := cz1 BK441; have hcz5_2 := cz2 BK441; have hcz5_3 := cz3 BK441; have hcz5_4 := cz4 BK441; have hcz5_5 := cz5 BK441; have hcz5_6 := cz6 BK441; have hfz5_0 := blk_frozen BK441.out 0; have hfz5_1 := blk_frozen BK441.out 1; have hfz5_2 := blk_frozen BK441.out 2; have hfz5_3 := blk_frozen BK441.out 3; have hfz5_4 := blk_frozen BK441.out 4; have hfz5_5 := blk_frozen BK441.out 5; have hfz5_6 := blk_frozen BK441.out 6))
  refine rcttA gb441 24 #[.string (⟨#[]⟩ : ByteArray), .string (⟨#[]⟩ : ByteArray), .int .i64 0, .string (⟨#[]⟩ : ByteArray), .bool false, .slice none 0 0, .string (⟨#[]⟩ : ByteArray)] Tryz.underlying24 ?_
  exact ⟨_, gq2, gq6, gBe⟩
 ·rw [if_neg c3] at H
  have c3b0 : decide (4000 < (a0.size : Int)) = false := decide_eq_false c3
  have c3b1 : decide (4000 < a0.size) = false := decide_eq_false (by omega)
  clear c3
  have H' := Aside0.mk H
  clear H
  go_enter Tryz.func7, Tryz.ntmps7
  go_wp2_with (first | ((with_reducible refine gate_dst (N := 4) rfl ?_); refine boxA #[.string (⟨#[]⟩ : ByteArray), .string (⟨#[]⟩ : ByteArray), .int .i64 0, .string (⟨#[]⟩ : ByteArray), .bool false, .slice none 0 0, .string (⟨#[]⟩ : ByteArray)] 24 ?_; intro gb441 hg w6 hbox hb; have BK441 := Aside0.mk (hbox); have GW441 := geA hg; have GE441 := geA hg; replace HB := beA hb; clear hb hbox hg) | ((with_reducible refine gate_dst (N := 7) rfl ?_); refine boxA #[.string (⟨#[]⟩ : ByteArray), .int .i64 0] 35 ?_; intro gb442 hg w7 hbox hb; have BK442 := Aside0.mk (hbox); have GE442 := geA hg; have NB441_442 := neA (g := gb441) hg; have NB442_441 := neB NB441_442; replace BK441 := blA (g := gb441) hb; replace HB := beA hb; clear hb hbox hg; have hnb8 := NB442_441.out; have hnc8 := NB441_442.out; have hcz9_0 := cz0 BK442; have hcz9_1 := cz1 BK442; have hfz9_0 := blk_frozen BK442.out 0; have hfz9_1 := blk_frozen BK442.out 1) | ((with_reducible refine gate_dst (N := 8) rfl ?_); refine boxA #[.string (⟨#[]⟩ : ByteArray), .string (⟨#[]⟩ : ByteArray), .int .i64 0, .string (⟨#[]⟩ : ByteArray), .bool false, .slice none 0 0, .string (⟨#[]⟩ : ByteArray)] 24 ?_; intro gb443 hg w10 hbox hb; have BK443 := Aside0.mk (hbox); have GE443 := geA hg; have NB441_443 := neA (g := gb441) hg; have NB443_441 := neB NB441_443; have NB442_443 := neA (g := gb442) hg; have NB443_442 := neB NB442_443; replace BK441 := blA (g := gb441) hb; replace BK442 := blA (g := gb442) (o := .cells #[.string a0, .int .i64 0] 35 (0, 0)) hb; replace HB := beA hb; clear hb hbox hg))
  go_loopg [9] k (fun kq v9 w' => ∃ (x9_1 : Bool) (x442000_1 : ByteArray) (x442001_1 : ByteArray) (x442002_1 : Int) (x442003_1 : ByteArray) (x442004_1 : Bool) (x442006_1 : ByteArray) (x443000_1 : ByteArray) (x443001_1 : Int) (x444000_1 : ByteArray) (x444001_1 : ByteArray) (x444002_1 : Int) (x444003_1 : ByteArray) (x444004_1 : Bool) (x444005_1 : List (S41)) (x444006_1 : ByteArray) (u444005 : Value), v9 = .bool x9_1 ∧ Aside0 (impl_ReadHead.l0 kq a1 x9_1 x443000_1 x443001_1 x444000_1 x444001_1 x444002_1 x444003_1 x444004_1 x444005_1 x444006_1 = some (r1, r2, r3, r4, r5, r6, r7, r8, r9)) ∧ Aside0 (kq ≤ k) ∧ Aside0 (Kd.R k41 41 w' w.heap.size (fun _ => True) u444005 x444005_1) ∧ Aside0 (w'.heap[gb441]? = some (.cells #[.string x442000_1, .string x442001_1, .int .i64 x442002_1, .string x442003_1, .bool x442004_1, (.slice none 0 0), .string x442006_1] 24 (0, 0))) ∧ Aside0 (w'.heap[gb442]? = some (.cells #[.string x443000_1, .int .i64 x443001_1] 35 (0, 0))) ∧ Aside0 (w'.heap[gb443]? = some (.cells #[.string x444000_1, .string x444001_1, .int .i64 x444002_1, .string x444003_1, .bool x444004_1, u444005, .string x444006_1] 24 (0, 0))) ∧ Aside0 (Below w.heap.size w w'))
  case atStart => exact ⟨(true), ((⟨#[]⟩ : ByteArray)), ((⟨#[]⟩ : ByteArray)), (0), ((⟨#[]⟩ : ByteArray)), (false), ((⟨#[]⟩ : ByteArray)), (a0), (0), ((⟨#[]⟩ : ByteArray)), ((⟨#[]⟩ : ByteArray)), (0), ((⟨#[]⟩ : ByteArray)), (false), (([] : List (S41))), ((⟨#[]⟩ : ByteArray)), (.slice none 0 0), gq4, H', ⟨Nat.le_refl _⟩, ⟨gq6⟩, ⟨gBk⟩, ⟨gBk⟩, ⟨gBk⟩, ⟨gBe⟩⟩
  case round =>
   clear H'
   try clear p2
   try clear c3
   try clear c3b0
   try clear c3b1
   try clear c7
   try clear c8
   try clear hcz5_0
   try clear hcz5_1
   try clear hcz5_2
   try clear hcz5_3
   try clear hcz5_4
   try clear hcz5_5
   try clear hcz5_6
   try clear hcz9_0
   try clear hcz9_1
   try clear hfz5_0
   try clear hfz5_1
   try clear hfz5_2
   try clear hfz5_3
   try clear hfz5_4
   try clear hfz5_5
   try clear hfz5_6
   try clear hfz9_0
   try clear hfz9_1
   obtain ⟨x9_1, x442000_1, x442001_1, x442002_1, x442003_1, x442004_1, x442006_1, x443000_1, x443001_1, x444000_1, x444001_1, x444002_1, x444003_1, x444004_1, x444005_1, x444006_1, u444005, rfl, HA, HK1, HO_444005, BK441, BK442, BK443, HB⟩ := hrel
   cases gk with
   | zero => exact absurd HA.out (by simp [impl_ReadHead.l0])
   | succ k1 =>
    have H := HA.out
    clear HA
    simp only [impl_ReadHead.l0] at H
    replace H := Option.bind_eq_some_iff.mp H
    obtain ⟨⟨t444, t445, t446, t447⟩, A110, H⟩ := H
    replace H : (if t447 = 0 then (if (t444.size : Int) > 300 then (impl_ReadHead.j1 k1 a1 x9_1 t444 true t445 t446 x444000_1 x444001_1 x444002_1 x444003_1 x444004_1 x444005_1 x444006_1) else (impl_ReadHead.j1 k1 a1 x9_1 t444 (decide (t446 > 1500)) t445 t446 x444000_1 x444001_1 x444002_1 x444003_1 x444004_1 x444005_1 x444006_1)) else (some ((⟨#[]⟩ : ByteArray), (⟨#[]⟩ : ByteArray), 0, (⟨#[]⟩ : ByteArray), false, ([] : List (S41)), (⟨#[]⟩ : ByteArray), 0, 400))) = some (r1, r2, r3, r4, r5, r6, r7, r8, r9) := H
    have A11 := Aside0.mk A110
    clear A110
    by_cases c12 : t447 = 0
    ·rw [if_pos c12] at H
     have c12b0 : (t447 == 0) = true := beq_iff_eq.mpr c12
     have c12b1 : (t447 != 0) = false := bne_eq_false_iff_eq.mpr c12
     clear c12
     have HC13 := Aside0.mk H
     clear H
     have hnb14 := NB442_441.out
     have hnc14 := NB441_442.out
     have hnb15 := NB442_443.out
     have hnc15 := NB443_442.out
     have hcz16_0 := cz0 BK442
     have hcz16_1 := cz1 BK442
     have hfz16_0 := blk_frozen BK442.out 0
     have hfz16_1 := blk_frozen BK442.out 1
     go_upto_region 11 with (first | ((with_reducible refine gate_callee (f := 19) rfl ?_); refine goesL_ (some 25) rfl rfl Tryz.func19 (by kernel_rfl) rfl #[.agg #[.string x443000_1, .int .i64 x443001_1]] rfl gq1 ?_; (with_reducible refine (impl_TakeLine.calls k1 x443000_1 x443001_1 t444 t445 t446 t447 _ A11.out).mono ?_); rintro e w17 ⟨rfl, hb⟩; refine ⟨_, rfl, ?_⟩; replace HO_444005 := Aside0.mk (Kd.R_below gq14 hb); replace BK441 := blA (g := gb441) hb; replace BK442 := blA (g := gb442) hb; replace BK443 := blA (g := gb443) hb; replace HB := beA hb; (try clear hb); (try clear hb2); (try clear hk); (try clear hi)) | ((with_reducible refine gate_dst (N := 11) rfl ?_); refine boxA #[.string (⟨#[]⟩ : ByteArray), .int .i64 0] 35 ?_; intro gb448 hg w18 hbox hb; have BK448 := Aside0.mk (hbox); have GW448 := geA hg; have GE448 := geA hg; have NB441_448 := neA (g := gb441) hg; have NB448_441 := neB NB441_448; have NB442_448 := neA (g := gb442) hg; have NB448_442 := neB NB442_448; have NB443_448 := neA (g := gb443) hg; have NB448_443 := neB NB443_448; replace HO_444005 := Aside0.mk (Kd.R_below gq14 hb); replace BK441 := blA (g := gb441) hb; replace BK442 := blA (g := gb442) hb; replace BK443 := blA (g := gb443) hb; replace HB := beA hb; clear hb hbox hg; have hnb19 := NB448_441.out; have hnc19 := NB441_448.out; have hnb20 := NB448_442.out; have hnc20 := NB442_448.out; have hnb21 := NB448_443.out; have hnc21 := NB443_448.out; have hcz22_0 := cz0 BK448; have hcz22_1 := cz1 BK448; have hfz22_0 := blk_frozen BK448.out 0; have hfz22_1 := blk_frozen BK448.out 1; have hcz23_0 := cz0 BK442; have hcz23_1 := cz1 BK442; have hfz23_0 := blk_frozen BK442.out 0; have hfz23_1 := blk_frozen BK442.out 1))
     (try simp only [Act.put, List.setIfInBounds_toArray, List.set_cons_zero, List.set_cons_succ])
     go_cut [40] (fun v40 wc => ∃ (kq : Nat) (x40_12 : Bool), v40 = .bool x40_12 ∧ Aside0 (impl_ReadHead.j1 kq a1 x9_1 t444 x40_12 t445 t446 x444000_1 x444001_1 x444002_1 x444003_1 x444004_1 x444005_1 x444006_1 = some (r1, r2, r3, r4, r5, r6, r7, r8, r9)) ∧ Aside0 (kq ≤ k1) ∧ Aside0 (Kd.R k41 41 wc w.heap.size (fun _ => True) u444005 x444005_1) ∧ Aside0 (wc.heap[gb441]? = some (.cells #[.string x442000_1, .string x442001_1, .int .i64 x442002_1, .string x442003_1, .bool x442004_1, (.slice none 0 0), .string x442006_1] 24 (0, 0))) ∧ Aside0 (wc.heap[gb442]? = some (.cells #[.string t445, .int .i64 t446] 35 (0, 0))) ∧ Aside0 (wc.heap[gb443]? = some (.cells #[.string x444000_1, .string x444001_1, .int .i64 x444002_1, .string x444003_1, .bool x444004_1, u444005, .string x444006_1] 24 (0, 0))) ∧ Aside0 (wc.heap[gb448]? = some (.cells #[.string t445, .int .i64 t446] 35 (0, 0))) ∧ Aside0 (Below w.heap.size w wc))
     case first =>
      have H := HC13.out
      clear HC13
      by_cases c24 : (t444.size : Int) > 300
      ·rw [if_pos c24] at H
       have c24b0 : decide (300 < (t444.size : Int)) = true := decide_eq_true c24
       have c24b1 : decide (300 < t444.size) = true := decide_eq_true (by omega)
       clear c24
       (first | rw [c24b0] | (simp only [i64_w, i32_w]; rw [c24b0]) | skip)
       have H' := Aside0.mk H
       clear H
       go_wp2
       go_meet
       case rel => exact ⟨_, (true), gq4, H', ⟨gq24⟩, ⟨by (with_reducible repeat (first | apply Kd.R_alloc | apply Kd.R_drewN | apply Kd.R_drew)); exact Kd.R_mono (Kd.R_far (p := ⟨gb442, 1, none⟩) (Kd.R_far (p := ⟨gb442, 0, none⟩) (Kd.R_far (p := ⟨gb448, 1, none⟩) (Kd.R_far (p := ⟨gb448, 0, none⟩) (Kd.R_types (Kd.R_types HO_444005.out BK448.out (by decide)) BK442.out (by decide)) (fun _ hk => hk.1.2) (.string t445)) (fun _ hk => hk.1.2) (.int .i64 t446)) (fun _ hk => hk.2) (.string t445)) (fun _ hk => hk.2) (.int .i64 t446)) (fun _ hk => trivial)⟩, ⟨gBk⟩, ⟨gBk⟩, ⟨gBk⟩, ⟨gBk⟩, ⟨gBe⟩⟩
      ·rw [if_neg c24] at H
       have c24b0 : decide (300 < (t444.size : Int)) = false := decide_eq_false c24
       have c24b1 : decide (300 < t444.size) = false := decide_eq_false (by omega)
       clear c24
       (first | rw [c24b0] | (simp only [i64_w, i32_w]; rw [c24b0]) | skip)
       have H' := Aside0.mk H
       clear H
       have hnb25 := NB442_441.out
       have hnc25 := NB441_442.out
       have hnb26 := NB442_443.out
       have hnc26 := NB443_442.out
       have hnb27 := NB442_448.out
       have hnc27 := NB448_442.out
       have hcz28_0 := cz0 BK442
       have hcz28_1 := cz1 BK442
       have hfz28_0 := blk_frozen BK442.out 0
       have hfz28_1 := blk_frozen BK442.out 1
       go_wp2
       go_meet
       case rel => exact ⟨_, (decide (t446 > 1500)), gq4, H', ⟨gq24⟩, ⟨by (with_reducible repeat (first | apply Kd.R_alloc | apply Kd.R_drewN | apply Kd.R_drew)); exact Kd.R_mono (Kd.R_far (p := ⟨gb442, 1, none⟩) (Kd.R_far (p := ⟨gb442, 0, none⟩) (Kd.R_far (p := ⟨gb448, 1, none⟩) (Kd.R_far (p := ⟨gb448, 0, none⟩) (Kd.R_types (Kd.R_types HO_444005.out BK448.out (by decide)) BK442.out (by decide)) (fun _ hk => hk.1.2) (.string t445)) (fun _ hk => hk.1.2) (.int .i64 t446)) (fun _ hk => hk.2) (.string t445)) (fun _ hk => hk.2) (.int .i64 t446)) (fun _ hk => trivial)⟩, ⟨gBk⟩, ⟨gBk⟩, ⟨gBk⟩, ⟨gBk⟩, ⟨gBe⟩⟩
     case rest =>
      clear HC13
      try clear c1
      try clear c2
      try clear p2
      try clear c3
      try clear c3b0
      try clear c3b1
      try clear c7
      try clear c8
      try clear c12
      try clear c12b0
      try clear c12b1
      try clear c14
      try clear c15
      try clear c19
      try clear c20
      try clear c21
      try clear c24
      try clear c24b0
      try clear c24b1
      try clear c25
      try clear c26
      try clear c27
      try clear hcz16_0
      try clear hcz16_1
      try clear hcz22_0
      try clear hcz22_1
      try clear hcz23_0
      try clear hcz23_1
      try clear hcz28_0
      try clear hcz28_1
      try clear hcz5_0
      try clear hcz5_1
      try clear hcz5_2
      try clear hcz5_3
      try clear hcz5_4
      try clear hcz5_5
      try clear hcz5_6
      try clear hcz9_0
      try clear hcz9_1
      try clear hfz16_0
      try clear hfz16_1
      try clear hfz22_0
      try clear hfz22_1
      try clear hfz23_0
      try clear hfz23_1
      try clear hfz28_0
      try clear hfz28_1
      try clear hfz5_0
      try clear hfz5_1
      try clear hfz5_2
      try clear hfz5_3
      try clear hfz5_4
      try clear hfz5_5
      try clear hfz5_6
      try clear hfz9_0
      try clear hfz9_1
      try clear p2
      obtain ⟨kq, x40_12, rfl, HA, HJ12, HO_444005, BK441, BK442, BK443, BK448, HB⟩ := hcut
      cases kq with
      | zero => exact absurd HA.out (by simp [impl_ReadHead.j1])
      | succ kj12 =>
       have H := HA.out
       clear HA
       simp only [impl_ReadHead.j1] at H
       by_cases c29 : x40_12 = true
       ·subst c29
        have H1 : (some ((⟨#[]⟩ : ByteArray), (⟨#[]⟩ : ByteArray), 0, (⟨#[]⟩ : ByteArray), false, ([] : List (S41)), (⟨#[]⟩ : ByteArray), 0, 431)) = some (r1, r2, r3, r4, r5, r6, r7, r8, r9) := by rw [if_pos rfl] at H; exact H
        clear H
        have H := H1
        clear H1
        simp only [Option.some.injEq, Prod.mk.injEq] at H
        obtain ⟨rfl, rfl, rfl, rfl, rfl, rfl, rfl, rfl, rfl⟩ := H
        have hnb30 := NB441_442.out
        have hnc30 := NB442_441.out
        have hnb31 := NB441_443.out
        have hnc31 := NB443_441.out
        have hnb32 := NB441_448.out
        have hnc32 := NB448_441.out
        have hcz33_0 := cz0 BK441
        have hcz33_1 := cz1 BK441
        have hcz33_2 := cz2 BK441
        have hcz33_3 := cz3 BK441
        have hcz33_4 := cz4 BK441
        have hcz33_5 := cz5 BK441
        have hcz33_6 := cz6 BK441
        have hfz33_0 := blk_frozen BK441.out 0
        have hfz33_1 := blk_frozen BK441.out 1
        have hfz33_2 := blk_frozen BK441.out 2
        have hfz33_3 := blk_frozen BK441.out 3
        have hfz33_4 := blk_frozen BK441.out 4
        have hfz33_5 := blk_frozen BK441.out 5
        have hfz33_6 := blk_frozen BK441.out 6
        go_wp2
        refine rcttA gb441 24 #[.string (⟨#[]⟩ : ByteArray), .string (⟨#[]⟩ : ByteArray), .int .i64 0, .string (⟨#[]⟩ : ByteArray), .bool false, .slice none 0 0, .string (⟨#[]⟩ : ByteArray)] Tryz.underlying24 ?_
        exact ⟨_, gq2, gq6, gBe⟩
       ·replace c29 := Bool.eq_false_iff.mpr c29
        subst c29
        have H1 : (if x9_1 = true then ((impl_readFirst.f kj12 t444 a1).bind fun bt449 => (if bt449.2.2.2.2.2.2.2 = true then (impl_ReadHead.l0 kj12 a1 false t445 t446 bt449.1 bt449.2.1 bt449.2.2.1 bt449.2.2.2.1 bt449.2.2.2.2.1 bt449.2.2.2.2.2.1 bt449.2.2.2.2.2.2.1) else (some ((⟨#[]⟩ : ByteArray), (⟨#[]⟩ : ByteArray), 0, (⟨#[]⟩ : ByteArray), false, ([] : List (S41)), (⟨#[]⟩ : ByteArray), 0, 400)))) else (if t444.toList = ([] : List UInt8) then (some (x444000_1, x444001_1, x444002_1, x444003_1, x444004_1, x444005_1, x444006_1, t446, 0)) else (if (x444005_1.length : Int) = 20 then (some ((⟨#[]⟩ : ByteArray), (⟨#[]⟩ : ByteArray), 0, (⟨#[]⟩ : ByteArray), false, ([] : List (S41)), (⟨#[]⟩ : ByteArray), 0, 431)) else ((impl_ReadField.f kj12 t444).bind fun bt460 => (if bt460.2.2 = true then (if x444005_1.length < 4398046511104 then (impl_ReadHead.l0 kj12 a1 false t445 t446 x444000_1 x444001_1 x444002_1 x444003_1 x444004_1 (x444005_1 ++ [(⟨bt460.1, bt460.2.1⟩ : S41)]) x444006_1) else (none)) else (some ((⟨#[]⟩ : ByteArray), (⟨#[]⟩ : ByteArray), 0, (⟨#[]⟩ : ByteArray), false, ([] : List (S41)), (⟨#[]⟩ : ByteArray), 0, 400))))))) = some (r1, r2, r3, r4, r5, r6, r7, r8, r9) := by rw [if_neg (show ¬ (false = true) by decide)] at H; exact H
        clear H
        have H := H1
        clear H1
        by_cases c34 : x9_1 = true
        ·subst c34
         have H1 : ((impl_readFirst.f kj12 t444 a1).bind fun bt449 => (if bt449.2.2.2.2.2.2.2 = true then (impl_ReadHead.l0 kj12 a1 false t445 t446 bt449.1 bt449.2.1 bt449.2.2.1 bt449.2.2.2.1 bt449.2.2.2.2.1 bt449.2.2.2.2.2.1 bt449.2.2.2.2.2.2.1) else (some ((⟨#[]⟩ : ByteArray), (⟨#[]⟩ : ByteArray), 0, (⟨#[]⟩ : ByteArray), false, ([] : List (S41)), (⟨#[]⟩ : ByteArray), 0, 400)))) = some (r1, r2, r3, r4, r5, r6, r7, r8, r9) := by rw [if_pos rfl] at H; exact H
         clear H
         have H := H1
         clear H1
         replace H := Option.bind_eq_some_iff.mp H
         obtain ⟨⟨t449, t450, t451, t452, t453, t454, t457, t458⟩, A350, H⟩ := H
         replace H : (if t458 = true then (impl_ReadHead.l0 kj12 a1 false t445 t446 t449 t450 t451 t452 t453 t454 t457) else (some ((⟨#[]⟩ : ByteArray), (⟨#[]⟩ : ByteArray), 0, (⟨#[]⟩ : ByteArray), false, ([] : List (S41)), (⟨#[]⟩ : ByteArray), 0, 400))) = some (r1, r2, r3, r4, r5, r6, r7, r8, r9) := H
         have A35 := Aside0.mk A350
         clear A350
         by_cases c36 : t458 = true
         ·subst c36
          have H1 : (impl_ReadHead.l0 kj12 a1 false t445 t446 t449 t450 t451 t452 t453 t454 t457) = some (r1, r2, r3, r4, r5, r6, r7, r8, r9) := by rw [if_pos rfl] at H; exact H
          clear H
          have H := H1
          clear H1
          have H' := Aside0.mk H
          clear H
          go_wp2_with (first | ((with_reducible refine gate_callee (f := 20) rfl ?_); refine goesL_ (some 46) rfl rfl Tryz.func20 (by kernel_rfl) rfl #[.string t444, .bool a1] rfl gq1 ?_; (with_reducible refine (impl_readFirst.calls kj12 t444 a1 t449 t450 t451 t452 t453 t454 t457 true _ A35.out).mono ?_); rintro e w37 ⟨v455, rfl, ho0, hb⟩; refine ⟨_, rfl, ?_⟩; have HO456 := Aside0.mk (Kd.R_lower (Kd.R_new' ho0 (Kd.R_lt gq14)) (below_size gBe)); replace HO_444005 := Aside0.mk (Kd.R_elder' gq14 (Kd.R_base ho0) hb); replace BK441 := blA (g := gb441) hb; replace BK442 := blA (g := gb442) hb; replace BK443 := blA (g := gb443) hb; replace BK448 := blA (g := gb448) hb; replace HB := beA hb; (try clear hb); (try clear hb2); (try clear hk); (try clear hi); (try clear ho0)) | ((with_reducible refine gate_dst (N := 13) rfl ?_); refine boxA #[.string (⟨#[]⟩ : ByteArray), .string (⟨#[]⟩ : ByteArray), .int .i64 0, .string (⟨#[]⟩ : ByteArray), .bool false, .slice none 0 0, .string (⟨#[]⟩ : ByteArray)] 24 ?_; intro gb459 hg w38 hbox hb; have BK459 := Aside0.mk (hbox); have GW459 := geA hg; have GE459 := geA hg; have NB441_459 := neA (g := gb441) hg; have NB459_441 := neB NB441_459; have NB442_459 := neA (g := gb442) hg; have NB459_442 := neB NB442_459; have NB443_459 := neA (g := gb443) hg; have NB459_443 := neB NB443_459; have NB448_459 := neA (g := gb448) hg; have NB459_448 := neB NB448_459; replace HO_444005 := Aside0.mk (Kd.R_below gq14 hb); replace HO456 := Aside0.mk (Kd.R_below (by (with_reducible repeat (first | apply Kd.R_alloc | apply Kd.R_drewN | apply Kd.R_drew)); exact HO456.out) hb); replace BK441 := blA (g := gb441) hb; replace BK442 := blA (g := gb442) hb; replace BK443 := blA (g := gb443) hb; replace BK448 := blA (g := gb448) hb; replace HB := beA hb; clear hb hbox hg; have hnb39 := NB459_441.out; have hnc39 := NB441_459.out; have hnb40 := NB459_442.out; have hnc40 := NB442_459.out; have hnb41 := NB459_443.out; have hnc41 := NB443_459.out; have hnb42 := NB459_448.out; have hnc42 := NB448_459.out; have hcz43_0 := cz0 BK459; have hcz43_1 := cz1 BK459; have hcz43_2 := cz2 BK459; have hcz43_3 := cz3 BK459; have hcz43_4 := cz4 BK459; have hcz43_5 := cz5 BK459; have hcz43_6 := cz6 BK459; have hfz43_0 := blk_frozen BK459.out 0; have hfz43_1 := blk_frozen BK459.out 1; have hfz43_2 := blk_frozen BK459.out 2; have hfz43_3 := blk_frozen BK459.out 3; have hfz43_4 := blk_frozen BK459.out 4; have hfz43_5 := blk_frozen BK459.out 5; have hfz43_6 := blk_frozen BK459.out 6; obtain ⟨Ao44, co44, eo44⟩ := Kd.R_slice HO456.out; subst eo44; have hnb45 := NB443_441.out; have hnc45 := NB441_443.out; have hnb46 := NB443_442.out; have hnc46 := NB442_443.out; have hnb47 := NB443_448.out; have hnc47 := NB448_443.out; have hcz48_0 := cz0 BK443; have hcz48_1 := cz1 BK443; have hcz48_2 := cz2 BK443; have hcz48_3 := cz3 BK443; have hcz48_4 := cz4 BK443; have hcz48_5 := cz5 BK443; have hcz48_6 := cz6 BK443; have hfz48_0 := blk_frozen BK443.out 0; have hfz48_1 := blk_frozen BK443.out 1; have hfz48_2 := blk_frozen BK443.out 2; have hfz48_3 := blk_frozen BK443.out 3; have hfz48_4 := blk_frozen BK443.out 4; have hfz48_5 := blk_frozen BK443.out 5; have hfz48_6 := blk_frozen BK443.out 6))
          go_roundg kj12
          case measure => have := HK1.out; have := HJ12.out; omega
          case rel => exact ⟨(false), (x442000_1), (x442001_1), (x442002_1), (x442003_1), (x442004_1), (x442006_1), (t445), (t446), (t449), (t450), (t451), (t452), (t453), (t454), (t457), (.slice Ao44 t454.length co44), gq4, H', ⟨by have := HK1.out; have := HJ12.out; omega⟩, ⟨by (with_reducible repeat (first | apply Kd.R_alloc | apply Kd.R_drewN | apply Kd.R_drew)); exact Kd.R_mono (Kd.R_far (p := ⟨gb443, 6, none⟩) (Kd.R_far (p := ⟨gb443, 5, none⟩) (Kd.R_far (p := ⟨gb443, 4, none⟩) (Kd.R_far (p := ⟨gb443, 3, none⟩) (Kd.R_far (p := ⟨gb443, 2, none⟩) (Kd.R_far (p := ⟨gb443, 1, none⟩) (Kd.R_far (p := ⟨gb443, 0, none⟩) (Kd.R_far (p := ⟨gb459, 6, none⟩) (Kd.R_far (p := ⟨gb459, 5, none⟩) (Kd.R_far (p := ⟨gb459, 4, none⟩) (Kd.R_far (p := ⟨gb459, 3, none⟩) (Kd.R_far (p := ⟨gb459, 2, none⟩) (Kd.R_far (p := ⟨gb459, 1, none⟩) (Kd.R_far (p := ⟨gb459, 0, none⟩) (Kd.R_types (Kd.R_types HO456.out BK459.out (by decide)) BK443.out (by decide)) (fun _ hk => hk.1.2) (.string t449)) (fun _ hk => hk.1.2) (.string t450)) (fun _ hk => hk.1.2) (.int .i64 t451)) (fun _ hk => hk.1.2) (.string t452)) (fun _ hk => hk.1.2) (.bool t453)) (fun _ hk => hk.1.2) (.slice Ao44 t454.length co44)) (fun _ hk => hk.1.2) (.string t457)) (fun _ hk => hk.2) (.string t449)) (fun _ hk => hk.2) (.string t450)) (fun _ hk => hk.2) (.int .i64 t451)) (fun _ hk => hk.2) (.string t452)) (fun _ hk => hk.2) (.bool t453)) (fun _ hk => hk.2) (.slice Ao44 t454.length co44)) (fun _ hk => hk.2) (.string t457)) (fun _ hk => trivial)⟩, ⟨gBk⟩, ⟨gBk⟩, ⟨gBk⟩, ⟨gBe⟩⟩
         ·replace c36 := Bool.eq_false_iff.mpr c36
          subst c36
          have H1 : (some ((⟨#[]⟩ : ByteArray), (⟨#[]⟩ : ByteArray), 0, (⟨#[]⟩ : ByteArray), false, ([] : List (S41)), (⟨#[]⟩ : ByteArray), 0, 400)) = some (r1, r2, r3, r4, r5, r6, r7, r8, r9) := by rw [if_neg (show ¬ (false = true) by decide)] at H; exact H
          clear H
          have H := H1
          clear H1
          simp only [Option.some.injEq, Prod.mk.injEq] at H
          obtain ⟨rfl, rfl, rfl, rfl, rfl, rfl, rfl, rfl, rfl⟩ := H
          go_wp2_with (first | ((with_reducible refine gate_callee (f := 20) rfl ?_); refine goesL_ (some 46) rfl rfl Tryz.func20 (by kernel_rfl) rfl #[.string t444, .bool a1] rfl gq1 ?_; (with_reducible refine (impl_readFirst.calls kj12 t444 a1 t449 t450 t451 t452 t453 t454 t457 false _ A35.out).mono ?_); rintro e w49 ⟨v455, rfl, ho0, hb⟩; refine ⟨_, rfl, ?_⟩; have HO456 := Aside0.mk (Kd.R_lower (Kd.R_new' ho0 (Kd.R_lt gq14)) (below_size gBe)); replace HO_444005 := Aside0.mk (Kd.R_elder' gq14 (Kd.R_base ho0) hb); replace BK441 := blA (g := gb441) hb; replace BK442 := blA (g := gb442) hb; replace BK443 := blA (g := gb443) hb; replace BK448 := blA (g := gb448) hb; replace HB := beA hb; (try clear hb); (try clear hb2); (try clear hk); (try clear hi); (try clear ho0)) | ((with_reducible refine gate_dst (N := 13) rfl ?_); refine boxA #[.string (⟨#[]⟩ : ByteArray), .string (⟨#[]⟩ : ByteArray), .int .i64 0, .string (⟨#[]⟩ : ByteArray), .bool false, .slice none 0 0, .string (⟨#[]⟩ : ByteArray)] 24 ?_; intro gb459 hg w50 hbox hb; have BK459 := Aside0.mk (hbox); have GW459 := geA hg; have GE459 := geA hg; have NB441_459 := neA (g := gb441) hg; have NB459_441 := neB NB441_459; have NB442_459 := neA (g := gb442) hg; have NB459_442 := neB NB442_459; have NB443_459 := neA (g := gb443) hg; have NB459_443 := neB NB443_459; have NB448_459 := neA (g := gb448) hg; have NB459_448 := neB NB448_459; replace HO_444005 := Aside0.mk (Kd.R_below gq14 hb); replace HO456 := Aside0.mk (Kd.R_below (by (with_reducible repeat (first | apply Kd.R_alloc | apply Kd.R_drewN | apply Kd.R_drew)); exact HO456.out) hb); replace BK441 := blA (g := gb441) hb; replace BK442 := blA (g := gb442) hb; replace BK443 := blA (g := gb443) hb; replace BK448 := blA (g := gb448) hb; replace HB := beA hb; clear hb hbox hg; have hnb51 := NB459_441.out; have hnc51 := NB441_459.out; have hnb52 := NB459_442.out; have hnc52 := NB442_459.out; have hnb53 := NB459_443.out; have hnc53 := NB443_459.out; have hnb54 := NB459_448.out; have hnc54 := NB448_459.out; have hcz55_0 := cz0 BK459; have hcz55_1 := cz1 BK459; have hcz55_2 := cz2 BK459; have hcz55_3 := cz3 BK459; have hcz55_4 := cz4 BK459; have hcz55_5 := cz5 BK459; have hcz55_6 := cz6 BK459; have hfz55_0 := blk_frozen BK459.out 0; have hfz55_1 := blk_frozen BK459.out 1; have hfz55_2 := blk_frozen BK459.out 2; have hfz55_3 := blk_frozen BK459.out 3; have hfz55_4 := blk_frozen BK459.out 4; have hfz55_5 := blk_frozen BK459.out 5; have hfz55_6 := blk_frozen BK459.out 6; obtain ⟨Ao56, co56, eo56⟩ := Kd.R_slice HO456.out; subst eo56; have hnb57 := NB441_442.out; have hnc57 := NB442_441.out; have hnb58 := NB441_443.out; have hnc58 := NB443_441.out; have hnb59 := NB441_448.out; have hnc59 := NB448_441.out; have hcz60_0 := cz0 BK441; have hcz60_1 := cz1 BK441; have hcz60_2 := cz2 BK441; have hcz60_3 := cz3 BK441; have hcz60_4 := cz4 BK441; have hcz60_5 := cz5 BK441; have hcz60_6 := cz6 BK441; have hfz60_0 := blk_frozen BK441.out 0; have hfz60_1 := blk_frozen BK441.out 1; have hfz60_2 := blk_frozen BK441.out 2; have hfz60_3 := blk_frozen BK441.out 3; have hfz60_4 := blk_frozen BK441.out 4; have hfz60_5 := blk_frozen BK441.out 5; have hfz60_6 := blk_frozen BK441.out 6))
          refine rcttA gb441 24 #[.string (⟨#[]⟩ : ByteArray), .string (⟨#[]⟩ : ByteArray), .int .i64 0, .string (⟨#[]⟩ : ByteArray), .bool false, .slice none 0 0, .string (⟨#[]⟩ : ByteArray)] Tryz.underlying24 ?_
          exact ⟨_, gq2, gq6, gBe⟩
        ·replace c34 := Bool.eq_false_iff.mpr c34
         subst c34
         have H1 : (if t444.toList = ([] : List UInt8) then (some (x444000_1, x444001_1, x444002_1, x444003_1, x444004_1, x444005_1, x444006_1, t446, 0)) else (if (x444005_1.length : Int) = 20 then (some ((⟨#[]⟩ : ByteArray), (⟨#[]⟩ : ByteArray), 0, (⟨#[]⟩ : ByteArray), false, ([] : List (S41)), (⟨#[]⟩ : ByteArray), 0, 431)) else ((impl_ReadField.f kj12 t444).bind fun bt460 => (if bt460.2.2 = true then (if x444005_1.length < 4398046511104 then (impl_ReadHead.l0 kj12 a1 false t445 t446 x444000_1 x444001_1 x444002_1 x444003_1 x444004_1 (x444005_1 ++ [(⟨bt460.1, bt460.2.1⟩ : S41)]) x444006_1) else (none)) else (some ((⟨#[]⟩ : ByteArray), (⟨#[]⟩ : ByteArray), 0, (⟨#[]⟩ : ByteArray), false, ([] : List (S41)), (⟨#[]⟩ : ByteArray), 0, 400)))))) = some (r1, r2, r3, r4, r5, r6, r7, r8, r9) := by rw [if_neg (show ¬ (false = true) by decide)] at H; exact H
         clear H
         have H := H1
         clear H1
         by_cases c61 : t444.toList = ([] : List UInt8)
         ·rw [if_pos c61] at H
          have c61b0 : (t444.toList == ([] : List UInt8)) = true := beq_iff_eq.mpr c61
          have c61b1 : (t444.toList != ([] : List UInt8)) = false := bne_eq_false_iff_eq.mpr c61
          clear c61
          simp only [Option.some.injEq, Prod.mk.injEq] at H
          obtain ⟨rfl, rfl, rfl, rfl, rfl, rfl, rfl, rfl, rfl⟩ := H
          try go_wp2
          replace HO_444005 := Aside0.mk (Kd.R_drew HO_444005.out)
          replace BK441 := Aside0.mk (blk_drew BK441.out)
          replace BK442 := Aside0.mk (blk_drew BK442.out)
          replace BK443 := Aside0.mk (blk_drew BK443.out)
          replace BK448 := Aside0.mk (blk_drew BK448.out)
          replace HB := Aside0.mk (below_drew1 HB.out)
          obtain ⟨Ao68, co68, eo68⟩ := Kd.R_slice HO_444005.out
          (first | subst eo68 | (injection eo68 with f1_ f2_ f3_; have f4_ := f1_.symm; have f5_ := f3_.symm; clear f1_ f2_ f3_; subst f4_; subst f5_))
          refine start_ (n := 6) (S := fun w' => w'.cell? ⟨gb443, 0, none⟩ = some (.string x444000_1) ∧ w'.cell? ⟨gb443, 1, none⟩ = some (.string x444001_1) ∧ w'.cell? ⟨gb443, 2, none⟩ = some (.int .i64 x444002_1) ∧ w'.cell? ⟨gb443, 3, none⟩ = some (.string x444003_1) ∧ w'.cell? ⟨gb443, 4, none⟩ = some (.bool x444004_1) ∧ w'.cell? ⟨gb443, 5, none⟩ = some (.slice Ao68 x444005_1.length co68) ∧ w'.cell? ⟨gb443, 6, none⟩ = some (.string x444006_1) ∧ w'.cell? ⟨gb442, 0, none⟩ = some (.string t445) ∧ w'.cell? ⟨gb442, 1, none⟩ = some (.int .i64 t446)) (ds := []) #[false, false, false, false, false, false] (by kernel_rfl) rfl rfl ⟨(blk_cell BK443.out 0).trans rfl, (blk_cell BK443.out 1).trans rfl, (blk_cell BK443.out 2).trans rfl, (blk_cell BK443.out 3).trans rfl, (blk_cell BK443.out 4).trans rfl, (blk_cell BK443.out 5).trans rfl, (blk_cell BK443.out 6).trans rfl, (blk_cell BK442.out 0).trans rfl, (blk_cell BK442.out 1).trans rfl⟩ (fun hHeld => ?_)
          generalize wc.drew = w62 at HO_444005 BK441 BK442 BK443 BK448 HB hHeld ⊢
          refine pureK 1 (some 56) ?_
          refine takeK_ 0 (some 55) (hy := Or.inl ⟨by rfl, gq30⟩) ?_
          refine takeK_ 2 (some 57) (hy := Or.inl ⟨by rfl, gq30⟩) ?_
          refine one_ (i := 3) (N := none) #[true, true, true, true, false, false] rfl rfl (by kernel_rfl) (by decide) (fun K hK => ?_)
          have hs63 := cz0 BK441
          have hfs63 := blk_frozen BK441.out 0
          have hns63_1 := NB442_441.out
          have hns63_2 := NB443_441.out
          have hns63_3 := NB448_441.out
          have hms63_1 := NB441_442.out
          have hms63_2 := NB441_443.out
          have hms63_3 := NB441_448.out
          have hs64 := cz1 BK441
          have hfs64 := blk_frozen BK441.out 1
          have hns64_1 := NB442_441.out
          have hns64_2 := NB443_441.out
          have hns64_3 := NB448_441.out
          have hms64_1 := NB441_442.out
          have hms64_2 := NB441_443.out
          have hms64_3 := NB441_448.out
          have hs65 := cz2 BK441
          have hfs65 := blk_frozen BK441.out 2
          have hns65_1 := NB442_441.out
          have hns65_2 := NB443_441.out
          have hns65_3 := NB448_441.out
          have hms65_1 := NB441_442.out
          have hms65_2 := NB441_443.out
          have hms65_3 := NB441_448.out
          have hs66 := cz3 BK441
          have hfs66 := blk_frozen BK441.out 3
          have hns66_1 := NB442_441.out
          have hns66_2 := NB443_441.out
          have hns66_3 := NB448_441.out
          have hms66_1 := NB441_442.out
          have hms66_2 := NB441_443.out
          have hms66_3 := NB441_448.out
          have hs67 := cz4 BK441
          have hfs67 := blk_frozen BK441.out 4
          have hns67_1 := NB442_441.out
          have hns67_2 := NB443_441.out
          have hns67_3 := NB448_441.out
          have hms67_1 := NB441_442.out
          have hms67_2 := NB441_443.out
          have hms67_3 := NB441_448.out
          have hs69 := cz5 BK441
          have hfs69 := blk_frozen BK441.out 5
          have hns69_1 := NB442_441.out
          have hns69_2 := NB443_441.out
          have hns69_3 := NB448_441.out
          have hms69_1 := NB441_442.out
          have hms69_2 := NB441_443.out
          have hms69_3 := NB441_448.out
          have hs70 := cz6 BK441
          have hfs70 := blk_frozen BK441.out 6
          have hns70_1 := NB442_441.out
          have hns70_2 := NB443_441.out
          have hns70_3 := NB448_441.out
          have hms70_1 := NB441_442.out
          have hms70_2 := NB441_443.out
          have hms70_3 := NB441_448.out
          refine skip_ (w1 := ?_) (by rfl) rfl ?_ ?_
          rotate_left
          ·go_simp
           rfl
          refine hK.out _ _ ⟨((cell_far (p := ⟨gb441, _, none⟩) NB443_441.out _).trans (((cell_far (p := ⟨gb441, _, none⟩) NB443_441.out _).trans (((cell_far (p := ⟨gb441, _, none⟩) NB443_441.out _).trans (((cell_far (p := ⟨gb441, _, none⟩) NB443_441.out _).trans (((cell_far (p := ⟨gb441, _, none⟩) NB443_441.out _).trans (((cell_far (p := ⟨gb441, _, none⟩) NB443_441.out _).trans (((cell_far (p := ⟨gb441, _, none⟩) NB443_441.out _).trans (hHeld.1)))))))))))))), ((cell_far (p := ⟨gb441, _, none⟩) NB443_441.out _).trans (((cell_far (p := ⟨gb441, _, none⟩) NB443_441.out _).trans (((cell_far (p := ⟨gb441, _, none⟩) NB443_441.out _).trans (((cell_far (p := ⟨gb441, _, none⟩) NB443_441.out _).trans (((cell_far (p := ⟨gb441, _, none⟩) NB443_441.out _).trans (((cell_far (p := ⟨gb441, _, none⟩) NB443_441.out _).trans (((cell_far (p := ⟨gb441, _, none⟩) NB443_441.out _).trans (hHeld.2.1)))))))))))))), ((cell_far (p := ⟨gb441, _, none⟩) NB443_441.out _).trans (((cell_far (p := ⟨gb441, _, none⟩) NB443_441.out _).trans (((cell_far (p := ⟨gb441, _, none⟩) NB443_441.out _).trans (((cell_far (p := ⟨gb441, _, none⟩) NB443_441.out _).trans (((cell_far (p := ⟨gb441, _, none⟩) NB443_441.out _).trans (((cell_far (p := ⟨gb441, _, none⟩) NB443_441.out _).trans (((cell_far (p := ⟨gb441, _, none⟩) NB443_441.out _).trans (hHeld.2.2.1)))))))))))))), ((cell_far (p := ⟨gb441, _, none⟩) NB443_441.out _).trans (((cell_far (p := ⟨gb441, _, none⟩) NB443_441.out _).trans (((cell_far (p := ⟨gb441, _, none⟩) NB443_441.out _).trans (((cell_far (p := ⟨gb441, _, none⟩) NB443_441.out _).trans (((cell_far (p := ⟨gb441, _, none⟩) NB443_441.out _).trans (((cell_far (p := ⟨gb441, _, none⟩) NB443_441.out _).trans (((cell_far (p := ⟨gb441, _, none⟩) NB443_441.out _).trans (hHeld.2.2.2.1)))))))))))))), ((cell_far (p := ⟨gb441, _, none⟩) NB443_441.out _).trans (((cell_far (p := ⟨gb441, _, none⟩) NB443_441.out _).trans (((cell_far (p := ⟨gb441, _, none⟩) NB443_441.out _).trans (((cell_far (p := ⟨gb441, _, none⟩) NB443_441.out _).trans (((cell_far (p := ⟨gb441, _, none⟩) NB443_441.out _).trans (((cell_far (p := ⟨gb441, _, none⟩) NB443_441.out _).trans (((cell_far (p := ⟨gb441, _, none⟩) NB443_441.out _).trans (hHeld.2.2.2.2.1)))))))))))))), ((cell_far (p := ⟨gb441, _, none⟩) NB443_441.out _).trans (((cell_far (p := ⟨gb441, _, none⟩) NB443_441.out _).trans (((cell_far (p := ⟨gb441, _, none⟩) NB443_441.out _).trans (((cell_far (p := ⟨gb441, _, none⟩) NB443_441.out _).trans (((cell_far (p := ⟨gb441, _, none⟩) NB443_441.out _).trans (((cell_far (p := ⟨gb441, _, none⟩) NB443_441.out _).trans (((cell_far (p := ⟨gb441, _, none⟩) NB443_441.out _).trans (hHeld.2.2.2.2.2.1)))))))))))))), ((cell_far (p := ⟨gb441, _, none⟩) NB443_441.out _).trans (((cell_far (p := ⟨gb441, _, none⟩) NB443_441.out _).trans (((cell_far (p := ⟨gb441, _, none⟩) NB443_441.out _).trans (((cell_far (p := ⟨gb441, _, none⟩) NB443_441.out _).trans (((cell_far (p := ⟨gb441, _, none⟩) NB443_441.out _).trans (((cell_far (p := ⟨gb441, _, none⟩) NB443_441.out _).trans (((cell_far (p := ⟨gb441, _, none⟩) NB443_441.out _).trans (hHeld.2.2.2.2.2.2.1)))))))))))))), ((cell_far (p := ⟨gb441, _, none⟩) NB442_441.out _).trans (((cell_far (p := ⟨gb441, _, none⟩) NB442_441.out _).trans (((cell_far (p := ⟨gb441, _, none⟩) NB442_441.out _).trans (((cell_far (p := ⟨gb441, _, none⟩) NB442_441.out _).trans (((cell_far (p := ⟨gb441, _, none⟩) NB442_441.out _).trans (((cell_far (p := ⟨gb441, _, none⟩) NB442_441.out _).trans (((cell_far (p := ⟨gb441, _, none⟩) NB442_441.out _).trans (hHeld.2.2.2.2.2.2.2.1)))))))))))))), ((cell_far (p := ⟨gb441, _, none⟩) NB442_441.out _).trans (((cell_far (p := ⟨gb441, _, none⟩) NB442_441.out _).trans (((cell_far (p := ⟨gb441, _, none⟩) NB442_441.out _).trans (((cell_far (p := ⟨gb441, _, none⟩) NB442_441.out _).trans (((cell_far (p := ⟨gb441, _, none⟩) NB442_441.out _).trans (((cell_far (p := ⟨gb441, _, none⟩) NB442_441.out _).trans (((cell_far (p := ⟨gb441, _, none⟩) NB442_441.out _).trans (hHeld.2.2.2.2.2.2.2.2))))))))))))))⟩ (fun hHeld => ?_)
          clear hK K
          refine pureK 4 (some 5) ?_
          refine pureK 5 (some 6) ?_
          refine done_ (by kernel_rfl) ?_
          try go_wp2
          refine rcttA gb441 24 #[.string x444000_1, .string x444001_1, .int .i64 x444002_1, .string x444003_1, .bool x444004_1, .slice Ao68 x444005_1.length co68, .string x444006_1] Tryz.underlying24 ?_
          exact ⟨_, gq2, by (with_reducible repeat (first | apply Kd.R_alloc | apply Kd.R_drewN | apply Kd.R_drew)); exact Kd.R_mono (Kd.R_far (p := ⟨gb441, 6, none⟩) (Kd.R_far (p := ⟨gb441, 5, none⟩) (Kd.R_far (p := ⟨gb441, 4, none⟩) (Kd.R_far (p := ⟨gb441, 3, none⟩) (Kd.R_far (p := ⟨gb441, 2, none⟩) (Kd.R_far (p := ⟨gb441, 1, none⟩) (Kd.R_far (p := ⟨gb441, 0, none⟩) (Kd.R_types HO_444005.out BK441.out (by decide)) (fun _ hk => hk.2) (.string x444000_1)) (fun _ hk => hk.2) (.string x444001_1)) (fun _ hk => hk.2) (.int .i64 x444002_1)) (fun _ hk => hk.2) (.string x444003_1)) (fun _ hk => hk.2) (.bool x444004_1)) (fun _ hk => hk.2) (.slice Ao68 x444005_1.length co68)) (fun _ hk => hk.2) (.string x444006_1)) (fun _ hk => trivial), gBe⟩
         ·rw [if_neg c61] at H
          have c61b0 : (t444.toList == ([] : List UInt8)) = false := beq_eq_false_iff_ne.mpr c61
          have c61b1 : (t444.toList != ([] : List UInt8)) = true := bne_iff_ne.mpr c61
          by_cases c71 : (x444005_1.length : Int) = 20
          ·rw [if_pos c71] at H
           have c71b0 : ((x444005_1.length : Int) == 20) = true := beq_iff_eq.mpr c71
           have c71b1 : ((x444005_1.length : Int) != 20) = false := bne_eq_false_iff_eq.mpr c71
           clear c71
           simp only [Option.some.injEq, Prod.mk.injEq] at H
           obtain ⟨rfl, rfl, rfl, rfl, rfl, rfl, rfl, rfl, rfl⟩ := H
           have hnb72 := NB443_441.out
           have hnc72 := NB441_443.out
           have hnb73 := NB443_442.out
           have hnc73 := NB442_443.out
           have hnb74 := NB443_448.out
           have hnc74 := NB448_443.out
           have hcz75_0 := cz0 BK443
           have hcz75_1 := cz1 BK443
           have hcz75_2 := cz2 BK443
           have hcz75_3 := cz3 BK443
           have hcz75_4 := cz4 BK443
           have hcz75_5 := cz5 BK443
           have hcz75_6 := cz6 BK443
           have hfz75_0 := blk_frozen BK443.out 0
           have hfz75_1 := blk_frozen BK443.out 1
           have hfz75_2 := blk_frozen BK443.out 2
           have hfz75_3 := blk_frozen BK443.out 3
           have hfz75_4 := blk_frozen BK443.out 4
           have hfz75_5 := blk_frozen BK443.out 5
           have hfz75_6 := blk_frozen BK443.out 6
           obtain ⟨Ao76, co76, eo76⟩ := Kd.R_slice HO_444005.out
           subst eo76
           have hnb77 := NB441_442.out
           have hnc77 := NB442_441.out
           have hnb78 := NB441_448.out
           have hnc78 := NB448_441.out
           have hcz79_0 := cz0 BK441
           have hcz79_1 := cz1 BK441
           have hcz79_2 := cz2 BK441
           have hcz79_3 := cz3 BK441
           have hcz79_4 := cz4 BK441
           have hcz79_5 := cz5 BK441
           have hcz79_6 := cz6 BK441
           have hfz79_0 := blk_frozen BK441.out 0
           have hfz79_1 := blk_frozen BK441.out 1
           have hfz79_2 := blk_frozen BK441.out 2
           have hfz79_3 := blk_frozen BK441.out 3
           have hfz79_4 := blk_frozen BK441.out 4
           have hfz79_5 := blk_frozen BK441.out 5
           have hfz79_6 := blk_frozen BK441.out 6
           go_wp2
           refine rcttA gb441 24 #[.string (⟨#[]⟩ : ByteArray), .string (⟨#[]⟩ : ByteArray), .int .i64 0, .string (⟨#[]⟩ : ByteArray), .bool false, .slice none 0 0, .string (⟨#[]⟩ : ByteArray)] Tryz.underlying24 ?_
           exact ⟨_, gq2, gq6, gBe⟩
          ·rw [if_neg c71] at H
           have c71b0 : ((x444005_1.length : Int) == 20) = false := beq_eq_false_iff_ne.mpr c71
           have c71b1 : ((x444005_1.length : Int) != 20) = true := bne_iff_ne.mpr c71
           replace H := Option.bind_eq_some_iff.mp H
           obtain ⟨⟨t460, t461, t462⟩, A800, H⟩ := H
           replace H : (if t462 = true then (if x444005_1.length < 4398046511104 then (impl_ReadHead.l0 kj12 a1 false t445 t446 x444000_1 x444001_1 x444002_1 x444003_1 x444004_1 (x444005_1 ++ [(⟨t460, t461⟩ : S41)]) x444006_1) else (none)) else (some ((⟨#[]⟩ : ByteArray), (⟨#[]⟩ : ByteArray), 0, (⟨#[]⟩ : ByteArray), false, ([] : List (S41)), (⟨#[]⟩ : ByteArray), 0, 400))) = some (r1, r2, r3, r4, r5, r6, r7, r8, r9) := H
           have A80 := Aside0.mk A800
           clear A800
           by_cases c81 : t462 = true
           ·subst c81
            have H1 : (if x444005_1.length < 4398046511104 then (impl_ReadHead.l0 kj12 a1 false t445 t446 x444000_1 x444001_1 x444002_1 x444003_1 x444004_1 (x444005_1 ++ [(⟨t460, t461⟩ : S41)]) x444006_1) else (none)) = some (r1, r2, r3, r4, r5, r6, r7, r8, r9) := by rw [if_pos rfl] at H; exact H
            clear H
            have H := H1
            clear H1
            by_cases c82 : x444005_1.length < 4398046511104
            ·rw [if_pos c82] at H
             have LMc82 := Aside0.mk c82
             clear c82
             obtain ⟨y464, hy464⟩ : ∃ y_ : List (S41), y_ = (x444005_1 ++ [(⟨t460, t461⟩ : S41)]) := ⟨_, rfl⟩
             replace H : (impl_ReadHead.l0 kj12 a1 false t445 t446 x444000_1 x444001_1 x444002_1 x444003_1 x444004_1 y464 x444006_1) = some (r1, r2, r3, r4, r5, r6, r7, r8, r9) := by first | (rw [hy464]; with_reducible exact H) | (have H2_ := (Option.bind_some _ _).symm.trans H; rw [hy464]; with_reducible exact H2_) | (have H2_ := (Option.bind_some _ _).symm.trans H; with_reducible exact H2_) | with_reducible exact H | (rw [hy464]; exact H) | exact H
             have Ny464 := Aside0.mk hy464
             clear hy464
             have H' := Aside0.mk H
             clear H
             have hnb83 := NB443_441.out
             have hnc83 := NB441_443.out
             have hnb84 := NB443_442.out
             have hnc84 := NB442_443.out
             have hnb85 := NB443_448.out
             have hnc85 := NB448_443.out
             have hcz86_0 := cz0 BK443
             have hcz86_1 := cz1 BK443
             have hcz86_2 := cz2 BK443
             have hcz86_3 := cz3 BK443
             have hcz86_4 := cz4 BK443
             have hcz86_5 := cz5 BK443
             have hcz86_6 := cz6 BK443
             have hfz86_0 := blk_frozen BK443.out 0
             have hfz86_1 := blk_frozen BK443.out 1
             have hfz86_2 := blk_frozen BK443.out 2
             have hfz86_3 := blk_frozen BK443.out 3
             have hfz86_4 := blk_frozen BK443.out 4
             have hfz86_5 := blk_frozen BK443.out 5
             have hfz86_6 := blk_frozen BK443.out 6
             obtain ⟨Ao87, co87, eo87⟩ := Kd.R_slice HO_444005.out
             subst eo87
             go_wp2_with (first | ((with_reducible refine gate_callee (f := 21) rfl ?_); refine goesL_ (some 65) rfl rfl Tryz.func21 (by kernel_rfl) rfl #[.string t444] rfl gq1 ?_; (with_reducible refine (impl_ReadField.calls kj12 t444 t460 t461 true _ A80.out).mono ?_); rintro e w88 ⟨rfl, hb⟩; refine ⟨_, rfl, ?_⟩; replace HO_444005 := Aside0.mk (Kd.R_below gq14 hb); replace BK441 := blA (g := gb441) hb; replace BK442 := blA (g := gb442) hb; replace BK443 := blA (g := gb443) hb; replace BK448 := blA (g := gb448) hb; replace HB := beA hb; (try clear hb); (try clear hb2); (try clear hk); (try clear hi)) | ((with_reducible refine gate_dst (N := 15) rfl ?_); refine boxA #[.string (⟨#[]⟩ : ByteArray), .string (⟨#[]⟩ : ByteArray)] 41 ?_; intro gb463 hg w89 hbox hb; have BK463 := Aside0.mk (hbox); have GW463 := geA hg; have GE463 := geA hg; have NB441_463 := neA (g := gb441) hg; have NB463_441 := neB NB441_463; have NB442_463 := neA (g := gb442) hg; have NB463_442 := neB NB442_463; have NB443_463 := neA (g := gb443) hg; have NB463_443 := neB NB443_463; have NB448_463 := neA (g := gb448) hg; have NB463_448 := neB NB448_463; replace HO_444005 := Aside0.mk (Kd.R_below (Kd.R_elderB gq14 gb463 (Nat.le_of_eq hg.symm)) hb); replace BK441 := blA (g := gb441) hb; replace BK442 := blA (g := gb442) hb; replace BK443 := blA (g := gb443) hb; replace BK448 := blA (g := gb448) hb; replace HB := beA hb; clear hb hbox hg; have hnb90 := NB463_441.out; have hnc90 := NB441_463.out; have hnb91 := NB463_442.out; have hnc91 := NB442_463.out; have hnb92 := NB463_443.out; have hnc92 := NB443_463.out; have hnb93 := NB463_448.out; have hnc93 := NB448_463.out; have hcz94_0 := cz0 BK463; have hcz94_1 := cz1 BK463; have hfz94_0 := blk_frozen BK463.out 0; have hfz94_1 := blk_frozen BK463.out 1; have hcz95_0 := cz0 BK443; have hcz95_1 := cz1 BK443; have hcz95_2 := cz2 BK443; have hcz95_3 := cz3 BK443; have hcz95_4 := cz4 BK443; have hcz95_5 := cz5 BK443; have hcz95_6 := cz6 BK443; have hfz95_0 := blk_frozen BK443.out 0; have hfz95_1 := blk_frozen BK443.out 1; have hfz95_2 := blk_frozen BK443.out 2; have hfz95_3 := blk_frozen BK443.out 3; have hfz95_4 := blk_frozen BK443.out 4; have hfz95_5 := blk_frozen BK443.out 5; have hfz95_6 := blk_frozen BK443.out 6) | ((with_reducible refine gate_builtin (b := .append) (xs := #[.tmp 72, .tmp 74]) rfl ?_); at_builtin; refine Kd.R_append k41 (w0 := w) w.heap.size rfl (.tmp 72) (.tmp 74) 22 41 (.agg #[(.string ⟨#[]⟩), (.string ⟨#[]⟩)]) 32 rfl Tryz.underlying22 info41 rfl (by decide) (by omega) (.slice Ao87 x444005_1.length co87) x444005_1 (⟨t460, t461⟩ : S41) [.string t460, .string t461] (fun k_ => k_ ≠ gb463) (fun _ => False) rfl (by first | (go_simp; done) | (go_simp; rfl)) ?aP (fun _ hk => hk.elim) ?aF ?aO ?aB ?aS ?aL ?_; (case aP => exact k41_mkM _ _ _ (⟨t460, t461⟩ : S41)); (case aB => exact gBe); (case aF => exact (fun k_ hk => Kd.freshB (g := gb463) (o := .cells #[.string t460, .string t461] 41 (0, 0)) (by (with_reducible repeat (first | refine blk_drewN ?_ _ | refine blk_drew ?_ | refine blk_alloc ?_ _)); refine blk_put (cs := #[.string t460, .string (⟨#[]⟩ : ByteArray)]) ?_ 1 _ rfl; (with_reducible repeat (first | refine blk_drewN ?_ _ | refine blk_drew ?_ | refine blk_alloc ?_ _)); refine blk_put (cs := #[.string (⟨#[]⟩ : ByteArray), .string (⟨#[]⟩ : ByteArray)]) ?_ 0 _ rfl; (with_reducible repeat (first | refine blk_drewN ?_ _ | refine blk_drew ?_ | refine blk_alloc ?_ _)); exact BK463.out) k_ hk)); (case aO => exact (by (with_reducible repeat (first | apply Kd.R_alloc | apply Kd.R_drewN | apply Kd.R_drew)); exact Kd.R_mono (Kd.R_far (p := ⟨gb463, 1, none⟩) (Kd.R_far (p := ⟨gb463, 0, none⟩) (Kd.R_mono HO_444005.out (fun k_ hk => (⟨hk, hk.2⟩ : _ ∧ k_ ≠ gb463))) (fun _ hk => hk.2) (.string t460)) (fun _ hk => hk.2) (.string t461)) (fun _ hk => hk.1.2))); (case aS => exact (below_size gBe)); (case aL => have := LMc82.out; omega); intro v465 w96 ho hb hg hat; rw [← Ny464.out] at ho; have n0_ := Aside0.mk (blk_grown (g := gb441) (o := .cells #[.string x442000_1, .string x442001_1, .int .i64 x442002_1, .string x442003_1, .bool x442004_1, .slice none 0 0, .string x442006_1] 24 (0, 0)) (by (with_reducible repeat (first | refine blk_drewN ?_ _ | refine blk_drew ?_ | refine blk_alloc ?_ _)); refine blk_far ?_ NB441_463.out _; (with_reducible repeat (first | refine blk_drewN ?_ _ | refine blk_drew ?_ | refine blk_alloc ?_ _)); refine blk_far ?_ NB441_463.out _; (with_reducible repeat (first | refine blk_drewN ?_ _ | refine blk_drew ?_ | refine blk_alloc ?_ _)); exact BK441.out) hg (Kd.R_ne HO_444005.out BK441.out (by decide))); have n1_ := Aside0.mk (blk_grown (g := gb442) (o := .cells #[.string t445, .int .i64 t446] 35 (0, 0)) (by (with_reducible repeat (first | refine blk_drewN ?_ _ | refine blk_drew ?_ | refine blk_alloc ?_ _)); refine blk_far ?_ NB442_463.out _; (with_reducible repeat (first | refine blk_drewN ?_ _ | refine blk_drew ?_ | refine blk_alloc ?_ _)); refine blk_far ?_ NB442_463.out _; (with_reducible repeat (first | refine blk_drewN ?_ _ | refine blk_drew ?_ | refine blk_alloc ?_ _)); exact BK442.out) hg (Kd.R_ne HO_444005.out BK442.out (by decide))); have n2_ := Aside0.mk (blk_grown (g := gb443) (o := .cells #[.string x444000_1, .string x444001_1, .int .i64 x444002_1, .string x444003_1, .bool x444004_1, .slice Ao87 x444005_1.length co87, .string x444006_1] 24 (0, 0)) (by (with_reducible repeat (first | refine blk_drewN ?_ _ | refine blk_drew ?_ | refine blk_alloc ?_ _)); refine blk_far ?_ NB443_463.out _; (with_reducible repeat (first | refine blk_drewN ?_ _ | refine blk_drew ?_ | refine blk_alloc ?_ _)); refine blk_far ?_ NB443_463.out _; (with_reducible repeat (first | refine blk_drewN ?_ _ | refine blk_drew ?_ | refine blk_alloc ?_ _)); exact BK443.out) hg (Kd.R_ne HO_444005.out BK443.out (by decide))); have n3_ := Aside0.mk (blk_grown (g := gb448) (o := .cells #[.string t445, .int .i64 t446] 35 (0, 0)) (by (with_reducible repeat (first | refine blk_drewN ?_ _ | refine blk_drew ?_ | refine blk_alloc ?_ _)); refine blk_far ?_ NB448_463.out _; (with_reducible repeat (first | refine blk_drewN ?_ _ | refine blk_drew ?_ | refine blk_alloc ?_ _)); refine blk_far ?_ NB448_463.out _; (with_reducible repeat (first | refine blk_drewN ?_ _ | refine blk_drew ?_ | refine blk_alloc ?_ _)); exact BK448.out) hg (Kd.R_ne HO_444005.out BK448.out (by decide))); have n4_ := Aside0.mk (blk_grown (g := gb463) (o := .cells #[.string t460, .string t461] 41 (0, 0)) (by (with_reducible repeat (first | refine blk_drewN ?_ _ | refine blk_drew ?_ | refine blk_alloc ?_ _)); refine blk_put (cs := #[.string t460, .string (⟨#[]⟩ : ByteArray)]) ?_ 1 _ rfl; (with_reducible repeat (first | refine blk_drewN ?_ _ | refine blk_drew ?_ | refine blk_alloc ?_ _)); refine blk_put (cs := #[.string (⟨#[]⟩ : ByteArray), .string (⟨#[]⟩ : ByteArray)]) ?_ 0 _ rfl; (with_reducible repeat (first | refine blk_drewN ?_ _ | refine blk_drew ?_ | refine blk_alloc ?_ _)); exact BK463.out) hg (Kd.R_away HO_444005.out (fun _ hk => hk.2))); have n5_ := Aside0.mk (hb); have n6_ := Aside0.mk (ho); clear BK441; clear BK442; clear BK443; clear BK448; clear BK463; clear HB; clear HO_444005; have BK441 := n0_; have BK442 := n1_; have BK443 := n2_; have BK448 := n3_; have BK463 := n4_; have HB := n5_; have HO466 := n6_; clear n0_ n1_ n2_ n3_ n4_ n5_ n6_; clear ho hb hg hat; obtain ⟨Ao97, co97, eo97⟩ := Kd.R_slice HO466.out; subst eo97; have hcz98_0 := cz0 BK443; have hcz98_1 := cz1 BK443; have hcz98_2 := cz2 BK443; have hcz98_3 := cz3 BK443; have hcz98_4 := cz4 BK443; have hcz98_5 := cz5 BK443; have hcz98_6 := cz6 BK443; have hfz98_0 := blk_frozen BK443.out 0; have hfz98_1 := blk_frozen BK443.out 1; have hfz98_2 := blk_frozen BK443.out 2; have hfz98_3 := blk_frozen BK443.out 3; have hfz98_4 := blk_frozen BK443.out 4; have hfz98_5 := blk_frozen BK443.out 5; have hfz98_6 := blk_frozen BK443.out 6))
             go_roundg kj12
             case measure => have := HK1.out; have := HJ12.out; omega
             case rel => exact ⟨(false), (x442000_1), (x442001_1), (x442002_1), (x442003_1), (x442004_1), (x442006_1), (t445), (t446), (x444000_1), (x444001_1), (x444002_1), (x444003_1), (x444004_1), (y464), (x444006_1), (.slice Ao97 y464.length co97), gq4, H', ⟨by have := HK1.out; have := HJ12.out; omega⟩, ⟨by (with_reducible repeat (first | apply Kd.R_alloc | apply Kd.R_drewN | apply Kd.R_drew)); exact Kd.R_mono (Kd.R_far (p := ⟨gb443, 5, none⟩) (Kd.R_types HO466.out BK443.out (by decide)) (fun _ hk => hk.2) (.slice Ao97 y464.length co97)) (fun _ hk => trivial)⟩, ⟨gBk⟩, ⟨gBk⟩, ⟨gBk⟩, ⟨gBe⟩⟩
            ·rw [if_neg c82] at H
             exact absurd H (by simp)
           ·replace c81 := Bool.eq_false_iff.mpr c81
            subst c81
            have H1 : (some ((⟨#[]⟩ : ByteArray), (⟨#[]⟩ : ByteArray), 0, (⟨#[]⟩ : ByteArray), false, ([] : List (S41)), (⟨#[]⟩ : ByteArray), 0, 400)) = some (r1, r2, r3, r4, r5, r6, r7, r8, r9) := by rw [if_neg (show ¬ (false = true) by decide)] at H; exact H
            clear H
            have H := H1
            clear H1
            simp only [Option.some.injEq, Prod.mk.injEq] at H
            obtain ⟨rfl, rfl, rfl, rfl, rfl, rfl, rfl, rfl, rfl⟩ := H
            have hnb99 := NB443_441.out
            have hnc99 := NB441_443.out
            have hnb100 := NB443_442.out
            have hnc100 := NB442_443.out
            have hnb101 := NB443_448.out
            have hnc101 := NB448_443.out
            have hcz102_0 := cz0 BK443
            have hcz102_1 := cz1 BK443
            have hcz102_2 := cz2 BK443
            have hcz102_3 := cz3 BK443
            have hcz102_4 := cz4 BK443
            have hcz102_5 := cz5 BK443
            have hcz102_6 := cz6 BK443
            have hfz102_0 := blk_frozen BK443.out 0
            have hfz102_1 := blk_frozen BK443.out 1
            have hfz102_2 := blk_frozen BK443.out 2
            have hfz102_3 := blk_frozen BK443.out 3
            have hfz102_4 := blk_frozen BK443.out 4
            have hfz102_5 := blk_frozen BK443.out 5
            have hfz102_6 := blk_frozen BK443.out 6
            obtain ⟨Ao103, co103, eo103⟩ := Kd.R_slice HO_444005.out
            subst eo103
            go_wp2_with (first | ((with_reducible refine gate_callee (f := 21) rfl ?_); refine goesL_ (some 65) rfl rfl Tryz.func21 (by kernel_rfl) rfl #[.string t444] rfl gq1 ?_; (with_reducible refine (impl_ReadField.calls kj12 t444 t460 t461 false _ A80.out).mono ?_); rintro e w104 ⟨rfl, hb⟩; refine ⟨_, rfl, ?_⟩; replace HO_444005 := Aside0.mk (Kd.R_below gq14 hb); replace BK441 := blA (g := gb441) hb; replace BK442 := blA (g := gb442) hb; replace BK443 := blA (g := gb443) hb; replace BK448 := blA (g := gb448) hb; replace HB := beA hb; (try clear hb); (try clear hb2); (try clear hk); (try clear hi)) | ((with_reducible refine gate_dst (N := 15) rfl ?_); refine boxA #[.string (⟨#[]⟩ : ByteArray), .string (⟨#[]⟩ : ByteArray)] 41 ?_; intro gb463 hg w105 hbox hb; have BK463 := Aside0.mk (hbox); have GW463 := geA hg; have GE463 := geA hg; have NB441_463 := neA (g := gb441) hg; have NB463_441 := neB NB441_463; have NB442_463 := neA (g := gb442) hg; have NB463_442 := neB NB442_463; have NB443_463 := neA (g := gb443) hg; have NB463_443 := neB NB443_463; have NB448_463 := neA (g := gb448) hg; have NB463_448 := neB NB448_463; replace HO_444005 := Aside0.mk (Kd.R_below (Kd.R_elderB gq14 gb463 (Nat.le_of_eq hg.symm)) hb); replace BK441 := blA (g := gb441) hb; replace BK442 := blA (g := gb442) hb; replace BK443 := blA (g := gb443) hb; replace BK448 := blA (g := gb448) hb; replace HB := beA hb; clear hb hbox hg; have hnb106 := NB463_441.out; have hnc106 := NB441_463.out; have hnb107 := NB463_442.out; have hnc107 := NB442_463.out; have hnb108 := NB463_443.out; have hnc108 := NB443_463.out; have hnb109 := NB463_448.out; have hnc109 := NB448_463.out; have hcz110_0 := cz0 BK463; have hcz110_1 := cz1 BK463; have hfz110_0 := blk_frozen BK463.out 0; have hfz110_1 := blk_frozen BK463.out 1; have hnb111 := NB441_442.out; have hnc111 := NB442_441.out; have hnb112 := NB441_448.out; have hnc112 := NB448_441.out; have hcz113_0 := cz0 BK441; have hcz113_1 := cz1 BK441; have hcz113_2 := cz2 BK441; have hcz113_3 := cz3 BK441; have hcz113_4 := cz4 BK441; have hcz113_5 := cz5 BK441; have hcz113_6 := cz6 BK441; have hfz113_0 := blk_frozen BK441.out 0; have hfz113_1 := blk_frozen BK441.out 1; have hfz113_2 := blk_frozen BK441.out 2; have hfz113_3 := blk_frozen BK441.out 3; have hfz113_4 := blk_frozen BK441.out 4; have hfz113_5 := blk_frozen BK441.out 5; have hfz113_6 := blk_frozen BK441.out 6))
            refine rcttA gb441 24 #[.string (⟨#[]⟩ : ByteArray), .string (⟨#[]⟩ : ByteArray), .int .i64 0, .string (⟨#[]⟩ : ByteArray), .bool false, .slice none 0 0, .string (⟨#[]⟩ : ByteArray)] Tryz.underlying24 ?_
            exact ⟨_, gq2, gq6, gBe⟩
    ·rw [if_neg c12] at H
     have c12b0 : (t447 == 0) = false := beq_eq_false_iff_ne.mpr c12
     have c12b1 : (t447 != 0) = true := bne_iff_ne.mpr c12
     simp only [Option.some.injEq, Prod.mk.injEq] at H
     obtain ⟨rfl, rfl, rfl, rfl, rfl, rfl, rfl, rfl, rfl⟩ := H
     have hnb114 := NB442_441.out
     have hnc114 := NB441_442.out
     have hnb115 := NB442_443.out
     have hnc115 := NB443_442.out
     have hcz116_0 := cz0 BK442
     have hcz116_1 := cz1 BK442
     have hfz116_0 := blk_frozen BK442.out 0
     have hfz116_1 := blk_frozen BK442.out 1
     go_wp2_with (first | ((with_reducible refine gate_callee (f := 19) rfl ?_); refine goesL_ (some 25) rfl rfl Tryz.func19 (by kernel_rfl) rfl #[.agg #[.string x443000_1, .int .i64 x443001_1]] rfl gq1 ?_; (with_reducible refine (impl_TakeLine.calls k1 x443000_1 x443001_1 t444 t445 t446 t447 _ A11.out).mono ?_); rintro e w117 ⟨rfl, hb⟩; refine ⟨_, rfl, ?_⟩; replace HO_444005 := Aside0.mk (Kd.R_below gq14 hb); replace BK441 := blA (g := gb441) hb; replace BK442 := blA (g := gb442) hb; replace BK443 := blA (g := gb443) hb; replace HB := beA hb; (try clear hb); (try clear hb2); (try clear hk); (try clear hi)) | ((with_reducible refine gate_dst (N := 11) rfl ?_); refine boxA #[.string (⟨#[]⟩ : ByteArray), .int .i64 0] 35 ?_; intro gb448 hg w118 hbox hb; have BK448 := Aside0.mk (hbox); have GW448 := geA hg; have GE448 := geA hg; have NB441_448 := neA (g := gb441) hg; have NB448_441 := neB NB441_448; have NB442_448 := neA (g := gb442) hg; have NB448_442 := neB NB442_448; have NB443_448 := neA (g := gb443) hg; have NB448_443 := neB NB443_448; replace HO_444005 := Aside0.mk (Kd.R_below gq14 hb); replace BK441 := blA (g := gb441) hb; replace BK442 := blA (g := gb442) hb; replace BK443 := blA (g := gb443) hb; replace HB := beA hb; clear hb hbox hg; have hnb119 := NB448_441.out; have hnc119 := NB441_448.out; have hnb120 := NB448_442.out; have hnc120 := NB442_448.out; have hnb121 := NB448_443.out; have hnc121 := NB443_448.out; have hcz122_0 := cz0 BK448; have hcz122_1 := cz1 BK448; have hfz122_0 := blk_frozen BK448.out 0; have hfz122_1 := blk_frozen BK448.out 1; have hnb123 := NB441_443.out; have hnc123 := NB443_441.out; have hcz124_0 := cz0 BK441; have hcz124_1 := cz1 BK441; have hcz124_2 := cz2 BK441; have hcz124_3 := cz3 BK441; have hcz124_4 := cz4 BK441; have hcz124_5 := cz5 BK441; have hcz124_6 := cz6 BK441; have hfz124_0 := blk_frozen BK441.out 0; have hfz124_1 := blk_frozen BK441.out 1; have hfz124_2 := blk_frozen BK441.out 2; have hfz124_3 := blk_frozen BK441.out 3; have hfz124_4 := blk_frozen BK441.out 4; have hfz124_5 := blk_frozen BK441.out 5; have hfz124_6 := blk_frozen BK441.out 6))
     refine rcttA gb441 24 #[.string (⟨#[]⟩ : ByteArray), .string (⟨#[]⟩ : ByteArray), .int .i64 0, .string (⟨#[]⟩ : ByteArray), .bool false, .slice none 0 0, .string (⟨#[]⟩ : ByteArray)] Tryz.underlying24 ?_
     exact ⟨_, gq2, gq6, gBe⟩

end Go.Proofs.YtonmpnghlopnoaaGreatDoor.P
