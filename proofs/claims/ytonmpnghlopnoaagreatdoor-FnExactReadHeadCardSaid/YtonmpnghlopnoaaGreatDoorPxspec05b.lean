-- Written by a program of ours (myprint.py, by way of the kit's print) out of Lean's print of the translation.
import Derived.Test.YtonmpnghlopnoaaGreatDoorPx0
import Derived.Test.YtonmpnghlopnoaaGreatDoorPxspec01h
import Derived.Test.YtonmpnghlopnoaaGreatDoorPxspec05a
import Derived.Test.YtonmpnghlopnoaaGreatDoorWC
namespace Go.Proofs.YtonmpnghlopnoaaGreatDoor.P
open Go.RowKit Go.Proofs.YtonmpnghlopnoaaGreatDoorW.PrintWords Go.Proofs.YtonmpnghlopnoaaGreatDoorW.PrintLast Go.Proofs.YtonmpnghlopnoaaGreatDoorW.PrintMore
attribute [local go_sem] max2_int min2_int max_two min_two max_three min_three max_four min_four   -- for this text's walks alone
set_option linter.unusedVariables false
set_option linter.unusedSimpArgs false

mutual
def spec_ReadField.l0 : Nat → ByteArray → Int → Option (ByteArray × ByteArray × Bool)
 | 0, _, _ => none
 | k + 1, x0, x4 => if x4 < (x0.size : Int) then (spec_ReadField.j1 k x0 x4 (decide (x4 ≤ 40))) else (spec_ReadField.j1 k x0 x4 false)
def spec_ReadField.j1 : Nat → ByteArray → Int → Bool → Option (ByteArray × ByteArray × Bool)
 | 0, _, _, _ => none
 | k + 1, x0, x4, x13 => if x13 = true then (if 0 ≤ x4 then (if x4 < (x0.size : Int) then (if (bt x0 x4) = 58 then (if x4 ≤ (x0.size : Int) then (if 0 ≤ (wrap64 (x4 + 1)) then (if (wrap64 (x4 + 1)) ≤ (x0.size : Int) then ((spec_Trim.f k (x0.extract ((wrap64 (x4 + 1)) : Int).toNat x0.size)).bind fun t217 => ((spec_FieldOk.f k (x0.extract 0 (x4 : Int).toNat) t217).bind fun t219 => (if t219 = true then (some (x0.extract 0 (x4 : Int).toNat, t217, true)) else (some ((⟨#[]⟩ : ByteArray), (⟨#[]⟩ : ByteArray), false))))) else (none)) else (none)) else (none)) else (spec_ReadField.l0 k x0 (wrap64 (x4 + 1)))) else (none)) else (none)) else (some ((⟨#[]⟩ : ByteArray), (⟨#[]⟩ : ByteArray), false))
end
def spec_ReadField.f (k : Nat) (a0 : ByteArray) : Option (ByteArray × ByteArray × Bool) := spec_ReadField.l0 k a0 0
theorem spec_ReadField.mono_l : ∀ k, (∀ y0 y1, LeO (spec_ReadField.l0 k y0 y1) (spec_ReadField.l0 (k + 1) y0 y1)) ∧ (∀ y0 y1 y2, LeO (spec_ReadField.j1 k y0 y1 y2) (spec_ReadField.j1 (k + 1) y0 y1 y2))
 | 0 => ⟨fun _ _ r h => by simp [spec_ReadField.l0] at h, fun _ _ _ r h => by simp [spec_ReadField.j1] at h⟩
 | k + 1 => by
  obtain ⟨ih0, ih1⟩ := spec_ReadField.mono_l k
  refine ⟨?_, ?_⟩
  ·intro y0 y1
   unfold spec_ReadField.l0
   repeat' first
   | (with_reducible exact ih0 _ _)
   | (with_reducible exact ih1 _ _ _)
   | (with_reducible exact spec_FieldOk.mono _ _ _)
   | (with_reducible exact spec_Trim.mono _ _)
   | (with_reducible exact LeO.refl _)
   | (with_reducible exact LeO.none _)
   | (with_reducible refine LeO.ite ?_ ?_)
   | (with_reducible refine LeO.bind ?_ (fun _ => ?_))
   | exact ih0 _ _
   | exact ih1 _ _ _
   | exact spec_FieldOk.mono _ _ _
   | exact spec_Trim.mono _ _
   | exact LeO.none _
   | refine LeO.ite ?_ ?_
   | refine LeO.bind ?_ (fun _ => ?_)
  ·intro y0 y1 y2
   unfold spec_ReadField.j1
   repeat' first
   | (with_reducible exact ih0 _ _)
   | (with_reducible exact ih1 _ _ _)
   | (with_reducible exact spec_FieldOk.mono _ _ _)
   | (with_reducible exact spec_Trim.mono _ _)
   | (with_reducible exact LeO.refl _)
   | (with_reducible exact LeO.none _)
   | (with_reducible refine LeO.ite ?_ ?_)
   | (with_reducible refine LeO.bind ?_ (fun _ => ?_))
   | exact ih0 _ _
   | exact ih1 _ _ _
   | exact spec_FieldOk.mono _ _ _
   | exact spec_Trim.mono _ _
   | exact LeO.none _
   | refine LeO.ite ?_ ?_
   | refine LeO.bind ?_ (fun _ => ?_)
theorem spec_ReadField.mono : ∀ a0 k, LeO (spec_ReadField.f k a0) (spec_ReadField.f (k + 1) a0) := by
 intro a0 k
 obtain ⟨ih0, ih1⟩ := spec_ReadField.mono_l k
 unfold spec_ReadField.f
 repeat' first
   | (with_reducible exact ih0 _ _)
   | (with_reducible exact ih1 _ _ _)
   | (with_reducible exact spec_FieldOk.mono _ _ _)
   | (with_reducible exact spec_Trim.mono _ _)
   | (with_reducible exact LeO.refl _)
   | (with_reducible exact LeO.none _)
   | (with_reducible refine LeO.ite ?_ ?_)
   | (with_reducible refine LeO.bind ?_ (fun _ => ?_))
   | exact ih0 _ _
   | exact ih1 _ _ _
   | exact spec_FieldOk.mono _ _ _
   | exact spec_Trim.mono _ _
   | exact LeO.none _
   | refine LeO.ite ?_ ?_
   | refine LeO.bind ?_ (fun _ => ?_)
def spec_ReadField.T5 : Bool × List (List Nat × List Nat) := (true, [([], []), ([], []), ([0, 1], [0, 1]), ([], []), ([], []), ([4], [4]), ([3, 5], [3, 5]), ([6], [6]), ([2, 7], [2, 7]), ([], []), ([9, 8, 7, 0, 1, 2, 3, 4, 5, 6, 7, 8, 9], [8, 9])])
def spec_ReadField.B5 : List Nat := [0, 0, 3, 0, 0, 16, 56, 120, 255, 0, 1023]
theorem spec_ReadField.tab5 : rtab .any (opsOf Tryz.f18 5) = spec_ReadField.T5 := by kernel_rfl
theorem spec_ReadField.bits5 : waitsOk spec_ReadField.T5.2 spec_ReadField.B5 = true := by kernel_rfl
set_option maxHeartbeats 8000000 in
set_option maxRecDepth 100000 in
theorem spec_ReadField.calls (k : Nat) (a0 : ByteArray) (r1 : ByteArray) (r2 : ByteArray) (r3 : Bool) (w : World) (h : spec_ReadField.f k a0 = some (r1, r2, r3)) :
  Calls Tryz.prog 18 #[.string a0] w fun e w' => e = .returned (.tuple #[.agg #[.string r1, .string r2], .bool r3]) ∧ Below w.heap.size w w' := by
 have hu41 := Tryz.underlying41
 have HB := Aside0.mk (Below.refl w.heap.size w)
 have H : (spec_ReadField.l0 k a0 0) = some (r1, r2, r3) := h
 clear h
 have H' := Aside0.mk H
 clear H
 go_enter Tryz.func18, Tryz.ntmps18
 go_wp2_with (first | ((with_reducible refine gate_dst (N := 2) rfl ?_); refine boxA #[.string (⟨#[]⟩ : ByteArray), .string (⟨#[]⟩ : ByteArray)] 41 ?_; intro gb216 hg w2 hbox hb; have BK216 := Aside0.mk (hbox); have GE216 := geA hg; replace HB := beA hb; clear hb hbox hg))
 go_loopg [4] k (fun kq v4 w' => ∃ (x4_1 : Int) (x217000_1 : ByteArray) (x217001_1 : ByteArray), v4 = .int .i64 x4_1 ∧ Aside0 (spec_ReadField.l0 kq a0 x4_1 = some (r1, r2, r3)) ∧ Aside0 (kq ≤ k) ∧ Aside0 (w'.heap[gb216]? = some (.cells #[.string x217000_1, .string x217001_1] 41 (0, 0))) ∧ Aside0 (Below w.heap.size w w'))
 case atStart => exact ⟨(0), ((⟨#[]⟩ : ByteArray)), ((⟨#[]⟩ : ByteArray)), gq4, H', ⟨Nat.le_refl _⟩, ⟨gBk⟩, ⟨gBe⟩⟩
 case round =>
  clear H'
  try clear c1
  try clear p2
  obtain ⟨x4_1, x217000_1, x217001_1, rfl, HA, HK1, BK216, HB⟩ := hrel
  cases gk with
  | zero => exact absurd HA.out (by simp [spec_ReadField.l0])
  | succ k1 =>
   have H := HA.out
   clear HA
   simp only [spec_ReadField.l0] at H
   have HC3 := Aside0.mk H
   clear H
   go_upto_region 2 with (fail)
   go_cut [13] (fun v13 wc => ∃ (kq : Nat) (x13_2 : Bool), v13 = .bool x13_2 ∧ Aside0 (spec_ReadField.j1 kq a0 x4_1 x13_2 = some (r1, r2, r3)) ∧ Aside0 (kq ≤ k1) ∧ Aside0 (wc.heap[gb216]? = some (.cells #[.string x217000_1, .string x217001_1] 41 (0, 0))) ∧ Aside0 (Below w.heap.size w wc))
   case first =>
    have H := HC3.out
    clear HC3
    by_cases c4 : x4_1 < (a0.size : Int)
    ·rw [if_pos c4] at H
     have c4b0 := decide_eq_true c4
     clear c4
     (first | rw [c4b0] | (simp only [i64_w, i32_w]; rw [c4b0]) | skip)
     have H' := Aside0.mk H
     clear H
     go_wp2
     go_meet
     case rel => exact ⟨_, (decide (x4_1 ≤ 40)), gq4, H', ⟨gq24⟩, ⟨gBk⟩, ⟨gBe⟩⟩
    ·rw [if_neg c4] at H
     have c4b0 := decide_eq_false c4
     clear c4
     (first | rw [c4b0] | (simp only [i64_w, i32_w]; rw [c4b0]) | skip)
     have H' := Aside0.mk H
     clear H
     go_wp2
     go_meet
     case rel => exact ⟨_, (false), gq4, H', ⟨gq24⟩, ⟨gBk⟩, ⟨gBe⟩⟩
   case rest =>
    clear HC3
    try clear c1
    try clear p2
    try clear c4
    try clear c4b0
    try clear p2
    obtain ⟨kq, x13_2, rfl, HA, HJ2, BK216, HB⟩ := hcut
    cases kq with
    | zero => exact absurd HA.out (by simp [spec_ReadField.j1])
    | succ kj2 =>
     have H := HA.out
     clear HA
     simp only [spec_ReadField.j1] at H
     by_cases c5 : x13_2 = true
     ·subst c5
      have H1 : (if 0 ≤ x4_1 then (if x4_1 < (a0.size : Int) then (if (bt a0 x4_1) = 58 then (if x4_1 ≤ (a0.size : Int) then (if 0 ≤ (wrap64 (x4_1 + 1)) then (if (wrap64 (x4_1 + 1)) ≤ (a0.size : Int) then ((spec_Trim.f kj2 (a0.extract ((wrap64 (x4_1 + 1)) : Int).toNat a0.size)).bind fun t217 => ((spec_FieldOk.f kj2 (a0.extract 0 (x4_1 : Int).toNat) t217).bind fun t219 => (if t219 = true then (some (a0.extract 0 (x4_1 : Int).toNat, t217, true)) else (some ((⟨#[]⟩ : ByteArray), (⟨#[]⟩ : ByteArray), false))))) else (none)) else (none)) else (none)) else (spec_ReadField.l0 kj2 a0 (wrap64 (x4_1 + 1)))) else (none)) else (none)) = some (r1, r2, r3) := by rw [if_pos rfl] at H; exact H
      clear H
      have H := H1
      clear H1
      by_cases c6 : 0 ≤ x4_1
      ·rw [if_pos c6] at H
       have c6b0 := decide_eq_true c6
       clear c6
       by_cases c7 : x4_1 < (a0.size : Int)
       ·rw [if_pos c7] at H
        have c7b0 := decide_eq_true c7
        clear c7
        by_cases c9 : (bt a0 x4_1) = 58
        ·rw [if_pos c9] at H
         have c9b0 : ((bt a0 x4_1) == 58) = true := beq_iff_eq.mpr c9
         have c9b1 : ((bt a0 x4_1) != 58) = false := bne_eq_false_iff_eq.mpr c9
         clear c9
         have c10b0 := eq_true (of_decide_eq_true gq3 : 0 ≤ x4_1)
         by_cases c11 : x4_1 ≤ (a0.size : Int)
         ·rw [if_pos c11] at H
          have c11b0 := eq_true c11
          have c11b1 := decide_eq_true c11
          clear c11
          obtain ⟨ji12, hji12⟩ : ∃ j_ : Int, (wrap64 (x4_1 + 1)) = j_ := ⟨_, rfl⟩
          replace H : (if 0 ≤ (ji12) then (if (ji12) ≤ (a0.size : Int) then ((spec_Trim.f kj2 (a0.extract ((ji12) : Int).toNat a0.size)).bind fun t217 => ((spec_FieldOk.f kj2 (a0.extract 0 (x4_1 : Int).toNat) t217).bind fun t219 => (if t219 = true then (some (a0.extract 0 (x4_1 : Int).toNat, t217, true)) else (some ((⟨#[]⟩ : ByteArray), (⟨#[]⟩ : ByteArray), false))))) else (none)) else (none)) = some (r1, r2, r3) := by first | (rw [hji12] at H; exact H) | (simp only [hji12] at H ⊢; exact H)
          have hji12w : (IntKind.i64.wrap (x4_1 + 1)) = ji12 := (i64_w _).trans hji12
          by_cases c13 : 0 ≤ (ji12)
          ·rw [if_pos c13] at H
           have c13b0 := eq_true c13
           have c13b1 := decide_eq_true c13
           clear c13
           by_cases c14 : (ji12) ≤ (a0.size : Int)
           ·rw [if_pos c14] at H
            have c14b0 := eq_true c14
            have c14b1 := decide_eq_true c14
            clear c14
            replace H := Option.bind_eq_some_iff.mp H
            obtain ⟨t217, A150, H⟩ := H
            replace H : ((spec_FieldOk.f kj2 (a0.extract 0 (x4_1 : Int).toNat) t217).bind fun t219 => (if t219 = true then (some (a0.extract 0 (x4_1 : Int).toNat, t217, true)) else (some ((⟨#[]⟩ : ByteArray), (⟨#[]⟩ : ByteArray), false)))) = some (r1, r2, r3) := H
            have A15 := Aside0.mk A150
            clear A150
            replace H := Option.bind_eq_some_iff.mp H
            obtain ⟨t219, A160, H⟩ := H
            replace H : (if t219 = true then (some (a0.extract 0 (x4_1 : Int).toNat, t217, true)) else (some ((⟨#[]⟩ : ByteArray), (⟨#[]⟩ : ByteArray), false))) = some (r1, r2, r3) := H
            have A16 := Aside0.mk A160
            clear A160
            by_cases c17 : t219 = true
            ·subst c17
             have H1 : (some (a0.extract 0 (x4_1 : Int).toNat, t217, true)) = some (r1, r2, r3) := by rw [if_pos rfl] at H; exact H
             clear H
             have H := H1
             clear H1
             simp only [Option.some.injEq, Prod.mk.injEq] at H
             obtain ⟨rfl, rfl, rfl⟩ := H
             have p8 : 0 ≤ (x4_1 : Int) := of_decide_eq_true gq3
             have q8 : x4_1 < (a0.size : Int) := of_decide_eq_true gq3
             have hx8 := bt_at a0 x4_1
             replace p8 := eq_true p8
             replace q8 := eq_true q8
             try go_wp2
             replace BK216 := Aside0.mk (blk_drew BK216.out)
             replace HB := Aside0.mk (below_drew1 HB.out)
             refine start_ (n := 11) (S := fun w' => True) (ds := []) #[false, false, false, false, false, false, false, false, false, false, false] (by kernel_rfl) rfl rfl trivial (fun hHeld => ?_); refine with_tabW spec_ReadField.tab5 spec_ReadField.bits5 (fun HT_ HW_ => ?_)
             generalize wc.drew = w18 at BK216 HB hHeld ⊢
             refine pureT 0 (some 20) ?_
             refine pureT 1 (some 21) ?_
             refine pureT 2 (some 22) ?_
             refine pureT 3 (some 23) ?_
             refine pureT 4 (some 24) ?_
             refine pureT 5 (some 25) ?_
             refine pureT 6 (some 26) ?_
             refine join_ (σ := Nat) 1 #[true, true, true, true, true, true, true, true, true, true, false] (fun s_ => [(27, .string t217), (5, .pointer (some ⟨s_, 0, none⟩)), (28, .agg #[.string (a0.extract 0 (x4_1 : Int).toNat), .string t217])]) (fun s_ w' => (w'.heap[gb216]? = some (.cells #[.string x217000_1, .string x217001_1] 41 (0, 0))) ∧ (w'.heap[s_]? = some (.cells #[.string (⟨#[]⟩ : ByteArray), .string (⟨#[]⟩ : ByteArray)] 41 (0, 0))) ∧ (w.heap.size ≤ s_) ∧ (w.heap.size ≤ s_) ∧ (gb216 ≠ s_) ∧ (s_ ≠ gb216) ∧ (Below w.heap.size w w')) ?_ ?_
             rotate_left
             ·intro hCont
              refine two_ (i := 7) (j := 9) (Ni := some 27) (Nj := some 5) #[true, true, true, true, true, true, true, true, false, false, false] #[true, true, true, true, true, true, true, false, false, true, false] rfl rfl rfl rfl (two_of HT_.out (by kernel_rfl)) (by decide) (by decide) (fun K hK => ?_) (fun K hK => ?_)
              ·skip
               refine goes_ Tryz.func31 (by kernel_rfl) rfl #[.string (a0.extract ((ji12) : Int).toNat a0.size)] (by rfl) rfl rfl gq23 ?_
               with_reducible refine (spec_Trim.calls kj2 (a0.extract ((ji12) : Int).toNat a0.size) t217 _ A15.out).mono ?_
               rintro e w' ⟨rfl, ⟨nd, rfl⟩⟩
               refine ⟨_, rfl, ?_⟩
               refine hK.out _ _ trivial (fun hHeld => ?_)
               clear hK K
               refine normA (some 27) ?_
               refine pureT 8 (some 28) ?_
               refine one_ (i := 9) (N := some 5) #[true, true, true, true, true, true, true, true, true, true, false] rfl rfl (one_of HT_.out (by kernel_rfl)) (by decide) (fun K hK => ?_)
               refine box_step ?hg (N := 5) ?hd (cs := #[.string (⟨#[]⟩ : ByteArray), .string (⟨#[]⟩ : ByteArray)]) (t := 41) ?hr ?_; (case hd => rfl); (case hg => rfl); (case hr => first | (go_simp; done) | (go_simp; rfl))
               intro gb218 hg w19 hbox hb
               have BK218 := Aside0.mk (hbox)
               have GW218 := geA hg
               have GE218 := geA hg
               have NB216_218 := neA (g := gb216) hg
               have NB218_216 := neB NB216_218
               replace BK216 := blA (g := gb216) hb
               replace HB := beA hb
               clear hb hbox hg
               refine hK.out _ _ trivial (fun hHeld => ?_)
               clear hK K
               refine normA (some 5) ?_
               exact norm_ gq22 (hCont (gb218) _ ⟨gBk, gBk, GW218.out, GE218.out, NB216_218.out, NB218_216.out, gBe⟩)
              ·skip
               refine box_step ?hg (N := 5) ?hd (cs := #[.string (⟨#[]⟩ : ByteArray), .string (⟨#[]⟩ : ByteArray)]) (t := 41) ?hr ?_; (case hd => rfl); (case hg => rfl); (case hr => first | (go_simp; done) | (go_simp; rfl))
               intro gb218 hg w19 hbox hb
               have BK218 := Aside0.mk (hbox)
               have GW218 := geA hg
               have GE218 := geA hg
               have NB216_218 := neA (g := gb216) hg
               have NB218_216 := neB NB216_218
               replace BK216 := blA (g := gb216) hb
               replace HB := beA hb
               clear hb hbox hg
               refine hK.out _ _ trivial (fun hHeld => ?_)
               clear hK K
               refine normA (some 5) ?_
               refine one_ (i := 7) (N := some 27) #[true, true, true, true, true, true, true, true, false, true, false] rfl rfl (one_of HT_.out (by kernel_rfl)) (by decide) (fun K hK => ?_)
               refine goes_ Tryz.func31 (by kernel_rfl) rfl #[.string (a0.extract ((ji12) : Int).toNat a0.size)] (by rfl) rfl rfl gq23 ?_
               with_reducible refine (spec_Trim.calls kj2 (a0.extract ((ji12) : Int).toNat a0.size) t217 _ A15.out).mono ?_
               rintro e w' ⟨rfl, ⟨nd, rfl⟩⟩
               refine ⟨_, rfl, ?_⟩
               refine hK.out _ _ trivial (fun hHeld => ?_)
               clear hK K
               refine normA (some 27) ?_
               refine pureT 8 (some 28) ?_
               exact norm_ gq22 (hCont (gb218) _ ⟨gBk, gBk, GW218.out, GE218.out, NB216_218.out, NB218_216.out, gBe⟩)
             rintro gb218 w20 ⟨h0_, h1_, h2_, h3_, h4_, h5_, h6_⟩
             have n0_ : Aside0 (w20.heap[gb216]? = some (.cells #[.string x217000_1, .string x217001_1] 41 (0, 0))) := ⟨h0_⟩
             have n1_ : Aside0 (w20.heap[gb218]? = some (.cells #[.string (⟨#[]⟩ : ByteArray), .string (⟨#[]⟩ : ByteArray)] 41 (0, 0))) := ⟨h1_⟩
             have n2_ : Aside0 (w.heap.size ≤ gb218) := ⟨h2_⟩
             have n3_ : Aside0 (w.heap.size ≤ gb218) := ⟨h3_⟩
             have n4_ : Aside0 (gb216 ≠ gb218) := ⟨h4_⟩
             have n5_ : Aside0 (gb218 ≠ gb216) := ⟨h5_⟩
             have n6_ : Aside0 (Below w.heap.size w w20) := ⟨h6_⟩
             clear BK216
             clear HB
             clear h0_ h1_ h2_ h3_ h4_ h5_ h6_
             have BK216 := n0_
             have BK218 := n1_
             have GW218 := n2_
             have GE218 := n3_
             have NB216_218 := n4_
             have NB218_216 := n5_
             have HB := n6_
             clear n0_ n1_ n2_ n3_ n4_ n5_ n6_
             have hHeld := trivial
             refine norm_ (a' := ?_) ?_ ?_
             rotate_left
             ·simp only [putAll, Act.put, List.setIfInBounds_toArray, List.set_cons_zero, List.set_cons_succ]
              rfl
             refine one_ (i := 10) (N := none) #[true, true, true, true, true, true, true, true, true, true, true] rfl rfl (one_of HT_.out (by kernel_rfl)) (by decide) (fun K hK => ?_)
             have hs21 := cz0 BK218
             have hfs21 := blk_frozen BK218.out 0
             have hns21_0 := NB216_218.out
             have hms21_0 := NB218_216.out
             have hs22 := cz1 BK218
             have hfs22 := blk_frozen BK218.out 1
             have hns22_0 := NB216_218.out
             have hms22_0 := NB218_216.out
             refine skip_ (w1 := ?_) (by rfl) rfl ?_ ?_
             rotate_left
             ·go_simp
              rfl
             refine hK.out _ _ trivial (fun hHeld => ?_)
             clear hK K
             refine done_ (done_of HT_.out (by kernel_rfl)) ?_
             have hnb23 := NB218_216.out
             have hnc23 := NB216_218.out
             have hcz24_0 := cz0 BK218
             have hcz24_1 := cz1 BK218
             have hfz24_0 := blk_frozen BK218.out 0
             have hfz24_1 := blk_frozen BK218.out 1
             try go_wp2_with (first | ((with_reducible refine gate_callee (f := 32) rfl ?_); refine goesL_ (some 30) rfl rfl Tryz.func32 (by kernel_rfl) rfl #[.agg #[.string (a0.extract 0 (x4_1 : Int).toNat), .string t217]] rfl gq1 ?_; (with_reducible refine (spec_FieldOk.calls kj2 (a0.extract 0 (x4_1 : Int).toNat) t217 true _ A16.out).mono ?_); rintro e w25 ⟨rfl, hb⟩; refine ⟨_, rfl, ?_⟩; replace BK216 := blA (g := gb216) hb; replace BK218 := blA (g := gb218) (o := .cells #[.string (a0.extract 0 (x4_1 : Int).toNat), .string t217] 41 (0, 0)) hb; replace HB := beA hb; (try clear hb); (try clear hb2); (try clear hk); (try clear hi); have hcz26_0 := cz0 BK218; have hcz26_1 := cz1 BK218; have hfz26_0 := blk_frozen BK218.out 0; have hfz26_1 := blk_frozen BK218.out 1; have hcz27_0 := cz0 BK216; have hcz27_1 := cz1 BK216; have hfz27_0 := blk_frozen BK216.out 0; have hfz27_1 := blk_frozen BK216.out 1))
             refine rctA gb216 41 #[.string (a0.extract 0 (x4_1 : Int).toNat), .string t217] Tryz.underlying41 ?_
             exact ⟨by first | rfl | (simp [errW_none, errW_some] <;> rfl) | (simp only [← hji12]; first | rfl | (simp [errW_none, errW_some] <;> rfl)) | (simp [*, errW_none, errW_some] <;> rfl), gBe⟩
            ·replace c17 := Bool.eq_false_iff.mpr c17
             subst c17
             have H1 : (some ((⟨#[]⟩ : ByteArray), (⟨#[]⟩ : ByteArray), false)) = some (r1, r2, r3) := by rw [if_neg (show ¬ (false = true) by decide)] at H; exact H
             clear H
             have H := H1
             clear H1
             simp only [Option.some.injEq, Prod.mk.injEq] at H
             obtain ⟨rfl, rfl, rfl⟩ := H
             have p8 : 0 ≤ (x4_1 : Int) := of_decide_eq_true gq3
             have q8 : x4_1 < (a0.size : Int) := of_decide_eq_true gq3
             have hx8 := bt_at a0 x4_1
             replace p8 := eq_true p8
             replace q8 := eq_true q8
             try go_wp2
             replace BK216 := Aside0.mk (blk_drew BK216.out)
             replace HB := Aside0.mk (below_drew1 HB.out)
             refine start_ (n := 11) (S := fun w' => True) (ds := []) #[false, false, false, false, false, false, false, false, false, false, false] (by kernel_rfl) rfl rfl trivial (fun hHeld => ?_); refine with_tabW spec_ReadField.tab5 spec_ReadField.bits5 (fun HT_ HW_ => ?_)
             generalize wc.drew = w28 at BK216 HB hHeld ⊢
             refine pureT 0 (some 20) ?_
             refine pureT 1 (some 21) ?_
             refine pureT 2 (some 22) ?_
             refine pureT 3 (some 23) ?_
             refine pureT 4 (some 24) ?_
             refine pureT 5 (some 25) ?_
             refine pureT 6 (some 26) ?_
             refine join_ (σ := Nat) 1 #[true, true, true, true, true, true, true, true, true, true, false] (fun s_ => [(27, .string t217), (5, .pointer (some ⟨s_, 0, none⟩)), (28, .agg #[.string (a0.extract 0 (x4_1 : Int).toNat), .string t217])]) (fun s_ w' => (w'.heap[gb216]? = some (.cells #[.string x217000_1, .string x217001_1] 41 (0, 0))) ∧ (w'.heap[s_]? = some (.cells #[.string (⟨#[]⟩ : ByteArray), .string (⟨#[]⟩ : ByteArray)] 41 (0, 0))) ∧ (w.heap.size ≤ s_) ∧ (w.heap.size ≤ s_) ∧ (gb216 ≠ s_) ∧ (s_ ≠ gb216) ∧ (Below w.heap.size w w')) ?_ ?_
             rotate_left
             ·intro hCont
              refine two_ (i := 7) (j := 9) (Ni := some 27) (Nj := some 5) #[true, true, true, true, true, true, true, true, false, false, false] #[true, true, true, true, true, true, true, false, false, true, false] rfl rfl rfl rfl (two_of HT_.out (by kernel_rfl)) (by decide) (by decide) (fun K hK => ?_) (fun K hK => ?_)
              ·skip
               refine goes_ Tryz.func31 (by kernel_rfl) rfl #[.string (a0.extract ((ji12) : Int).toNat a0.size)] (by rfl) rfl rfl gq23 ?_
               with_reducible refine (spec_Trim.calls kj2 (a0.extract ((ji12) : Int).toNat a0.size) t217 _ A15.out).mono ?_
               rintro e w' ⟨rfl, ⟨nd, rfl⟩⟩
               refine ⟨_, rfl, ?_⟩
               refine hK.out _ _ trivial (fun hHeld => ?_)
               clear hK K
               refine normA (some 27) ?_
               refine pureT 8 (some 28) ?_
               refine one_ (i := 9) (N := some 5) #[true, true, true, true, true, true, true, true, true, true, false] rfl rfl (one_of HT_.out (by kernel_rfl)) (by decide) (fun K hK => ?_)
               refine box_step ?hg (N := 5) ?hd (cs := #[.string (⟨#[]⟩ : ByteArray), .string (⟨#[]⟩ : ByteArray)]) (t := 41) ?hr ?_; (case hd => rfl); (case hg => rfl); (case hr => first | (go_simp; done) | (go_simp; rfl))
               intro gb218 hg w29 hbox hb
               have BK218 := Aside0.mk (hbox)
               have GW218 := geA hg
               have GE218 := geA hg
               have NB216_218 := neA (g := gb216) hg
               have NB218_216 := neB NB216_218
               replace BK216 := blA (g := gb216) hb
               replace HB := beA hb
               clear hb hbox hg
               refine hK.out _ _ trivial (fun hHeld => ?_)
               clear hK K
               refine normA (some 5) ?_
               exact norm_ gq22 (hCont (gb218) _ ⟨gBk, gBk, GW218.out, GE218.out, NB216_218.out, NB218_216.out, gBe⟩)
              ·skip
               refine box_step ?hg (N := 5) ?hd (cs := #[.string (⟨#[]⟩ : ByteArray), .string (⟨#[]⟩ : ByteArray)]) (t := 41) ?hr ?_; (case hd => rfl); (case hg => rfl); (case hr => first | (go_simp; done) | (go_simp; rfl))
               intro gb218 hg w29 hbox hb
               have BK218 := Aside0.mk (hbox)
               have GW218 := geA hg
               have GE218 := geA hg
               have NB216_218 := neA (g := gb216) hg
               have NB218_216 := neB NB216_218
               replace BK216 := blA (g := gb216) hb
               replace HB := beA hb
               clear hb hbox hg
               refine hK.out _ _ trivial (fun hHeld => ?_)
               clear hK K
               refine normA (some 5) ?_
               refine one_ (i := 7) (N := some 27) #[true, true, true, true, true, true, true, true, false, true, false] rfl rfl (one_of HT_.out (by kernel_rfl)) (by decide) (fun K hK => ?_)
               refine goes_ Tryz.func31 (by kernel_rfl) rfl #[.string (a0.extract ((ji12) : Int).toNat a0.size)] (by rfl) rfl rfl gq23 ?_
               with_reducible refine (spec_Trim.calls kj2 (a0.extract ((ji12) : Int).toNat a0.size) t217 _ A15.out).mono ?_
               rintro e w' ⟨rfl, ⟨nd, rfl⟩⟩
               refine ⟨_, rfl, ?_⟩
               refine hK.out _ _ trivial (fun hHeld => ?_)
               clear hK K
               refine normA (some 27) ?_
               refine pureT 8 (some 28) ?_
               exact norm_ gq22 (hCont (gb218) _ ⟨gBk, gBk, GW218.out, GE218.out, NB216_218.out, NB218_216.out, gBe⟩)
             rintro gb218 w30 ⟨h0_, h1_, h2_, h3_, h4_, h5_, h6_⟩
             have n0_ : Aside0 (w30.heap[gb216]? = some (.cells #[.string x217000_1, .string x217001_1] 41 (0, 0))) := ⟨h0_⟩
             have n1_ : Aside0 (w30.heap[gb218]? = some (.cells #[.string (⟨#[]⟩ : ByteArray), .string (⟨#[]⟩ : ByteArray)] 41 (0, 0))) := ⟨h1_⟩
             have n2_ : Aside0 (w.heap.size ≤ gb218) := ⟨h2_⟩
             have n3_ : Aside0 (w.heap.size ≤ gb218) := ⟨h3_⟩
             have n4_ : Aside0 (gb216 ≠ gb218) := ⟨h4_⟩
             have n5_ : Aside0 (gb218 ≠ gb216) := ⟨h5_⟩
             have n6_ : Aside0 (Below w.heap.size w w30) := ⟨h6_⟩
             clear BK216
             clear HB
             clear h0_ h1_ h2_ h3_ h4_ h5_ h6_
             have BK216 := n0_
             have BK218 := n1_
             have GW218 := n2_
             have GE218 := n3_
             have NB216_218 := n4_
             have NB218_216 := n5_
             have HB := n6_
             clear n0_ n1_ n2_ n3_ n4_ n5_ n6_
             have hHeld := trivial
             refine norm_ (a' := ?_) ?_ ?_
             rotate_left
             ·simp only [putAll, Act.put, List.setIfInBounds_toArray, List.set_cons_zero, List.set_cons_succ]
              rfl
             refine one_ (i := 10) (N := none) #[true, true, true, true, true, true, true, true, true, true, true] rfl rfl (one_of HT_.out (by kernel_rfl)) (by decide) (fun K hK => ?_)
             have hs31 := cz0 BK218
             have hfs31 := blk_frozen BK218.out 0
             have hns31_0 := NB216_218.out
             have hms31_0 := NB218_216.out
             have hs32 := cz1 BK218
             have hfs32 := blk_frozen BK218.out 1
             have hns32_0 := NB216_218.out
             have hms32_0 := NB218_216.out
             refine skip_ (w1 := ?_) (by rfl) rfl ?_ ?_
             rotate_left
             ·go_simp
              rfl
             refine hK.out _ _ trivial (fun hHeld => ?_)
             clear hK K
             refine done_ (done_of HT_.out (by kernel_rfl)) ?_
             have hnb33 := NB218_216.out
             have hnc33 := NB216_218.out
             have hcz34_0 := cz0 BK218
             have hcz34_1 := cz1 BK218
             have hfz34_0 := blk_frozen BK218.out 0
             have hfz34_1 := blk_frozen BK218.out 1
             try go_wp2_with (first | ((with_reducible refine gate_callee (f := 32) rfl ?_); refine goesL_ (some 30) rfl rfl Tryz.func32 (by kernel_rfl) rfl #[.agg #[.string (a0.extract 0 (x4_1 : Int).toNat), .string t217]] rfl gq1 ?_; (with_reducible refine (spec_FieldOk.calls kj2 (a0.extract 0 (x4_1 : Int).toNat) t217 false _ A16.out).mono ?_); rintro e w35 ⟨rfl, hb⟩; refine ⟨_, rfl, ?_⟩; replace BK216 := blA (g := gb216) hb; replace BK218 := blA (g := gb218) (o := .cells #[.string (a0.extract 0 (x4_1 : Int).toNat), .string t217] 41 (0, 0)) hb; replace HB := beA hb; (try clear hb); (try clear hb2); (try clear hk); (try clear hi); have hcz36_0 := cz0 BK216; have hcz36_1 := cz1 BK216; have hfz36_0 := blk_frozen BK216.out 0; have hfz36_1 := blk_frozen BK216.out 1))
             refine rctA gb216 41 #[.string (⟨#[]⟩ : ByteArray), .string (⟨#[]⟩ : ByteArray)] Tryz.underlying41 ?_
             exact ⟨by first | rfl | (simp [errW_none, errW_some] <;> rfl) | (simp only [← hji12]; first | rfl | (simp [errW_none, errW_some] <;> rfl)) | (simp [*, errW_none, errW_some] <;> rfl), gBe⟩
           ·rw [if_neg c14] at H
            exact absurd H (by simp)
          ·rw [if_neg c13] at H
           exact absurd H (by simp)
         ·rw [if_neg c11] at H
          exact absurd H (by simp)
        ·rw [if_neg c9] at H
         have c9b0 : ((bt a0 x4_1) == 58) = false := beq_eq_false_iff_ne.mpr c9
         have c9b1 : ((bt a0 x4_1) != 58) = true := bne_iff_ne.mpr c9
         have H' := Aside0.mk H
         clear H
         have p8 : 0 ≤ (x4_1 : Int) := of_decide_eq_true gq3
         have q8 : x4_1 < (a0.size : Int) := of_decide_eq_true gq3
         have hx8 := bt_at a0 x4_1
         replace p8 := eq_true p8
         replace q8 := eq_true q8
         go_wp2
         go_roundg kj2
         case measure => have := HK1.out; have := HJ2.out; omega
         case rel => exact ⟨(wrap64 (x4_1 + 1)), (x217000_1), (x217001_1), gq4, H', ⟨by have := HK1.out; have := HJ2.out; omega⟩, ⟨gBk⟩, ⟨gBe⟩⟩
       ·rw [if_neg c7] at H
        exact absurd H (by simp)
      ·rw [if_neg c6] at H
       exact absurd H (by simp)
     ·replace c5 := Bool.eq_false_iff.mpr c5
      subst c5
      have H1 : (some ((⟨#[]⟩ : ByteArray), (⟨#[]⟩ : ByteArray), false)) = some (r1, r2, r3) := by rw [if_neg (show ¬ (false = true) by decide)] at H; exact H
      clear H
      have H := H1
      clear H1
      simp only [Option.some.injEq, Prod.mk.injEq] at H
      obtain ⟨rfl, rfl, rfl⟩ := H
      have hcz37_0 := cz0 BK216
      have hcz37_1 := cz1 BK216
      have hfz37_0 := blk_frozen BK216.out 0
      have hfz37_1 := blk_frozen BK216.out 1
      go_wp2
      refine rctA gb216 41 #[.string (⟨#[]⟩ : ByteArray), .string (⟨#[]⟩ : ByteArray)] Tryz.underlying41 ?_
      exact ⟨gq2, gBe⟩

end Go.Proofs.YtonmpnghlopnoaaGreatDoor.P
