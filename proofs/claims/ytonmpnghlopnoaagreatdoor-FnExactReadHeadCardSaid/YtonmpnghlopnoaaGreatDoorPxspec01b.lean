-- Written by a program of ours (myprint.py, by way of the kit's print) out of Lean's print of the translation.
import Derived.Test.YtonmpnghlopnoaaGreatDoorPx0
import Derived.Test.YtonmpnghlopnoaaGreatDoorWC
namespace Go.Proofs.YtonmpnghlopnoaaGreatDoor.P
open Go.RowKit Go.Proofs.YtonmpnghlopnoaaGreatDoorW.PrintWords Go.Proofs.YtonmpnghlopnoaaGreatDoorW.PrintLast Go.Proofs.YtonmpnghlopnoaaGreatDoorW.PrintMore
attribute [local go_sem] max2_int min2_int max_two min_two max_three min_three max_four min_four   -- for this text's walks alone
set_option linter.unusedVariables false
set_option linter.unusedSimpArgs false

def spec_TakeLine.l0 : Nat → Int → ByteArray → Int → Option (ByteArray × ByteArray × Int × Int)
 | 0, _, _, _ => none
 | k + 1, x5, x108000, x108001 => if x5 < (x108000.size : Int) then (if 0 ≤ x5 then (if (bt x108000 x5) = 10 then (some ((⟨#[]⟩ : ByteArray), (⟨#[]⟩ : ByteArray), 0, 2)) else (if (bt x108000 x5) = 13 then (if (wrap64 (x5 + 1)) = (x108000.size : Int) then (some ((⟨#[]⟩ : ByteArray), (⟨#[]⟩ : ByteArray), 0, 1)) else (if 0 ≤ (wrap64 (x5 + 1)) then (if (wrap64 (x5 + 1)) < (x108000.size : Int) then (if (bt x108000 (wrap64 (x5 + 1))) = 10 then (if 0 ≤ x108001 then (if x108001 ≤ x5 then (if x5 ≤ (x108000.size : Int) then (some (x108000.extract (x108001 : Int).toNat (x5 : Int).toNat, x108000, wrap64 (x5 + 2), 0)) else (none)) else (none)) else (none)) else (some ((⟨#[]⟩ : ByteArray), (⟨#[]⟩ : ByteArray), 0, 2))) else (none)) else (none))) else (spec_TakeLine.l0 k (wrap64 (x5 + 1)) x108000 x108001))) else (none)) else (some ((⟨#[]⟩ : ByteArray), (⟨#[]⟩ : ByteArray), 0, 1))
def spec_TakeLine.f (k : Nat) (a0_0 : ByteArray) (a0_1 : Int) : Option (ByteArray × ByteArray × Int × Int) := (spec_CurOk.f a0_0 a0_1).bind fun t109 => (if t109 = true then (spec_TakeLine.l0 k a0_1 a0_0 a0_1) else (some ((⟨#[]⟩ : ByteArray), (⟨#[]⟩ : ByteArray), 0, 2)))
theorem spec_TakeLine.mono_l : ∀ k, (∀ y0 y1 y2, LeO (spec_TakeLine.l0 k y0 y1 y2) (spec_TakeLine.l0 (k + 1) y0 y1 y2))
 | 0 => fun _ _ _ r h => by simp [spec_TakeLine.l0] at h
 | k + 1 => by
  have ih0 := spec_TakeLine.mono_l k
  ·intro y0 y1 y2
   unfold spec_TakeLine.l0
   repeat' first
   | (with_reducible exact ih0 _ _ _)
   | (with_reducible exact LeO.refl _)
   | (with_reducible exact LeO.none _)
   | (with_reducible refine LeO.ite ?_ ?_)
   | (with_reducible refine LeO.bind ?_ (fun _ => ?_))
   | exact ih0 _ _ _
   | exact LeO.none _
   | refine LeO.ite ?_ ?_
   | refine LeO.bind ?_ (fun _ => ?_)
theorem spec_TakeLine.mono : ∀ a0 a1 k, LeO (spec_TakeLine.f k a0 a1) (spec_TakeLine.f (k + 1) a0 a1) := by
 intro a0 a1 k
 have ih0 := spec_TakeLine.mono_l k
 unfold spec_TakeLine.f
 repeat' first
   | (with_reducible exact ih0 _ _ _)
   | (with_reducible exact LeO.refl _)
   | (with_reducible exact LeO.none _)
   | (with_reducible refine LeO.ite ?_ ?_)
   | (with_reducible refine LeO.bind ?_ (fun _ => ?_))
   | exact ih0 _ _ _
   | exact LeO.none _
   | refine LeO.ite ?_ ?_
   | refine LeO.bind ?_ (fun _ => ?_)
def spec_TakeLine.T13 : Bool × List (List Nat × List Nat) := (true, [([], []), ([0], [0]), ([], []), ([2], [2]), ([], []), ([1, 3, 4], [1, 3, 4]), ([], []), ([6], [6]), ([], []), ([8], [8]), ([7, 9], [7, 9]), ([5, 0, 1, 2, 3, 4, 5], [5]), ([10, 11, 0, 1, 2, 3, 4, 5, 6, 7, 8, 9, 10, 11], [10]), ([12, 0, 1, 2, 3, 4, 5, 6, 7, 8, 9, 10, 11, 12], [])])
def spec_TakeLine.B13 : List Nat := [0, 1, 0, 4, 0, 31, 0, 64, 0, 256, 960, 63, 4095, 8191]
theorem spec_TakeLine.tab13 : rtab .any (opsOf Tryz.f15 13) = spec_TakeLine.T13 := by kernel_rfl
theorem spec_TakeLine.bits13 : waitsOk spec_TakeLine.T13.2 spec_TakeLine.B13 = true := by kernel_rfl
set_option maxHeartbeats 8000000 in
set_option maxRecDepth 100000 in
theorem spec_TakeLine.calls (k : Nat) (a0_0 : ByteArray) (a0_1 : Int) (r1 : ByteArray) (r2 : ByteArray) (r3 : Int) (r4 : Int) (w : World) (h : spec_TakeLine.f k a0_0 a0_1 = some (r1, r2, r3, r4)) :
  Calls Tryz.prog 15 #[.agg #[.string a0_0, .int .i64 a0_1]] w fun e w' => e = .returned (.tuple #[.string r1, .agg #[.string r2, .int .i64 r3], .int .i64 r4]) ∧ Below w.heap.size w w' := by
 have hu35 := Tryz.underlying35
 have HB := Aside0.mk (Below.refl w.heap.size w)
 have H : ((spec_CurOk.f a0_0 a0_1).bind fun t109 => (if t109 = true then (spec_TakeLine.l0 k a0_1 a0_0 a0_1) else (some ((⟨#[]⟩ : ByteArray), (⟨#[]⟩ : ByteArray), 0, 2)))) = some (r1, r2, r3, r4) := h
 clear h
 replace H := Option.bind_eq_some_iff.mp H
 obtain ⟨t109, A20, H⟩ := H
 replace H : (if t109 = true then (spec_TakeLine.l0 k a0_1 a0_0 a0_1) else (some ((⟨#[]⟩ : ByteArray), (⟨#[]⟩ : ByteArray), 0, 2))) = some (r1, r2, r3, r4) := H
 have A2 := Aside0.mk A20
 clear A20
 by_cases c3 : t109 = true
 ·subst c3
  have H1 : (spec_TakeLine.l0 k a0_1 a0_0 a0_1) = some (r1, r2, r3, r4) := by rw [if_pos rfl] at H; exact H
  clear H
  have H := H1
  clear H1
  have H' := Aside0.mk H
  clear H
  go_enter Tryz.func15, Tryz.ntmps15
  go_wp2_with (first | ((with_reducible refine gate_dst (N := 1) rfl ?_); refine boxA #[.string a0_0, .int .i64 a0_1] 35 ?_; intro gb107 hg w4 hbox hb; have BK107 := Aside0.mk (hbox); have GW107 := geA hg; have GE107 := geA hg; replace HB := beA hb; clear hb hbox hg) | ((with_reducible refine gate_dst (N := 3) rfl ?_); refine boxA #[.string (⟨#[]⟩ : ByteArray), .int .i64 0] 35 ?_; intro gb108 hg w5 hbox hb; have BK108 := Aside0.mk (hbox); have GW108 := geA hg; have GE108 := geA hg; have NB107_108 := neA (g := gb107) hg; have NB108_107 := neB NB107_108; replace BK107 := blA (g := gb107) hb; replace HB := beA hb; clear hb hbox hg; have hnb6 := NB107_108.out; have hnc6 := NB108_107.out; have hcz7_0 := cz0 BK107; have hcz7_1 := cz1 BK107; have hfz7_0 := blk_frozen BK107.out 0; have hfz7_1 := blk_frozen BK107.out 1) | ((with_reducible refine gate_callee (f := 27) rfl ?_); refine goesL_ (some 7) rfl rfl Tryz.func27 (by kernel_rfl) rfl #[.agg #[.string a0_0, .int .i64 a0_1]] rfl gq1 ?_; (with_reducible refine (spec_CurOk.calls a0_0 a0_1 true _ A2.out).mono ?_); rintro e w8 ⟨rfl, hb⟩; refine ⟨_, rfl, ?_⟩; replace BK107 := blA (g := gb107) hb; replace BK108 := blA (g := gb108) hb; replace HB := beA hb; (try clear hb); (try clear hb2); (try clear hk); (try clear hi); have hcz9_0 := cz0 BK107; have hcz9_1 := cz1 BK107; have hfz9_0 := blk_frozen BK107.out 0; have hfz9_1 := blk_frozen BK107.out 1))
  go_loopg [5] k (fun kq v5 w' => ∃ (x5_1 : Int) (x109000_1 : ByteArray) (x109001_1 : Int), v5 = .int .i64 x5_1 ∧ Aside0 (spec_TakeLine.l0 kq x5_1 a0_0 a0_1 = some (r1, r2, r3, r4)) ∧ Aside0 (kq ≤ k) ∧ Aside0 (w'.heap[gb107]? = some (.cells #[.string a0_0, .int .i64 a0_1] 35 (0, 0))) ∧ Aside0 (w'.heap[gb108]? = some (.cells #[.string x109000_1, .int .i64 x109001_1] 35 (0, 0))) ∧ Aside0 (Below w.heap.size w w'))
  case atStart => exact ⟨(a0_1), ((⟨#[]⟩ : ByteArray)), (0), gq4, H', ⟨Nat.le_refl _⟩, ⟨gBk⟩, ⟨gBk⟩, ⟨gBe⟩⟩
  case round =>
   clear H'
   try clear c1
   try clear c2
   try clear p2
   try clear c3
   try clear c6
   try clear hcz7_0
   try clear hcz7_1
   try clear hcz9_0
   try clear hcz9_1
   try clear hfz7_0
   try clear hfz7_1
   try clear hfz9_0
   try clear hfz9_1
   obtain ⟨x5_1, x109000_1, x109001_1, rfl, HA, HK1, BK107, BK108, HB⟩ := hrel
   cases gk with
   | zero => exact absurd HA.out (by simp [spec_TakeLine.l0])
   | succ k1 =>
    have H := HA.out
    clear HA
    simp only [spec_TakeLine.l0] at H
    by_cases c10 : x5_1 < (a0_0.size : Int)
    ·rw [if_pos c10] at H
     have c10b0 := decide_eq_true c10
     clear c10
     by_cases c11 : 0 ≤ x5_1
     ·rw [if_pos c11] at H
      have c11b0 := decide_eq_true c11
      clear c11
      by_cases c13 : (bt a0_0 x5_1) = 10
      ·rw [if_pos c13] at H
       have c13b0 : ((bt a0_0 x5_1) == 10) = true := beq_iff_eq.mpr c13
       have c13b1 : ((bt a0_0 x5_1) != 10) = false := bne_eq_false_iff_eq.mpr c13
       clear c13
       simp only [Option.some.injEq, Prod.mk.injEq] at H
       obtain ⟨rfl, rfl, rfl, rfl⟩ := H
       have hnb14 := NB107_108.out
       have hnc14 := NB108_107.out
       have hcz15_0 := cz0 BK107
       have hcz15_1 := cz1 BK107
       have hfz15_0 := blk_frozen BK107.out 0
       have hfz15_1 := blk_frozen BK107.out 1
       have p12 : 0 ≤ (x5_1 : Int) := of_decide_eq_true gq3
       have q12 : x5_1 < (a0_0.size : Int) := of_decide_eq_true gq3
       have hx12 := bt_at a0_0 x5_1
       replace p12 := eq_true p12
       replace q12 := eq_true q12
       have hcz16_0 := cz0 BK108
       have hcz16_1 := cz1 BK108
       have hfz16_0 := blk_frozen BK108.out 0
       have hfz16_1 := blk_frozen BK108.out 1
       go_wp2
       refine bodyPost_ret (results_list (rs := [.tmp 2, .cell 3 35, .tmp 4]) rfl (by simp) (.tmp (.cell gb108 35 #[.string (⟨#[]⟩ : ByteArray), .int .i64 0] (0, 0) _ rfl gq11 Tryz.underlying35 rfl (by kernel_rfl) (.tmp .nil)))) rfl ?_
       exact ⟨gq2, gBe⟩
      ·rw [if_neg c13] at H
       have c13b0 : ((bt a0_0 x5_1) == 10) = false := beq_eq_false_iff_ne.mpr c13
       have c13b1 : ((bt a0_0 x5_1) != 10) = true := bne_iff_ne.mpr c13
       by_cases c18 : (bt a0_0 x5_1) = 13
       ·rw [if_pos c18] at H
        have c18b0 : ((bt a0_0 x5_1) == 13) = true := beq_iff_eq.mpr c18
        have c18b1 : ((bt a0_0 x5_1) != 13) = false := bne_eq_false_iff_eq.mpr c18
        clear c18
        by_cases c19 : (wrap64 (x5_1 + 1)) = (a0_0.size : Int)
        ·rw [if_pos c19] at H
         have c19b0 : ((wrap64 (x5_1 + 1)) == (a0_0.size : Int)) = true := beq_iff_eq.mpr c19
         have c19b1 : ((wrap64 (x5_1 + 1)) != (a0_0.size : Int)) = false := bne_eq_false_iff_eq.mpr c19
         clear c19
         simp only [Option.some.injEq, Prod.mk.injEq] at H
         obtain ⟨rfl, rfl, rfl, rfl⟩ := H
         have hnb20 := NB107_108.out
         have hnc20 := NB108_107.out
         have hcz21_0 := cz0 BK107
         have hcz21_1 := cz1 BK107
         have hfz21_0 := blk_frozen BK107.out 0
         have hfz21_1 := blk_frozen BK107.out 1
         have p12 : 0 ≤ (x5_1 : Int) := of_decide_eq_true gq3
         have q12 : x5_1 < (a0_0.size : Int) := of_decide_eq_true gq3
         have hx12 := bt_at a0_0 x5_1
         replace p12 := eq_true p12
         replace q12 := eq_true q12
         have p17 : 0 ≤ (x5_1 : Int) := of_decide_eq_true gq3
         have q17 : x5_1 < (a0_0.size : Int) := of_decide_eq_true gq3
         have hx17 := bt_at a0_0 x5_1
         replace p17 := eq_true p17
         replace q17 := eq_true q17
         have hcz22_0 := cz0 BK108
         have hcz22_1 := cz1 BK108
         have hfz22_0 := blk_frozen BK108.out 0
         have hfz22_1 := blk_frozen BK108.out 1
         go_wp2
         refine bodyPost_ret (results_list (rs := [.tmp 2, .cell 3 35, .tmp 4]) rfl (by simp) (.tmp (.cell gb108 35 #[.string (⟨#[]⟩ : ByteArray), .int .i64 0] (0, 0) _ rfl gq11 Tryz.underlying35 rfl (by kernel_rfl) (.tmp .nil)))) rfl ?_
         exact ⟨gq2, gBe⟩
        ·rw [if_neg c19] at H
         have c19b0 : ((wrap64 (x5_1 + 1)) == (a0_0.size : Int)) = false := beq_eq_false_iff_ne.mpr c19
         have c19b1 : ((wrap64 (x5_1 + 1)) != (a0_0.size : Int)) = true := bne_iff_ne.mpr c19
         obtain ⟨ji23, hji23⟩ : ∃ j_ : Int, (wrap64 (x5_1 + 1)) = j_ := ⟨_, rfl⟩
         replace H : (if 0 ≤ (ji23) then (if (ji23) < (a0_0.size : Int) then (if (bt a0_0 (ji23)) = 10 then (if 0 ≤ a0_1 then (if a0_1 ≤ x5_1 then (if x5_1 ≤ (a0_0.size : Int) then (some (a0_0.extract (a0_1 : Int).toNat (x5_1 : Int).toNat, a0_0, wrap64 (x5_1 + 2), 0)) else (none)) else (none)) else (none)) else (some ((⟨#[]⟩ : ByteArray), (⟨#[]⟩ : ByteArray), 0, 2))) else (none)) else (none)) = some (r1, r2, r3, r4) := by first | (rw [hji23] at H; exact H) | (simp only [hji23] at H ⊢; exact H)
         (try rw [hji23] at c19b0)
         (try rw [hji23] at c19b1)
         have hji23w : (IntKind.i64.wrap (x5_1 + 1)) = ji23 := (i64_w _).trans hji23
         by_cases c24 : 0 ≤ (ji23)
         ·rw [if_pos c24] at H
          have c24b0 := decide_eq_true c24
          clear c24
          by_cases c25 : (ji23) < (a0_0.size : Int)
          ·rw [if_pos c25] at H
           have c25b0 := decide_eq_true c25
           clear c25
           by_cases c27 : (bt a0_0 (ji23)) = 10
           ·rw [if_pos c27] at H
            have c27b0 : ((bt a0_0 (ji23)) == 10) = true := beq_iff_eq.mpr c27
            have c27b1 : ((bt a0_0 (ji23)) != 10) = false := bne_eq_false_iff_eq.mpr c27
            clear c27
            by_cases c28 : 0 ≤ a0_1
            ·rw [if_pos c28] at H
             have c28b0 := eq_true c28
             have c28b1 := decide_eq_true c28
             clear c28
             by_cases c29 : a0_1 ≤ x5_1
             ·rw [if_pos c29] at H
              have c29b0 := eq_true c29
              have c29b1 := decide_eq_true c29
              clear c29
              by_cases c30 : x5_1 ≤ (a0_0.size : Int)
              ·rw [if_pos c30] at H
               have c30b0 := eq_true c30
               have c30b1 := decide_eq_true c30
               clear c30
               simp only [Option.some.injEq, Prod.mk.injEq] at H
               obtain ⟨rfl, rfl, rfl, rfl⟩ := H
               have hnb31 := NB107_108.out
               have hnc31 := NB108_107.out
               have hcz32_0 := cz0 BK107
               have hcz32_1 := cz1 BK107
               have hfz32_0 := blk_frozen BK107.out 0
               have hfz32_1 := blk_frozen BK107.out 1
               have p12 : 0 ≤ (x5_1 : Int) := of_decide_eq_true gq3
               have q12 : x5_1 < (a0_0.size : Int) := of_decide_eq_true gq3
               have hx12 := bt_at a0_0 x5_1
               replace p12 := eq_true p12
               replace q12 := eq_true q12
               have p17 : 0 ≤ (x5_1 : Int) := of_decide_eq_true gq3
               have q17 : x5_1 < (a0_0.size : Int) := of_decide_eq_true gq3
               have hx17 := bt_at a0_0 x5_1
               replace p17 := eq_true p17
               replace q17 := eq_true q17
               have p26 : 0 ≤ ((ji23) : Int) := of_decide_eq_true gq3
               have q26 : (ji23) < (a0_0.size : Int) := of_decide_eq_true gq3
               have hx26 := bt_at a0_0 (ji23)
               replace p26 := eq_true p26
               replace q26 := eq_true q26
               try go_wp2
               replace BK107 := Aside0.mk (blk_drew BK107.out)
               replace BK108 := Aside0.mk (blk_drew BK108.out)
               replace HB := Aside0.mk (below_drew1 HB.out)
               refine start_ (n := 14) (S := fun w' => w'.cell? ⟨gb107, 0, none⟩ = some (.string a0_0) ∧ w'.cell? ⟨gb107, 1, none⟩ = some (.int .i64 a0_1)) (ds := []) #[false, false, false, false, false, false, false, false, false, false, false, false, false, false] (by kernel_rfl) rfl rfl ⟨(blk_cell BK107.out 0).trans rfl, (blk_cell BK107.out 1).trans rfl⟩ (fun hHeld => ?_); refine with_tabW spec_TakeLine.tab13 spec_TakeLine.bits13 (fun HT_ HW_ => ?_)
               generalize wr.drew = w33 at BK107 BK108 HB hHeld ⊢
               refine pureT 0 (some 44) ?_
               refine pureT 2 (some 46) ?_
               refine pureT 4 (some 48) ?_
               refine pureT 6 (some 50) ?_
               refine pureT 8 (some 52) ?_
               refine pureT 9 (some 53) ?_
               refine takeT_ 1 (some 45) (hy := Or.inl ⟨by rfl, gq15⟩) ?_
               refine takeT_ 3 (some 47) (hy := Or.inl ⟨by rfl, gq15⟩) ?_
               refine pureT 5 (some 49) ?_
               refine pureT 11 (some 2) ?_
               refine takeT_ 7 (some 51) (hy := Or.inl ⟨by rfl, gq15⟩) ?_
               refine pureT 10 (some 54) ?_
               refine one_ (i := 12) (N := none) #[true, true, true, true, true, true, true, true, true, true, true, true, true, false] rfl rfl (one_of HT_.out (by kernel_rfl)) (by decide) (fun K hK => ?_)
               have hs34 := cz0 BK108
               have hfs34 := blk_frozen BK108.out 0
               have hns34_0 := NB107_108.out
               have hms34_0 := NB108_107.out
               have hs35 := cz1 BK108
               have hfs35 := blk_frozen BK108.out 1
               have hns35_0 := NB107_108.out
               have hms35_0 := NB108_107.out
               refine skip_ (w1 := ?_) (by rfl) rfl ?_ ?_
               rotate_left
               ·go_simp
                rfl
               refine hK.out _ _ ⟨((cell_far (p := ⟨gb108, _, none⟩) NB107_108.out _).trans (((cell_far (p := ⟨gb108, _, none⟩) NB107_108.out _).trans (hHeld.1)))), ((cell_far (p := ⟨gb108, _, none⟩) NB107_108.out _).trans (((cell_far (p := ⟨gb108, _, none⟩) NB107_108.out _).trans (hHeld.2))))⟩ (fun hHeld => ?_)
               clear hK K
               refine pureT 13 (some 4) ?_
               refine done_ (done_of HT_.out (by kernel_rfl)) ?_
               try go_wp2
               refine bodyPost_ret (results_list (rs := [.tmp 2, .cell 3 35, .tmp 4]) rfl (by simp) (.tmp (.cell gb108 35 #[.string a0_0, .int .i64 (wrap64 (x5_1 + 2))] (0, 0) _ rfl (by (with_reducible repeat (first | refine blk_drewN ?_ _ | refine blk_drew ?_ | refine blk_alloc ?_ _)); refine blk_put (cs := #[.string a0_0, .int .i64 x109001_1]) ?_ 1 _ rfl; (with_reducible repeat (first | refine blk_drewN ?_ _ | refine blk_drew ?_ | refine blk_alloc ?_ _)); refine blk_put (cs := #[.string x109000_1, .int .i64 x109001_1]) ?_ 0 _ rfl; (with_reducible repeat (first | refine blk_drewN ?_ _ | refine blk_drew ?_ | refine blk_alloc ?_ _)); exact BK108.out) Tryz.underlying35 rfl (by kernel_rfl) (.tmp .nil)))) rfl ?_
               exact ⟨by first | rfl | (simp [errW_none, errW_some] <;> rfl) | (simp only [← hji23]; first | rfl | (simp [errW_none, errW_some] <;> rfl)) | (simp [*, errW_none, errW_some] <;> rfl), gBe⟩
              ·rw [if_neg c30] at H
               exact absurd H (by simp)
             ·rw [if_neg c29] at H
              exact absurd H (by simp)
            ·rw [if_neg c28] at H
             exact absurd H (by simp)
           ·rw [if_neg c27] at H
            have c27b0 : ((bt a0_0 (ji23)) == 10) = false := beq_eq_false_iff_ne.mpr c27
            have c27b1 : ((bt a0_0 (ji23)) != 10) = true := bne_iff_ne.mpr c27
            simp only [Option.some.injEq, Prod.mk.injEq] at H
            obtain ⟨rfl, rfl, rfl, rfl⟩ := H
            have hnb36 := NB107_108.out
            have hnc36 := NB108_107.out
            have hcz37_0 := cz0 BK107
            have hcz37_1 := cz1 BK107
            have hfz37_0 := blk_frozen BK107.out 0
            have hfz37_1 := blk_frozen BK107.out 1
            have p12 : 0 ≤ (x5_1 : Int) := of_decide_eq_true gq3
            have q12 : x5_1 < (a0_0.size : Int) := of_decide_eq_true gq3
            have hx12 := bt_at a0_0 x5_1
            replace p12 := eq_true p12
            replace q12 := eq_true q12
            have p17 : 0 ≤ (x5_1 : Int) := of_decide_eq_true gq3
            have q17 : x5_1 < (a0_0.size : Int) := of_decide_eq_true gq3
            have hx17 := bt_at a0_0 x5_1
            replace p17 := eq_true p17
            replace q17 := eq_true q17
            have p26 : 0 ≤ ((ji23) : Int) := of_decide_eq_true gq3
            have q26 : (ji23) < (a0_0.size : Int) := of_decide_eq_true gq3
            have hx26 := bt_at a0_0 (ji23)
            replace p26 := eq_true p26
            replace q26 := eq_true q26
            have hcz38_0 := cz0 BK108
            have hcz38_1 := cz1 BK108
            have hfz38_0 := blk_frozen BK108.out 0
            have hfz38_1 := blk_frozen BK108.out 1
            go_wp2
            refine bodyPost_ret (results_list (rs := [.tmp 2, .cell 3 35, .tmp 4]) rfl (by simp) (.tmp (.cell gb108 35 #[.string (⟨#[]⟩ : ByteArray), .int .i64 0] (0, 0) _ rfl gq11 Tryz.underlying35 rfl (by kernel_rfl) (.tmp .nil)))) rfl ?_
            exact ⟨by first | rfl | (simp [errW_none, errW_some] <;> rfl) | (simp only [← hji23]; first | rfl | (simp [errW_none, errW_some] <;> rfl)) | (simp [*, errW_none, errW_some] <;> rfl), gBe⟩
          ·rw [if_neg c25] at H
           exact absurd H (by simp)
         ·rw [if_neg c24] at H
          exact absurd H (by simp)
       ·rw [if_neg c18] at H
        have c18b0 : ((bt a0_0 x5_1) == 13) = false := beq_eq_false_iff_ne.mpr c18
        have c18b1 : ((bt a0_0 x5_1) != 13) = true := bne_iff_ne.mpr c18
        have H' := Aside0.mk H
        clear H
        have hnb39 := NB107_108.out
        have hnc39 := NB108_107.out
        have hcz40_0 := cz0 BK107
        have hcz40_1 := cz1 BK107
        have hfz40_0 := blk_frozen BK107.out 0
        have hfz40_1 := blk_frozen BK107.out 1
        have p12 : 0 ≤ (x5_1 : Int) := of_decide_eq_true gq3
        have q12 : x5_1 < (a0_0.size : Int) := of_decide_eq_true gq3
        have hx12 := bt_at a0_0 x5_1
        replace p12 := eq_true p12
        replace q12 := eq_true q12
        have p17 : 0 ≤ (x5_1 : Int) := of_decide_eq_true gq3
        have q17 : x5_1 < (a0_0.size : Int) := of_decide_eq_true gq3
        have hx17 := bt_at a0_0 x5_1
        replace p17 := eq_true p17
        replace q17 := eq_true q17
        go_wp2
        go_roundg k1
        case measure => have := HK1.out; omega
        case rel => exact ⟨(wrap64 (x5_1 + 1)), (x109000_1), (x109001_1), gq4, H', ⟨by have := HK1.out; omega⟩, ⟨gBk⟩, ⟨gBk⟩, ⟨gBe⟩⟩
     ·rw [if_neg c11] at H
      exact absurd H (by simp)
    ·rw [if_neg c10] at H
     have c10b0 := decide_eq_false c10
     clear c10
     simp only [Option.some.injEq, Prod.mk.injEq] at H
     obtain ⟨rfl, rfl, rfl, rfl⟩ := H
     have hnb41 := NB107_108.out
     have hnc41 := NB108_107.out
     have hcz42_0 := cz0 BK107
     have hcz42_1 := cz1 BK107
     have hfz42_0 := blk_frozen BK107.out 0
     have hfz42_1 := blk_frozen BK107.out 1
     have hcz43_0 := cz0 BK108
     have hcz43_1 := cz1 BK108
     have hfz43_0 := blk_frozen BK108.out 0
     have hfz43_1 := blk_frozen BK108.out 1
     go_wp2
     refine bodyPost_ret (results_list (rs := [.tmp 2, .cell 3 35, .tmp 4]) rfl (by simp) (.tmp (.cell gb108 35 #[.string (⟨#[]⟩ : ByteArray), .int .i64 0] (0, 0) _ rfl gq11 Tryz.underlying35 rfl (by kernel_rfl) (.tmp .nil)))) rfl ?_
     exact ⟨gq2, gBe⟩
 ·replace c3 := Bool.eq_false_iff.mpr c3
  subst c3
  have H1 : (some ((⟨#[]⟩ : ByteArray), (⟨#[]⟩ : ByteArray), 0, 2)) = some (r1, r2, r3, r4) := by rw [if_neg (show ¬ (false = true) by decide)] at H; exact H
  clear H
  have H := H1
  clear H1
  simp only [Option.some.injEq, Prod.mk.injEq] at H
  obtain ⟨rfl, rfl, rfl, rfl⟩ := H
  go_enter Tryz.func15, Tryz.ntmps15
  go_wp2_with (first | ((with_reducible refine gate_dst (N := 1) rfl ?_); refine boxA #[.string a0_0, .int .i64 a0_1] 35 ?_; intro gb107 hg w44 hbox hb; have BK107 := Aside0.mk (hbox); have GW107 := geA hg; have GE107 := geA hg; replace HB := beA hb; clear hb hbox hg) | ((with_reducible refine gate_dst (N := 3) rfl ?_); refine boxA #[.string (⟨#[]⟩ : ByteArray), .int .i64 0] 35 ?_; intro gb108 hg w45 hbox hb; have BK108 := Aside0.mk (hbox); have GW108 := geA hg; have GE108 := geA hg; have NB107_108 := neA (g := gb107) hg; have NB108_107 := neB NB107_108; replace BK107 := blA (g := gb107) hb; replace HB := beA hb; clear hb hbox hg; have hnb46 := NB107_108.out; have hnc46 := NB108_107.out; have hcz47_0 := cz0 BK107; have hcz47_1 := cz1 BK107; have hfz47_0 := blk_frozen BK107.out 0; have hfz47_1 := blk_frozen BK107.out 1) | ((with_reducible refine gate_callee (f := 27) rfl ?_); refine goesL_ (some 7) rfl rfl Tryz.func27 (by kernel_rfl) rfl #[.agg #[.string a0_0, .int .i64 a0_1]] rfl gq1 ?_; (with_reducible refine (spec_CurOk.calls a0_0 a0_1 false _ A2.out).mono ?_); rintro e w48 ⟨rfl, hb⟩; refine ⟨_, rfl, ?_⟩; replace BK107 := blA (g := gb107) hb; replace BK108 := blA (g := gb108) hb; replace HB := beA hb; (try clear hb); (try clear hb2); (try clear hk); (try clear hi); have hcz49_0 := cz0 BK108; have hcz49_1 := cz1 BK108; have hfz49_0 := blk_frozen BK108.out 0; have hfz49_1 := blk_frozen BK108.out 1))
  refine bodyPost_ret (results_list (rs := [.tmp 2, .cell 3 35, .tmp 4]) rfl (by simp) (.tmp (.cell gb108 35 #[.string (⟨#[]⟩ : ByteArray), .int .i64 0] (0, 0) _ rfl (by (with_reducible repeat (first | refine blk_drewN ?_ _ | refine blk_drew ?_ | refine blk_alloc ?_ _)); refine blk_put (cs := #[.string (⟨#[]⟩ : ByteArray), .int .i64 0]) ?_ 1 _ rfl; (with_reducible repeat (first | refine blk_drewN ?_ _ | refine blk_drew ?_ | refine blk_alloc ?_ _)); refine blk_put (cs := #[.string (⟨#[]⟩ : ByteArray), .int .i64 0]) ?_ 0 _ rfl; (with_reducible repeat (first | refine blk_drewN ?_ _ | refine blk_drew ?_ | refine blk_alloc ?_ _)); exact BK108.out) Tryz.underlying35 rfl (by kernel_rfl) (.tmp .nil)))) rfl ?_
  exact ⟨gq2, gBe⟩

end Go.Proofs.YtonmpnghlopnoaaGreatDoor.P
