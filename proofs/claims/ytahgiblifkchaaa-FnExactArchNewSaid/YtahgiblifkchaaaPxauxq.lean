-- Written by a program of ours (myprint.py, by way of the kit's print) out of Lean's print of the translation.
import Derived.Test.YtahgiblifkchaaaPx0
import Derived.Test.YtahgiblifkchaaaPxauxe
import Derived.Test.YtahgiblifkchaaaPxauxp
namespace Go.Proofs.Ytahgiblifkchaaa.P
open Go.RowKit Go.Proofs.YtahgiblifkchaaaW.PrintWords Go.Proofs.YtahgiblifkchaaaW.PrintLast Go.Proofs.YtahgiblifkchaaaW.PrintMore
attribute [local go_sem] max2_int min2_int max_two min_two max_three min_three max_four min_four   -- for this text's walks alone
set_option linter.unusedVariables false
set_option linter.unusedSimpArgs false

/-! ### laws_heldArchive: function 55 -/
def laws_heldArchive.f (k : Nat) (l0_0 : List (S84)) (a0_1 : Int) (a0_2 : Int) (a0_3 : Int) (a0_4 : Int) (a0_5 : Int) (l0_6 : List (S115)) (a1 : Int) : Option (Int) := (laws_heldStore.f k l0_0 a0_1 a1).bind fun t710 => (if t710 < 0 then (none) else ((laws_heldLineS.f k l0_6 t710).bind fun t711 => (if t711 < 0 then (none) else (some t711))))
theorem laws_heldArchive.mono : ∀ a0 a1 a2 a3 a4 a5 a6 a7 k, LeO (laws_heldArchive.f k a0 a1 a2 a3 a4 a5 a6 a7) (laws_heldArchive.f (k + 1) a0 a1 a2 a3 a4 a5 a6 a7) := by
  intro a0 a1 a2 a3 a4 a5 a6 a7 k
  unfold laws_heldArchive.f
  repeat' first
      | (with_reducible exact laws_heldLineS.mono _ _ _)
      | (with_reducible exact laws_heldStore.mono _ _ _ _)
      | (with_reducible exact LeO.refl _)
      | (with_reducible exact LeO.none _)
      | (with_reducible refine LeO.ite ?_ ?_)
      | (with_reducible refine LeO.bind ?_ (fun _ => ?_))
      | exact laws_heldLineS.mono _ _ _
      | exact laws_heldStore.mono _ _ _ _
      | exact LeO.none _
      | refine LeO.ite ?_ ?_
      | refine LeO.bind ?_ (fun _ => ?_)
set_option maxHeartbeats 8000000 in
set_option maxRecDepth 100000 in
theorem laws_heldArchive.calls (k : Nat) (A0_0 : Option Addr) (c0_0 : Nat) (l0_0 : List (S84)) (a0_1 : Int) (a0_2 : Int) (a0_3 : Int) (a0_4 : Int) (a0_5 : Int) (A0_6 : Option Addr) (c0_6 : Nat) (l0_6 : List (S115)) (a1 : Int) (r : Int) (w : World) (hr0_0 : Kd.C k84 w A0_0 l0_0.length l0_0) (hc0_0 : l0_0.length ≤ c0_0) (hr0_6 : Kd.C k115 w A0_6 l0_6.length l0_6) (hc0_6 : l0_6.length ≤ c0_6) (h : laws_heldArchive.f k l0_0 a0_1 a0_2 a0_3 a0_4 a0_5 l0_6 a1 = some r) :
    Calls Try.prog 55 #[.agg #[.slice A0_0 l0_0.length c0_0, .int .i64 a0_1, .int .i64 a0_2, .int .i64 a0_3, .int .i64 a0_4, .int .i64 a0_5, .slice A0_6 l0_6.length c0_6], .int .i64 a1] w fun e w' => e = .returned (.int .i64 r) ∧ Below w.heap.size w w' := by
  have hu61 := Try.underlying61
  have hu34 := Try.underlying34
  have HR0_0 := Aside0.mk hr0_0
  have HC0_0 := Aside0.mk hc0_0
  clear hr0_0 hc0_0
  have HR0_6 := Aside0.mk hr0_6
  have HC0_6 := Aside0.mk hc0_6
  clear hr0_6 hc0_6
  have HB := Aside0.mk (Below.refl w.heap.size w)
  have H : ((laws_heldStore.f k l0_0 a0_1 a1).bind fun t710 => (if t710 < 0 then (none) else ((laws_heldLineS.f k l0_6 t710).bind fun t711 => (if t711 < 0 then (none) else (some t711))))) = some r := h
  clear h
  replace H := Option.bind_eq_some_iff.mp H
  obtain ⟨t710, A30, H⟩ := H
  replace H : (if t710 < 0 then (none) else ((laws_heldLineS.f k l0_6 t710).bind fun t711 => (if t711 < 0 then (none) else (some t711)))) = some r := H
  have A3 := Aside0.mk A30
  clear A30
  by_cases c4 : t710 < 0
  · rw [if_pos c4] at H
    exact absurd H (by simp)
  · rw [if_neg c4] at H
    have c4b0 : decide (t710 < 0) = false := decide_eq_false c4
    clear c4
    replace H := Option.bind_eq_some_iff.mp H
    obtain ⟨t711, A50, H⟩ := H
    replace H : (if t711 < 0 then (none) else (some t711)) = some r := H
    have A5 := Aside0.mk A50
    clear A50
    by_cases c6 : t711 < 0
    · rw [if_pos c6] at H
      exact absurd H (by simp)
    · rw [if_neg c6] at H
      have c6b0 : decide (t711 < 0) = false := decide_eq_false c6
      clear c6
      obtain rfl := Option.some.inj H
      go_enter Try.func55, Try.ntmps55
      go_wp2_with (first | ((with_reducible refine gate_dst (N := 2) rfl ?_); refine box_event ?hg (N := 2) ?hd (cs := #[.slice A0_0 l0_0.length c0_0, .int .i64 a0_1, .int .i64 a0_2, .int .i64 a0_3, .int .i64 a0_4, .int .i64 a0_5, .slice A0_6 l0_6.length c0_6]) (t := 61) ?hr ?_; (case hd => rfl); (case hg => rfl); (case hr => first | (go_simp; done) | (go_simp; rfl)); intro gb709 hg w7 hbox hb; have n0_ := Aside0.mk (below_step (by repeat (first | (with_reducible first | exact HB.out | apply below_alloc | apply pw_below_drewN | apply below_drew1) | exact HB.out)) hb); have n1_ := Aside0.mk (hbox); have n2_ := Aside0.mk ((by rw [hg]; exact (below_size (by repeat (first | (with_reducible first | exact HB.out | apply below_alloc | apply pw_below_drewN | apply below_drew1) | exact HB.out))) : w.heap.size ≤ gb709)); have n3_ := Aside0.mk ((by rw [hg]; exact (below_size (by repeat (first | (with_reducible first | exact HB.out | apply below_alloc | apply pw_below_drewN | apply below_drew1) | exact HB.out))) : w.heap.size ≤ gb709)); clear HB; have HB := n0_; have BK709 := n1_; have GW709 := n2_; have GE709 := n3_; clear n0_ n1_ n2_ n3_; clear hb hbox hg; have hcz8_0 : w7.cell? ⟨gb709, 0, none⟩ = some (.slice A0_0 l0_0.length c0_0) := (blk_cell BK709.out 0).trans rfl; have hcz8_1 : w7.cell? ⟨gb709, 1, none⟩ = some (.int .i64 a0_1) := (blk_cell BK709.out 1).trans rfl; have hcz8_2 : w7.cell? ⟨gb709, 2, none⟩ = some (.int .i64 a0_2) := (blk_cell BK709.out 2).trans rfl; have hcz8_3 : w7.cell? ⟨gb709, 3, none⟩ = some (.int .i64 a0_3) := (blk_cell BK709.out 3).trans rfl; have hcz8_4 : w7.cell? ⟨gb709, 4, none⟩ = some (.int .i64 a0_4) := (blk_cell BK709.out 4).trans rfl; have hcz8_5 : w7.cell? ⟨gb709, 5, none⟩ = some (.int .i64 a0_5) := (blk_cell BK709.out 5).trans rfl; have hcz8_6 : w7.cell? ⟨gb709, 6, none⟩ = some (.slice A0_6 l0_6.length c0_6) := (blk_cell BK709.out 6).trans rfl; have hfz8_0 := blk_frozen BK709.out 0; have hfz8_1 := blk_frozen BK709.out 1; have hfz8_2 := blk_frozen BK709.out 2; have hfz8_3 := blk_frozen BK709.out 3; have hfz8_4 := blk_frozen BK709.out 4; have hfz8_5 := blk_frozen BK709.out 5; have hfz8_6 := blk_frozen BK709.out 6) | ((with_reducible refine gate_callee (f := 31) rfl ?_); refine goesL_ (some 8) rfl rfl Try.func31 (by kernel_rfl) rfl #[.agg #[.slice A0_0 l0_0.length c0_0, .int .i64 a0_1], .int .i64 a1] rfl (by (try simp only [List.map_toArray, List.map_cons, List.map_nil]); first | done | rfl | (simp only [List.length_drop, List.length_take]; rfl)) ?_; (with_reducible refine (laws_heldStore.calls k _ _ l0_0 a0_1 a1 t710 _ ?side1 ?side2 A3.out).mono ?_); (case side1 => repeat (first | exact (Kd.C_below HR0_0.out HB.out) | (with_reducible refine Kd.C_alloc ?_ _) | (with_reducible refine Kd.C_drewN ?_ _) | (with_reducible refine Kd.C_drew ?_))); (case side2 => exact HC0_0.out); rintro e w9 ⟨rfl, hb⟩; refine ⟨_, rfl, ?_⟩; have n0_ := Aside0.mk (blk_below (g := gb709) (o := .cells #[.slice A0_0 l0_0.length c0_0, .int .i64 a0_1, .int .i64 a0_2, .int .i64 a0_3, .int .i64 a0_4, .int .i64 a0_5, .slice A0_6 l0_6.length c0_6] 61 (0, 0)) (by (with_reducible repeat (first | refine blk_drewN ?_ _ | refine blk_drew ?_ | refine blk_alloc ?_ _)); exact BK709.out) hb); have n1_ := Aside0.mk (below_step (by repeat (first | (with_reducible first | exact HB.out | apply below_alloc | apply pw_below_drewN | apply below_drew1 | refine below_set ?_ GE709.out) | exact HB.out)) hb); clear BK709; clear HB; have BK709 := n0_; have HB := n1_; clear n0_ n1_; (try clear hb); (try clear hb2); (try clear hk); (try clear hi); have hcz10_0 : w9.cell? ⟨gb709, 0, none⟩ = some (.slice A0_0 l0_0.length c0_0) := (blk_cell BK709.out 0).trans rfl; have hcz10_1 : w9.cell? ⟨gb709, 1, none⟩ = some (.int .i64 a0_1) := (blk_cell BK709.out 1).trans rfl; have hcz10_2 : w9.cell? ⟨gb709, 2, none⟩ = some (.int .i64 a0_2) := (blk_cell BK709.out 2).trans rfl; have hcz10_3 : w9.cell? ⟨gb709, 3, none⟩ = some (.int .i64 a0_3) := (blk_cell BK709.out 3).trans rfl; have hcz10_4 : w9.cell? ⟨gb709, 4, none⟩ = some (.int .i64 a0_4) := (blk_cell BK709.out 4).trans rfl; have hcz10_5 : w9.cell? ⟨gb709, 5, none⟩ = some (.int .i64 a0_5) := (blk_cell BK709.out 5).trans rfl; have hcz10_6 : w9.cell? ⟨gb709, 6, none⟩ = some (.slice A0_6 l0_6.length c0_6) := (blk_cell BK709.out 6).trans rfl; have hfz10_0 := blk_frozen BK709.out 0; have hfz10_1 := blk_frozen BK709.out 1; have hfz10_2 := blk_frozen BK709.out 2; have hfz10_3 := blk_frozen BK709.out 3; have hfz10_4 := blk_frozen BK709.out 4; have hfz10_5 := blk_frozen BK709.out 5; have hfz10_6 := blk_frozen BK709.out 6) | ((with_reducible refine gate_callee (f := 100) rfl ?_); refine goesL_ (some 14) rfl rfl Try.func100 (by kernel_rfl) rfl #[.slice A0_6 l0_6.length c0_6, .int .i64 t710] rfl (by (try simp only [List.map_toArray, List.map_cons, List.map_nil]); first | done | rfl | (simp only [List.length_drop, List.length_take]; rfl)) ?_; (with_reducible refine (laws_heldLineS.calls k _ _ l0_6 t710 t711 _ ?side1 ?side2 A5.out).mono ?_); (case side1 => repeat (first | exact (Kd.C_below HR0_6.out HB.out) | (with_reducible refine Kd.C_alloc ?_ _) | (with_reducible refine Kd.C_drewN ?_ _) | (with_reducible refine Kd.C_drew ?_))); (case side2 => exact HC0_6.out); rintro e w11 ⟨rfl, hb⟩; refine ⟨_, rfl, ?_⟩; have n0_ := Aside0.mk (blk_below (g := gb709) (o := .cells #[.slice A0_0 l0_0.length c0_0, .int .i64 a0_1, .int .i64 a0_2, .int .i64 a0_3, .int .i64 a0_4, .int .i64 a0_5, .slice A0_6 l0_6.length c0_6] 61 (0, 0)) (by (with_reducible repeat (first | refine blk_drewN ?_ _ | refine blk_drew ?_ | refine blk_alloc ?_ _)); exact BK709.out) hb); have n1_ := Aside0.mk (below_step (by repeat (first | (with_reducible first | exact HB.out | apply below_alloc | apply pw_below_drewN | apply below_drew1 | refine below_set ?_ GE709.out) | exact HB.out)) hb); clear BK709; clear HB; have BK709 := n0_; have HB := n1_; clear n0_ n1_; (try clear hb); (try clear hb2); (try clear hk); (try clear hi)))
      go_ret
      exact ⟨by first | rfl | (simp [errW_none, errW_some] <;> rfl) | (simp [*, errW_none, errW_some] <;> rfl), by repeat (first | (with_reducible first | exact HB.out | apply below_alloc | apply pw_below_drewN | apply below_drew1 | refine below_set ?_ GE709.out) | exact HB.out)⟩

end Go.Proofs.Ytahgiblifkchaaa.P
