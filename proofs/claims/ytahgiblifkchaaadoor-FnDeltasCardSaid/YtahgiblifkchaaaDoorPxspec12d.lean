-- Written by a program of ours (myprint.py, by way of the kit's print) out of Lean's print of the translation.
import Derived.Test.YtahgiblifkchaaaDoorPx0
import Derived.Test.YtahgiblifkchaaaDoorPxspec12c
namespace Go.Proofs.YtahgiblifkchaaaDoor.P
open Go.RowKit Go.Proofs.YtahgiblifkchaaaDoorW.PrintWords Go.Proofs.YtahgiblifkchaaaDoorW.PrintLast Go.Proofs.YtahgiblifkchaaaDoorW.PrintMore
attribute [local go_sem] max2_int min2_int max_two min_two max_three min_three max_four min_four   -- for this text's walks alone
set_option linter.unusedVariables false
set_option linter.unusedSimpArgs false

def spec_DrawDirsText.f (k : Nat) (l0 : List Int) : Option (Bool × Bool × Bool × Bool × Bool × Bool × Int × Int × Int × Int) := (spec_DrawDirsOk.f k l0).bind fun bt456 => (some (bt456.1, bt456.2.1, bt456.2.2.1, bt456.2.2.2.1, bt456.2.2.2.2.1, bt456.2.2.2.2.2.1, bt456.2.2.2.2.2.2.1, bt456.2.2.2.2.2.2.2.1, bt456.2.2.2.2.2.2.2.2.1, bt456.2.2.2.2.2.2.2.2.2))
theorem spec_DrawDirsText.mono : ∀ a0 k, LeO (spec_DrawDirsText.f k a0) (spec_DrawDirsText.f (k + 1) a0) := by
 intro a0 k
 unfold spec_DrawDirsText.f
 repeat' first
   | (with_reducible exact spec_DrawDirsOk.mono _ _)
   | (with_reducible exact LeO.refl _)
   | (with_reducible exact LeO.none _)
   | (with_reducible refine LeO.ite ?_ ?_)
   | (with_reducible refine LeO.bind ?_ (fun _ => ?_))
   | exact spec_DrawDirsOk.mono _ _
   | exact LeO.none _
   | refine LeO.ite ?_ ?_
   | refine LeO.bind ?_ (fun _ => ?_)
set_option maxHeartbeats 8000000 in
set_option maxRecDepth 100000 in
theorem spec_DrawDirsText.calls (k : Nat) (A0 : Option Addr) (c0 : Nat) (l0 : List Int) (r1 : Bool) (r2 : Bool) (r3 : Bool) (r4 : Bool) (r5 : Bool) (r6 : Bool) (r7 : Int) (r8 : Int) (r9 : Int) (r10 : Int) (w : World) (hr0 : Kd.C (Kd.int .u8) w A0 l0.length l0) (hc0 : l0.length ≤ c0) (h : spec_DrawDirsText.f k l0 = some (r1, r2, r3, r4, r5, r6, r7, r8, r9, r10)) :
  Calls Tryd.prog 9 #[.slice A0 l0.length c0] w fun e w' => e = .returned (.agg #[.bool r1, .bool r2, .bool r3, .bool r4, .bool r5, .bool r6, .int .i64 r7, .int .i64 r8, .int .i64 r9, .int .i64 r10]) ∧ Below w.heap.size w w' := by
 have hu25 := Tryd.underlying25
 have HR0 := Aside0.mk hr0
 have HC0 := Aside0.mk hc0
 clear hr0 hc0
 have HB := Aside0.mk (Below.refl w.heap.size w)
 have H : ((spec_DrawDirsOk.f k l0).bind fun bt456 => (some (bt456.1, bt456.2.1, bt456.2.2.1, bt456.2.2.2.1, bt456.2.2.2.2.1, bt456.2.2.2.2.2.1, bt456.2.2.2.2.2.2.1, bt456.2.2.2.2.2.2.2.1, bt456.2.2.2.2.2.2.2.2.1, bt456.2.2.2.2.2.2.2.2.2))) = some (r1, r2, r3, r4, r5, r6, r7, r8, r9, r10) := h
 clear h
 replace H := Option.bind_eq_some_iff.mp H
 obtain ⟨⟨t456, t457, t458, t459, t460, t461, t462, t463, t464, t465⟩, A20, H⟩ := H
 replace H : (some (t456, t457, t458, t459, t460, t461, t462, t463, t464, t465)) = some (r1, r2, r3, r4, r5, r6, r7, r8, r9, r10) := H
 have A2 := Aside0.mk A20
 clear A20
 simp only [Option.some.injEq, Prod.mk.injEq] at H
 obtain ⟨rfl, rfl, rfl, rfl, rfl, rfl, rfl, rfl, rfl, rfl⟩ := H
 go_enter Tryd.func9, Tryd.ntmps9
 go_wp2_with (first | ((with_reducible refine gate_dst (N := 2) rfl ?_); refine box_event ?hg (N := 2) ?hd (cs := #[.bool false, .bool false, .bool false, .bool false, .bool false, .bool false, .int .i64 0, .int .i64 0, .int .i64 0, .int .i64 0]) (t := 25) ?hr ?_; (case hd => rfl); (case hg => rfl); (case hr => first | (go_simp; done) | (go_simp; rfl)); intro gb455 hg w3 hbox hb; have n0_ := Aside0.mk (below_step (by repeat (first | (with_reducible first | exact HB.out | apply below_alloc | apply pw_below_drewN | apply below_drew1) | exact HB.out)) hb); have n1_ := Aside0.mk (hbox); have n2_ := Aside0.mk ((by rw [hg]; exact (below_size (by repeat (first | (with_reducible first | exact HB.out | apply below_alloc | apply pw_below_drewN | apply below_drew1) | exact HB.out))) : w.heap.size ≤ gb455)); have n3_ := Aside0.mk ((by rw [hg]; exact (below_size (by repeat (first | (with_reducible first | exact HB.out | apply below_alloc | apply pw_below_drewN | apply below_drew1) | exact HB.out))) : w.heap.size ≤ gb455)); clear HB; have HB := n0_; have BK455 := n1_; have GW455 := n2_; have GE455 := n3_; clear n0_ n1_ n2_ n3_; clear hb hbox hg) | ((with_reducible refine gate_callee (f := 23) rfl ?_); refine goesL_ (some 4) rfl rfl Tryd.func23 (by kernel_rfl) rfl #[.slice A0 l0.length c0] rfl (by (try simp only [List.map_toArray, List.map_cons, List.map_nil]); first | done | rfl | (simp only [List.length_drop, List.length_take]; rfl)) ?_; (with_reducible refine (spec_DrawDirsOk.calls k _ _ l0 t456 t457 t458 t459 t460 t461 t462 t463 t464 t465 _ ?side1 ?side2 A2.out).mono ?_); (case side1 => repeat (first | exact (Kd.C_below HR0.out HB.out) | (with_reducible refine Kd.C_alloc ?_ _) | (with_reducible refine Kd.C_drewN ?_ _) | (with_reducible refine Kd.C_drew ?_))); (case side2 => exact HC0.out); rintro e w4 ⟨rfl, hb⟩; refine ⟨_, rfl, ?_⟩; have n0_ := Aside0.mk (blk_below (g := gb455) (o := .cells #[.bool false, .bool false, .bool false, .bool false, .bool false, .bool false, .int .i64 0, .int .i64 0, .int .i64 0, .int .i64 0] 25 (0, 0)) (by (with_reducible repeat (first | refine blk_drewN ?_ _ | refine blk_drew ?_ | refine blk_alloc ?_ _)); exact BK455.out) hb); have n1_ := Aside0.mk (below_step (by repeat (first | (with_reducible first | exact HB.out | apply below_alloc | apply pw_below_drewN | apply below_drew1 | refine below_set ?_ GE455.out) | exact HB.out)) hb); clear BK455; clear HB; have BK455 := n0_; have HB := n1_; clear n0_ n1_; (try clear hb); (try clear hb2); (try clear hk); (try clear hi); have hcz5_0 : w4.cell? ⟨gb455, 0, none⟩ = some (.bool false) := (blk_cell BK455.out 0).trans rfl; have hcz5_1 : w4.cell? ⟨gb455, 1, none⟩ = some (.bool false) := (blk_cell BK455.out 1).trans rfl; have hcz5_2 : w4.cell? ⟨gb455, 2, none⟩ = some (.bool false) := (blk_cell BK455.out 2).trans rfl; have hcz5_3 : w4.cell? ⟨gb455, 3, none⟩ = some (.bool false) := (blk_cell BK455.out 3).trans rfl; have hcz5_4 : w4.cell? ⟨gb455, 4, none⟩ = some (.bool false) := (blk_cell BK455.out 4).trans rfl; have hcz5_5 : w4.cell? ⟨gb455, 5, none⟩ = some (.bool false) := (blk_cell BK455.out 5).trans rfl; have hcz5_6 : w4.cell? ⟨gb455, 6, none⟩ = some (.int .i64 0) := (blk_cell BK455.out 6).trans rfl; have hcz5_7 : w4.cell? ⟨gb455, 7, none⟩ = some (.int .i64 0) := (blk_cell BK455.out 7).trans rfl; have hcz5_8 : w4.cell? ⟨gb455, 8, none⟩ = some (.int .i64 0) := (blk_cell BK455.out 8).trans rfl; have hcz5_9 : w4.cell? ⟨gb455, 9, none⟩ = some (.int .i64 0) := (blk_cell BK455.out 9).trans rfl; have hfz5_0 := blk_frozen BK455.out 0; have hfz5_1 := blk_frozen BK455.out 1; have hfz5_2 := blk_frozen BK455.out 2; have hfz5_3 := blk_frozen BK455.out 3; have hfz5_4 := blk_frozen BK455.out 4; have hfz5_5 := blk_frozen BK455.out 5; have hfz5_6 := blk_frozen BK455.out 6; have hfz5_7 := blk_frozen BK455.out 7; have hfz5_8 := blk_frozen BK455.out 8; have hfz5_9 := blk_frozen BK455.out 9))
 refine bodyPost_ret (results_cell_row rfl _ _ gb455 25 #[.bool t456, .bool t457, .bool t458, .bool t459, .bool t460, .bool t461, .int .i64 t462, .int .i64 t463, .int .i64 t464, .int .i64 t465] (0, 0) _ rfl (by (with_reducible repeat (first | refine blk_drewN ?_ _ | refine blk_drew ?_ | refine blk_alloc ?_ _)); refine blk_put (cs := #[.bool t456, .bool t457, .bool t458, .bool t459, .bool t460, .bool t461, .int .i64 t462, .int .i64 t463, .int .i64 t464, .int .i64 0]) ?_ 9 _ rfl; (with_reducible repeat (first | refine blk_drewN ?_ _ | refine blk_drew ?_ | refine blk_alloc ?_ _)); refine blk_put (cs := #[.bool t456, .bool t457, .bool t458, .bool t459, .bool t460, .bool t461, .int .i64 t462, .int .i64 t463, .int .i64 0, .int .i64 0]) ?_ 8 _ rfl; (with_reducible repeat (first | refine blk_drewN ?_ _ | refine blk_drew ?_ | refine blk_alloc ?_ _)); refine blk_put (cs := #[.bool t456, .bool t457, .bool t458, .bool t459, .bool t460, .bool t461, .int .i64 t462, .int .i64 0, .int .i64 0, .int .i64 0]) ?_ 7 _ rfl; (with_reducible repeat (first | refine blk_drewN ?_ _ | refine blk_drew ?_ | refine blk_alloc ?_ _)); refine blk_put (cs := #[.bool t456, .bool t457, .bool t458, .bool t459, .bool t460, .bool t461, .int .i64 0, .int .i64 0, .int .i64 0, .int .i64 0]) ?_ 6 _ rfl; (with_reducible repeat (first | refine blk_drewN ?_ _ | refine blk_drew ?_ | refine blk_alloc ?_ _)); refine blk_put (cs := #[.bool t456, .bool t457, .bool t458, .bool t459, .bool t460, .bool false, .int .i64 0, .int .i64 0, .int .i64 0, .int .i64 0]) ?_ 5 _ rfl; (with_reducible repeat (first | refine blk_drewN ?_ _ | refine blk_drew ?_ | refine blk_alloc ?_ _)); refine blk_put (cs := #[.bool t456, .bool t457, .bool t458, .bool t459, .bool false, .bool false, .int .i64 0, .int .i64 0, .int .i64 0, .int .i64 0]) ?_ 4 _ rfl; (with_reducible repeat (first | refine blk_drewN ?_ _ | refine blk_drew ?_ | refine blk_alloc ?_ _)); refine blk_put (cs := #[.bool t456, .bool t457, .bool t458, .bool false, .bool false, .bool false, .int .i64 0, .int .i64 0, .int .i64 0, .int .i64 0]) ?_ 3 _ rfl; (with_reducible repeat (first | refine blk_drewN ?_ _ | refine blk_drew ?_ | refine blk_alloc ?_ _)); refine blk_put (cs := #[.bool t456, .bool t457, .bool false, .bool false, .bool false, .bool false, .int .i64 0, .int .i64 0, .int .i64 0, .int .i64 0]) ?_ 2 _ rfl; (with_reducible repeat (first | refine blk_drewN ?_ _ | refine blk_drew ?_ | refine blk_alloc ?_ _)); refine blk_put (cs := #[.bool t456, .bool false, .bool false, .bool false, .bool false, .bool false, .int .i64 0, .int .i64 0, .int .i64 0, .int .i64 0]) ?_ 1 _ rfl; (with_reducible repeat (first | refine blk_drewN ?_ _ | refine blk_drew ?_ | refine blk_alloc ?_ _)); refine blk_put (cs := #[.bool false, .bool false, .bool false, .bool false, .bool false, .bool false, .int .i64 0, .int .i64 0, .int .i64 0, .int .i64 0]) ?_ 0 _ rfl; (with_reducible repeat (first | refine blk_drewN ?_ _ | refine blk_drew ?_ | refine blk_alloc ?_ _)); exact BK455.out) Tryd.underlying25 rfl (by kernel_rfl)) rfl ?_
 exact ⟨by first | rfl | (simp [errW_none, errW_some] <;> rfl) | (simp [*, errW_none, errW_some] <;> rfl), by repeat (first | (with_reducible first | exact HB.out | apply below_alloc | apply pw_below_drewN | apply below_drew1 | refine below_set ?_ GE455.out) | exact HB.out)⟩

def spec_l12said.f (a0 : Int) : Option (Bool) := if a0 ≥ (-1) then (some (decide (a0 ≤ 2147483648))) else (some false)
set_option maxHeartbeats 8000000 in
set_option maxRecDepth 100000 in
theorem spec_l12said.calls (a0 : Int) (r : Bool) (w : World) (h : spec_l12said.f a0 = some r) :
  Calls Tryd.prog 24 #[.int .i64 a0] w fun e w' => e = .returned (.bool r) ∧ Drawn0 w w' := by
 have H : (if a0 ≥ (-1) then (some (decide (a0 ≤ 2147483648))) else (some false)) = some r := h
 clear h
 by_cases c2 : a0 ≥ (-1)
 ·rw [if_pos c2] at H
  have c2b0 : decide ((-1) ≤ a0) = true := decide_eq_true c2
  clear c2
  obtain rfl := Option.some.inj H
  go_enter Tryd.func24, Tryd.ntmps24
  go_wp2
  go_ret
  exact ⟨by first | rfl | (simp; done) | (simp [*]; done), by repeat (first | exact Drawn0.refl _ | apply Drawn0.step)⟩
 ·rw [if_neg c2] at H
  have c2b0 : decide ((-1) ≤ a0) = false := decide_eq_false c2
  clear c2
  obtain rfl := Option.some.inj H
  go_enter Tryd.func24, Tryd.ntmps24
  go_wp2
  go_ret
  exact ⟨by first | rfl | (simp; done) | (simp [*]; done), by repeat (first | exact Drawn0.refl _ | apply Drawn0.step)⟩

def spec_DirsOk.f (a0_0 : Bool) (a0_1 : Bool) (a0_2 : Bool) (a0_3 : Bool) (a0_4 : Bool) (a0_5 : Bool) (a0_6 : Int) (a0_7 : Int) (a0_8 : Int) (a0_9 : Int) : Option (Bool) := (spec_l12said.f a0_6).bind fun t495 => (if t495 = true then ((spec_l12said.f a0_7).bind fun t496 => (if t496 = true then ((spec_l12said.f a0_8).bind fun t497 => (if t497 = true then ((spec_l12said.f a0_9).bind fun t498 => (some t498)) else (some false))) else (some false))) else (some false))
set_option maxHeartbeats 8000000 in
set_option maxRecDepth 100000 in
theorem spec_DirsOk.calls (a0_0 : Bool) (a0_1 : Bool) (a0_2 : Bool) (a0_3 : Bool) (a0_4 : Bool) (a0_5 : Bool) (a0_6 : Int) (a0_7 : Int) (a0_8 : Int) (a0_9 : Int) (r : Bool) (w : World) (h : spec_DirsOk.f a0_0 a0_1 a0_2 a0_3 a0_4 a0_5 a0_6 a0_7 a0_8 a0_9 = some r) :
  Calls Tryd.prog 10 #[.agg #[.bool a0_0, .bool a0_1, .bool a0_2, .bool a0_3, .bool a0_4, .bool a0_5, .int .i64 a0_6, .int .i64 a0_7, .int .i64 a0_8, .int .i64 a0_9]] w fun e w' => e = .returned (.bool r) ∧ Below w.heap.size w w' := by
 have hu25 := Tryd.underlying25
 have HB := Aside0.mk (Below.refl w.heap.size w)
 have H : ((spec_l12said.f a0_6).bind fun t495 => (if t495 = true then ((spec_l12said.f a0_7).bind fun t496 => (if t496 = true then ((spec_l12said.f a0_8).bind fun t497 => (if t497 = true then ((spec_l12said.f a0_9).bind fun t498 => (some t498)) else (some false))) else (some false))) else (some false))) = some r := h
 clear h
 replace H := Option.bind_eq_some_iff.mp H
 obtain ⟨t495, A20, H⟩ := H
 replace H : (if t495 = true then ((spec_l12said.f a0_7).bind fun t496 => (if t496 = true then ((spec_l12said.f a0_8).bind fun t497 => (if t497 = true then ((spec_l12said.f a0_9).bind fun t498 => (some t498)) else (some false))) else (some false))) else (some false)) = some r := H
 have A2 := Aside0.mk A20
 clear A20
 by_cases c3 : t495 = true
 ·subst c3
  have H1 : ((spec_l12said.f a0_7).bind fun t496 => (if t496 = true then ((spec_l12said.f a0_8).bind fun t497 => (if t497 = true then ((spec_l12said.f a0_9).bind fun t498 => (some t498)) else (some false))) else (some false))) = some r := by rw [if_pos rfl] at H; exact H
  clear H
  have H := H1
  clear H1
  replace H := Option.bind_eq_some_iff.mp H
  obtain ⟨t496, A40, H⟩ := H
  replace H : (if t496 = true then ((spec_l12said.f a0_8).bind fun t497 => (if t497 = true then ((spec_l12said.f a0_9).bind fun t498 => (some t498)) else (some false))) else (some false)) = some r := H
  have A4 := Aside0.mk A40
  clear A40
  by_cases c5 : t496 = true
  ·subst c5
   have H1 : ((spec_l12said.f a0_8).bind fun t497 => (if t497 = true then ((spec_l12said.f a0_9).bind fun t498 => (some t498)) else (some false))) = some r := by rw [if_pos rfl] at H; exact H
   clear H
   have H := H1
   clear H1
   replace H := Option.bind_eq_some_iff.mp H
   obtain ⟨t497, A60, H⟩ := H
   replace H : (if t497 = true then ((spec_l12said.f a0_9).bind fun t498 => (some t498)) else (some false)) = some r := H
   have A6 := Aside0.mk A60
   clear A60
   by_cases c7 : t497 = true
   ·subst c7
    have H1 : ((spec_l12said.f a0_9).bind fun t498 => (some t498)) = some r := by rw [if_pos rfl] at H; exact H
    clear H
    have H := H1
    clear H1
    replace H := Option.bind_eq_some_iff.mp H
    obtain ⟨t498, A80, H⟩ := H
    replace H : (some t498) = some r := H
    have A8 := Aside0.mk A80
    clear A80
    obtain rfl := Option.some.inj H
    go_enter Tryd.func10, Tryd.ntmps10
    go_wp2_with (first | ((with_reducible refine gate_dst (N := 1) rfl ?_); refine box_event ?hg (N := 1) ?hd (cs := #[.bool a0_0, .bool a0_1, .bool a0_2, .bool a0_3, .bool a0_4, .bool a0_5, .int .i64 a0_6, .int .i64 a0_7, .int .i64 a0_8, .int .i64 a0_9]) (t := 25) ?hr ?_; (case hd => rfl); (case hg => rfl); (case hr => first | (go_simp; done) | (go_simp; rfl)); intro gb494 hg w9 hbox hb; have n0_ := Aside0.mk (below_step (by repeat (first | (with_reducible first | exact HB.out | apply below_alloc | apply pw_below_drewN | apply below_drew1) | exact HB.out)) hb); have n1_ := Aside0.mk (hbox); have n2_ := Aside0.mk ((by rw [hg]; exact (below_size (by repeat (first | (with_reducible first | exact HB.out | apply below_alloc | apply pw_below_drewN | apply below_drew1) | exact HB.out))) : w.heap.size ≤ gb494)); have n3_ := Aside0.mk ((by rw [hg]; exact (below_size (by repeat (first | (with_reducible first | exact HB.out | apply below_alloc | apply pw_below_drewN | apply below_drew1) | exact HB.out))) : w.heap.size ≤ gb494)); clear HB; have HB := n0_; have BK494 := n1_; have GW494 := n2_; have GE494 := n3_; clear n0_ n1_ n2_ n3_; clear hb hbox hg; have hcz10_0 : w9.cell? ⟨gb494, 0, none⟩ = some (.bool a0_0) := (blk_cell BK494.out 0).trans rfl; have hcz10_1 : w9.cell? ⟨gb494, 1, none⟩ = some (.bool a0_1) := (blk_cell BK494.out 1).trans rfl; have hcz10_2 : w9.cell? ⟨gb494, 2, none⟩ = some (.bool a0_2) := (blk_cell BK494.out 2).trans rfl; have hcz10_3 : w9.cell? ⟨gb494, 3, none⟩ = some (.bool a0_3) := (blk_cell BK494.out 3).trans rfl; have hcz10_4 : w9.cell? ⟨gb494, 4, none⟩ = some (.bool a0_4) := (blk_cell BK494.out 4).trans rfl; have hcz10_5 : w9.cell? ⟨gb494, 5, none⟩ = some (.bool a0_5) := (blk_cell BK494.out 5).trans rfl; have hcz10_6 : w9.cell? ⟨gb494, 6, none⟩ = some (.int .i64 a0_6) := (blk_cell BK494.out 6).trans rfl; have hcz10_7 : w9.cell? ⟨gb494, 7, none⟩ = some (.int .i64 a0_7) := (blk_cell BK494.out 7).trans rfl; have hcz10_8 : w9.cell? ⟨gb494, 8, none⟩ = some (.int .i64 a0_8) := (blk_cell BK494.out 8).trans rfl; have hcz10_9 : w9.cell? ⟨gb494, 9, none⟩ = some (.int .i64 a0_9) := (blk_cell BK494.out 9).trans rfl; have hfz10_0 := blk_frozen BK494.out 0; have hfz10_1 := blk_frozen BK494.out 1; have hfz10_2 := blk_frozen BK494.out 2; have hfz10_3 := blk_frozen BK494.out 3; have hfz10_4 := blk_frozen BK494.out 4; have hfz10_5 := blk_frozen BK494.out 5; have hfz10_6 := blk_frozen BK494.out 6; have hfz10_7 := blk_frozen BK494.out 7; have hfz10_8 := blk_frozen BK494.out 8; have hfz10_9 := blk_frozen BK494.out 9) | ((with_reducible refine gate_callee (f := 24) rfl ?_); refine goesL_ (some 5) rfl rfl Tryd.func24 (by kernel_rfl) rfl #[.int .i64 a0_6] rfl (by (try simp only [List.map_toArray, List.map_cons, List.map_nil]); first | done | rfl | (simp only [List.length_drop, List.length_take]; rfl)) ?_; (with_reducible refine (spec_l12said.calls a0_6 true _ A2.out).mono ?_); rintro e w' ⟨rfl, ⟨nd, rfl⟩⟩; refine ⟨_, rfl, ?_⟩) | (go_at_call 24; (with_reducible refine (spec_l12said.calls a0_7 true _ A4.out).mono ?_); rintro e w' ⟨rfl, ⟨nd, rfl⟩⟩) | (go_at_call 24; (with_reducible refine (spec_l12said.calls a0_8 true _ A6.out).mono ?_); rintro e w' ⟨rfl, ⟨nd, rfl⟩⟩) | (go_at_call 24; (with_reducible refine (spec_l12said.calls a0_9 t498 _ A8.out).mono ?_); rintro e w' ⟨rfl, ⟨nd, rfl⟩⟩))
    go_ret
    exact ⟨by first | rfl | (simp [errW_none, errW_some] <;> rfl) | (simp [*, errW_none, errW_some] <;> rfl), by repeat (first | (with_reducible first | exact HB.out | apply below_alloc | apply pw_below_drewN | apply below_drew1 | refine below_set ?_ GE494.out) | exact HB.out)⟩
   ·replace c7 := Bool.eq_false_iff.mpr c7
    subst c7
    have H1 : (some false) = some r := by rw [if_neg (show ¬ (false = true) by decide)] at H; exact H
    clear H
    have H := H1
    clear H1
    obtain rfl := Option.some.inj H
    go_enter Tryd.func10, Tryd.ntmps10
    go_wp2_with (first | ((with_reducible refine gate_dst (N := 1) rfl ?_); refine box_event ?hg (N := 1) ?hd (cs := #[.bool a0_0, .bool a0_1, .bool a0_2, .bool a0_3, .bool a0_4, .bool a0_5, .int .i64 a0_6, .int .i64 a0_7, .int .i64 a0_8, .int .i64 a0_9]) (t := 25) ?hr ?_; (case hd => rfl); (case hg => rfl); (case hr => first | (go_simp; done) | (go_simp; rfl)); intro gb494 hg w11 hbox hb; have n0_ := Aside0.mk (below_step (by repeat (first | (with_reducible first | exact HB.out | apply below_alloc | apply pw_below_drewN | apply below_drew1) | exact HB.out)) hb); have n1_ := Aside0.mk (hbox); have n2_ := Aside0.mk ((by rw [hg]; exact (below_size (by repeat (first | (with_reducible first | exact HB.out | apply below_alloc | apply pw_below_drewN | apply below_drew1) | exact HB.out))) : w.heap.size ≤ gb494)); have n3_ := Aside0.mk ((by rw [hg]; exact (below_size (by repeat (first | (with_reducible first | exact HB.out | apply below_alloc | apply pw_below_drewN | apply below_drew1) | exact HB.out))) : w.heap.size ≤ gb494)); clear HB; have HB := n0_; have BK494 := n1_; have GW494 := n2_; have GE494 := n3_; clear n0_ n1_ n2_ n3_; clear hb hbox hg; have hcz12_0 : w11.cell? ⟨gb494, 0, none⟩ = some (.bool a0_0) := (blk_cell BK494.out 0).trans rfl; have hcz12_1 : w11.cell? ⟨gb494, 1, none⟩ = some (.bool a0_1) := (blk_cell BK494.out 1).trans rfl; have hcz12_2 : w11.cell? ⟨gb494, 2, none⟩ = some (.bool a0_2) := (blk_cell BK494.out 2).trans rfl; have hcz12_3 : w11.cell? ⟨gb494, 3, none⟩ = some (.bool a0_3) := (blk_cell BK494.out 3).trans rfl; have hcz12_4 : w11.cell? ⟨gb494, 4, none⟩ = some (.bool a0_4) := (blk_cell BK494.out 4).trans rfl; have hcz12_5 : w11.cell? ⟨gb494, 5, none⟩ = some (.bool a0_5) := (blk_cell BK494.out 5).trans rfl; have hcz12_6 : w11.cell? ⟨gb494, 6, none⟩ = some (.int .i64 a0_6) := (blk_cell BK494.out 6).trans rfl; have hcz12_7 : w11.cell? ⟨gb494, 7, none⟩ = some (.int .i64 a0_7) := (blk_cell BK494.out 7).trans rfl; have hcz12_8 : w11.cell? ⟨gb494, 8, none⟩ = some (.int .i64 a0_8) := (blk_cell BK494.out 8).trans rfl; have hcz12_9 : w11.cell? ⟨gb494, 9, none⟩ = some (.int .i64 a0_9) := (blk_cell BK494.out 9).trans rfl; have hfz12_0 := blk_frozen BK494.out 0; have hfz12_1 := blk_frozen BK494.out 1; have hfz12_2 := blk_frozen BK494.out 2; have hfz12_3 := blk_frozen BK494.out 3; have hfz12_4 := blk_frozen BK494.out 4; have hfz12_5 := blk_frozen BK494.out 5; have hfz12_6 := blk_frozen BK494.out 6; have hfz12_7 := blk_frozen BK494.out 7; have hfz12_8 := blk_frozen BK494.out 8; have hfz12_9 := blk_frozen BK494.out 9) | ((with_reducible refine gate_callee (f := 24) rfl ?_); refine goesL_ (some 5) rfl rfl Tryd.func24 (by kernel_rfl) rfl #[.int .i64 a0_6] rfl (by (try simp only [List.map_toArray, List.map_cons, List.map_nil]); first | done | rfl | (simp only [List.length_drop, List.length_take]; rfl)) ?_; (with_reducible refine (spec_l12said.calls a0_6 true _ A2.out).mono ?_); rintro e w' ⟨rfl, ⟨nd, rfl⟩⟩; refine ⟨_, rfl, ?_⟩) | (go_at_call 24; (with_reducible refine (spec_l12said.calls a0_7 true _ A4.out).mono ?_); rintro e w' ⟨rfl, ⟨nd, rfl⟩⟩) | (go_at_call 24; (with_reducible refine (spec_l12said.calls a0_8 false _ A6.out).mono ?_); rintro e w' ⟨rfl, ⟨nd, rfl⟩⟩))
    go_ret
    exact ⟨by first | rfl | (simp [errW_none, errW_some] <;> rfl) | (simp [*, errW_none, errW_some] <;> rfl), by repeat (first | (with_reducible first | exact HB.out | apply below_alloc | apply pw_below_drewN | apply below_drew1 | refine below_set ?_ GE494.out) | exact HB.out)⟩
  ·replace c5 := Bool.eq_false_iff.mpr c5
   subst c5
   have H1 : (some false) = some r := by rw [if_neg (show ¬ (false = true) by decide)] at H; exact H
   clear H
   have H := H1
   clear H1
   obtain rfl := Option.some.inj H
   go_enter Tryd.func10, Tryd.ntmps10
   go_wp2_with (first | ((with_reducible refine gate_dst (N := 1) rfl ?_); refine box_event ?hg (N := 1) ?hd (cs := #[.bool a0_0, .bool a0_1, .bool a0_2, .bool a0_3, .bool a0_4, .bool a0_5, .int .i64 a0_6, .int .i64 a0_7, .int .i64 a0_8, .int .i64 a0_9]) (t := 25) ?hr ?_; (case hd => rfl); (case hg => rfl); (case hr => first | (go_simp; done) | (go_simp; rfl)); intro gb494 hg w13 hbox hb; have n0_ := Aside0.mk (below_step (by repeat (first | (with_reducible first | exact HB.out | apply below_alloc | apply pw_below_drewN | apply below_drew1) | exact HB.out)) hb); have n1_ := Aside0.mk (hbox); have n2_ := Aside0.mk ((by rw [hg]; exact (below_size (by repeat (first | (with_reducible first | exact HB.out | apply below_alloc | apply pw_below_drewN | apply below_drew1) | exact HB.out))) : w.heap.size ≤ gb494)); have n3_ := Aside0.mk ((by rw [hg]; exact (below_size (by repeat (first | (with_reducible first | exact HB.out | apply below_alloc | apply pw_below_drewN | apply below_drew1) | exact HB.out))) : w.heap.size ≤ gb494)); clear HB; have HB := n0_; have BK494 := n1_; have GW494 := n2_; have GE494 := n3_; clear n0_ n1_ n2_ n3_; clear hb hbox hg; have hcz14_0 : w13.cell? ⟨gb494, 0, none⟩ = some (.bool a0_0) := (blk_cell BK494.out 0).trans rfl; have hcz14_1 : w13.cell? ⟨gb494, 1, none⟩ = some (.bool a0_1) := (blk_cell BK494.out 1).trans rfl; have hcz14_2 : w13.cell? ⟨gb494, 2, none⟩ = some (.bool a0_2) := (blk_cell BK494.out 2).trans rfl; have hcz14_3 : w13.cell? ⟨gb494, 3, none⟩ = some (.bool a0_3) := (blk_cell BK494.out 3).trans rfl; have hcz14_4 : w13.cell? ⟨gb494, 4, none⟩ = some (.bool a0_4) := (blk_cell BK494.out 4).trans rfl; have hcz14_5 : w13.cell? ⟨gb494, 5, none⟩ = some (.bool a0_5) := (blk_cell BK494.out 5).trans rfl; have hcz14_6 : w13.cell? ⟨gb494, 6, none⟩ = some (.int .i64 a0_6) := (blk_cell BK494.out 6).trans rfl; have hcz14_7 : w13.cell? ⟨gb494, 7, none⟩ = some (.int .i64 a0_7) := (blk_cell BK494.out 7).trans rfl; have hcz14_8 : w13.cell? ⟨gb494, 8, none⟩ = some (.int .i64 a0_8) := (blk_cell BK494.out 8).trans rfl; have hcz14_9 : w13.cell? ⟨gb494, 9, none⟩ = some (.int .i64 a0_9) := (blk_cell BK494.out 9).trans rfl; have hfz14_0 := blk_frozen BK494.out 0; have hfz14_1 := blk_frozen BK494.out 1; have hfz14_2 := blk_frozen BK494.out 2; have hfz14_3 := blk_frozen BK494.out 3; have hfz14_4 := blk_frozen BK494.out 4; have hfz14_5 := blk_frozen BK494.out 5; have hfz14_6 := blk_frozen BK494.out 6; have hfz14_7 := blk_frozen BK494.out 7; have hfz14_8 := blk_frozen BK494.out 8; have hfz14_9 := blk_frozen BK494.out 9) | ((with_reducible refine gate_callee (f := 24) rfl ?_); refine goesL_ (some 5) rfl rfl Tryd.func24 (by kernel_rfl) rfl #[.int .i64 a0_6] rfl (by (try simp only [List.map_toArray, List.map_cons, List.map_nil]); first | done | rfl | (simp only [List.length_drop, List.length_take]; rfl)) ?_; (with_reducible refine (spec_l12said.calls a0_6 true _ A2.out).mono ?_); rintro e w' ⟨rfl, ⟨nd, rfl⟩⟩; refine ⟨_, rfl, ?_⟩) | (go_at_call 24; (with_reducible refine (spec_l12said.calls a0_7 false _ A4.out).mono ?_); rintro e w' ⟨rfl, ⟨nd, rfl⟩⟩))
   go_ret
   exact ⟨by first | rfl | (simp [errW_none, errW_some] <;> rfl) | (simp [*, errW_none, errW_some] <;> rfl), by repeat (first | (with_reducible first | exact HB.out | apply below_alloc | apply pw_below_drewN | apply below_drew1 | refine below_set ?_ GE494.out) | exact HB.out)⟩
 ·replace c3 := Bool.eq_false_iff.mpr c3
  subst c3
  have H1 : (some false) = some r := by rw [if_neg (show ¬ (false = true) by decide)] at H; exact H
  clear H
  have H := H1
  clear H1
  obtain rfl := Option.some.inj H
  go_enter Tryd.func10, Tryd.ntmps10
  go_wp2_with (first | ((with_reducible refine gate_dst (N := 1) rfl ?_); refine box_event ?hg (N := 1) ?hd (cs := #[.bool a0_0, .bool a0_1, .bool a0_2, .bool a0_3, .bool a0_4, .bool a0_5, .int .i64 a0_6, .int .i64 a0_7, .int .i64 a0_8, .int .i64 a0_9]) (t := 25) ?hr ?_; (case hd => rfl); (case hg => rfl); (case hr => first | (go_simp; done) | (go_simp; rfl)); intro gb494 hg w15 hbox hb; have n0_ := Aside0.mk (below_step (by repeat (first | (with_reducible first | exact HB.out | apply below_alloc | apply pw_below_drewN | apply below_drew1) | exact HB.out)) hb); have n1_ := Aside0.mk (hbox); have n2_ := Aside0.mk ((by rw [hg]; exact (below_size (by repeat (first | (with_reducible first | exact HB.out | apply below_alloc | apply pw_below_drewN | apply below_drew1) | exact HB.out))) : w.heap.size ≤ gb494)); have n3_ := Aside0.mk ((by rw [hg]; exact (below_size (by repeat (first | (with_reducible first | exact HB.out | apply below_alloc | apply pw_below_drewN | apply below_drew1) | exact HB.out))) : w.heap.size ≤ gb494)); clear HB; have HB := n0_; have BK494 := n1_; have GW494 := n2_; have GE494 := n3_; clear n0_ n1_ n2_ n3_; clear hb hbox hg; have hcz16_0 : w15.cell? ⟨gb494, 0, none⟩ = some (.bool a0_0) := (blk_cell BK494.out 0).trans rfl; have hcz16_1 : w15.cell? ⟨gb494, 1, none⟩ = some (.bool a0_1) := (blk_cell BK494.out 1).trans rfl; have hcz16_2 : w15.cell? ⟨gb494, 2, none⟩ = some (.bool a0_2) := (blk_cell BK494.out 2).trans rfl; have hcz16_3 : w15.cell? ⟨gb494, 3, none⟩ = some (.bool a0_3) := (blk_cell BK494.out 3).trans rfl; have hcz16_4 : w15.cell? ⟨gb494, 4, none⟩ = some (.bool a0_4) := (blk_cell BK494.out 4).trans rfl; have hcz16_5 : w15.cell? ⟨gb494, 5, none⟩ = some (.bool a0_5) := (blk_cell BK494.out 5).trans rfl; have hcz16_6 : w15.cell? ⟨gb494, 6, none⟩ = some (.int .i64 a0_6) := (blk_cell BK494.out 6).trans rfl; have hcz16_7 : w15.cell? ⟨gb494, 7, none⟩ = some (.int .i64 a0_7) := (blk_cell BK494.out 7).trans rfl; have hcz16_8 : w15.cell? ⟨gb494, 8, none⟩ = some (.int .i64 a0_8) := (blk_cell BK494.out 8).trans rfl; have hcz16_9 : w15.cell? ⟨gb494, 9, none⟩ = some (.int .i64 a0_9) := (blk_cell BK494.out 9).trans rfl; have hfz16_0 := blk_frozen BK494.out 0; have hfz16_1 := blk_frozen BK494.out 1; have hfz16_2 := blk_frozen BK494.out 2; have hfz16_3 := blk_frozen BK494.out 3; have hfz16_4 := blk_frozen BK494.out 4; have hfz16_5 := blk_frozen BK494.out 5; have hfz16_6 := blk_frozen BK494.out 6; have hfz16_7 := blk_frozen BK494.out 7; have hfz16_8 := blk_frozen BK494.out 8; have hfz16_9 := blk_frozen BK494.out 9) | ((with_reducible refine gate_callee (f := 24) rfl ?_); refine goesL_ (some 5) rfl rfl Tryd.func24 (by kernel_rfl) rfl #[.int .i64 a0_6] rfl (by (try simp only [List.map_toArray, List.map_cons, List.map_nil]); first | done | rfl | (simp only [List.length_drop, List.length_take]; rfl)) ?_; (with_reducible refine (spec_l12said.calls a0_6 false _ A2.out).mono ?_); rintro e w' ⟨rfl, ⟨nd, rfl⟩⟩; refine ⟨_, rfl, ?_⟩))
  go_ret
  exact ⟨by first | rfl | (simp [errW_none, errW_some] <;> rfl) | (simp [*, errW_none, errW_some] <;> rfl), by repeat (first | (with_reducible first | exact HB.out | apply below_alloc | apply pw_below_drewN | apply below_drew1 | refine below_set ?_ GE494.out) | exact HB.out)⟩

def spec_l12word.f (a0 : ByteArray) (a1 : Bool) (a2 : ByteArray) : Option (ByteArray) := if a1 = true then (if a0.toList = ([] : List UInt8) then (if a0.size + a2.size ≤ 9223372036854775807 then (some (a0 ++ a2)) else (none)) else (if a0.size + 2 ≤ 9223372036854775807 then (if (a0 ++ (⟨#[44, 32]⟩ : ByteArray)).size + a2.size ≤ 9223372036854775807 then (some ((a0 ++ (⟨#[44, 32]⟩ : ByteArray)) ++ a2)) else (none)) else (none))) else (some a0)
set_option maxHeartbeats 8000000 in
set_option maxRecDepth 100000 in
theorem spec_l12word.calls (a0 : ByteArray) (a1 : Bool) (a2 : ByteArray) (r : ByteArray) (w : World) (h : spec_l12word.f a0 a1 a2 = some r) :
  Calls Tryd.prog 19 #[.string a0, .bool a1, .string a2] w fun e w' => e = .returned (.string r) ∧ Drawn0 w w' := by
 have H : (if a1 = true then (if a0.toList = ([] : List UInt8) then (if a0.size + a2.size ≤ 9223372036854775807 then (some (a0 ++ a2)) else (none)) else (if a0.size + 2 ≤ 9223372036854775807 then (if (a0 ++ (⟨#[44, 32]⟩ : ByteArray)).size + a2.size ≤ 9223372036854775807 then (some ((a0 ++ (⟨#[44, 32]⟩ : ByteArray)) ++ a2)) else (none)) else (none))) else (some a0)) = some r := h
 clear h
 by_cases c4 : a1 = true
 ·subst c4
  have H1 : (if a0.toList = ([] : List UInt8) then (if a0.size + a2.size ≤ 9223372036854775807 then (some (a0 ++ a2)) else (none)) else (if a0.size + 2 ≤ 9223372036854775807 then (if (a0 ++ (⟨#[44, 32]⟩ : ByteArray)).size + a2.size ≤ 9223372036854775807 then (some ((a0 ++ (⟨#[44, 32]⟩ : ByteArray)) ++ a2)) else (none)) else (none))) = some r := by rw [if_pos rfl] at H; exact H
  clear H
  have H := H1
  clear H1
  by_cases c5 : a0.toList = ([] : List UInt8)
  ·rw [if_pos c5] at H
   have c5b0 : (a0.toList == ([] : List UInt8)) = true := beq_iff_eq.mpr c5
   have c5b1 : (a0.toList != ([] : List UInt8)) = false := bne_eq_false_iff_eq.mpr c5
   clear c5
   by_cases c6 : a0.size + a2.size ≤ 9223372036854775807
   ·rw [if_pos c6] at H
    have c6b0 := eq_true c6
    have c6b1 : decide (a0.size + a2.size ≤ 9223372036854775807) = true := decide_eq_true c6
    try have c6b2 : (9223372036854775807 < a0.size + a2.size) = False := eq_false (Nat.not_lt.2 c6)
    obtain rfl := Option.some.inj H
    go_enter Tryd.func19, Tryd.ntmps19
    go_wp2
    go_ret
    exact ⟨by first | rfl | (simp; done) | (simp [*]; done), by repeat (first | exact Drawn0.refl _ | apply Drawn0.step)⟩
   ·rw [if_neg c6] at H
    exact absurd H (by simp)
  ·rw [if_neg c5] at H
   have c5b0 : (a0.toList == ([] : List UInt8)) = false := beq_eq_false_iff_ne.mpr c5
   have c5b1 : (a0.toList != ([] : List UInt8)) = true := bne_iff_ne.mpr c5
   by_cases c7 : a0.size + 2 ≤ 9223372036854775807
   ·rw [if_pos c7] at H
    have c7b0 := eq_true c7
    have c7b1 : decide (a0.size + 2 ≤ 9223372036854775807) = true := decide_eq_true c7
    try have c7b2 : (9223372036854775807 < a0.size + 2) = False := eq_false (Nat.not_lt.2 c7)
    by_cases c8 : (a0 ++ (⟨#[44, 32]⟩ : ByteArray)).size + a2.size ≤ 9223372036854775807
    ·rw [if_pos c8] at H
     have c8b0 := eq_true c8
     have c8b1 : decide ((a0 ++ (⟨#[44, 32]⟩ : ByteArray)).size + a2.size ≤ 9223372036854775807) = true := decide_eq_true c8
     try have c8b2 : (9223372036854775807 < (a0 ++ (⟨#[44, 32]⟩ : ByteArray)).size + a2.size) = False := eq_false (Nat.not_lt.2 c8)
     obtain rfl := Option.some.inj H
     go_enter Tryd.func19, Tryd.ntmps19
     go_wp2
     go_ret
     exact ⟨by first | rfl | (simp; done) | (simp [*]; done), by repeat (first | exact Drawn0.refl _ | apply Drawn0.step)⟩
    ·rw [if_neg c8] at H
     exact absurd H (by simp)
   ·rw [if_neg c7] at H
    exact absurd H (by simp)
 ·replace c4 := Bool.eq_false_iff.mpr c4
  subst c4
  have H1 : (some a0) = some r := by rw [if_neg (show ¬ (false = true) by decide)] at H; exact H
  clear H
  have H := H1
  clear H1
  obtain rfl := Option.some.inj H
  go_enter Tryd.func19, Tryd.ntmps19
  go_wp2
  go_ret
  exact ⟨by first | rfl | (simp; done) | (simp [*]; done), by repeat (first | exact Drawn0.refl _ | apply Drawn0.step)⟩

end Go.Proofs.YtahgiblifkchaaaDoor.P
