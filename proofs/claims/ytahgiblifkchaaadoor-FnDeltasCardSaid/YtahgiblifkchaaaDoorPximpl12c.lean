-- Written by a program of ours (myprint.py, by way of the kit's print) out of Lean's print of the translation.
import Derived.Test.YtahgiblifkchaaaDoorPx0
import Derived.Test.YtahgiblifkchaaaDoorPximpl01d
namespace Go.Proofs.YtahgiblifkchaaaDoor.P
open Go.RowKit Go.Proofs.YtahgiblifkchaaaDoorW.PrintWords Go.Proofs.YtahgiblifkchaaaDoorW.PrintLast Go.Proofs.YtahgiblifkchaaaDoorW.PrintMore
attribute [local go_sem] max2_int min2_int max_two min_two max_three min_three max_four min_four   -- for this text's walks alone
set_option linter.unusedVariables false
set_option linter.unusedSimpArgs false

def impl_isDelta.f (a0 : Int) : Option (Bool) := (impl_within.f a0 (-1) 2147483648).bind fun t307 => (some t307)
set_option maxHeartbeats 8000000 in
set_option maxRecDepth 100000 in
theorem impl_isDelta.calls (a0 : Int) (r : Bool) (w : World) (h : impl_isDelta.f a0 = some r) :
  Calls Tryd.prog 34 #[.int .i64 a0] w fun e w' => e = .returned (.bool r) ∧ Drawn0 w w' := by
 have H : ((impl_within.f a0 (-1) 2147483648).bind fun t307 => (some t307)) = some r := h
 clear h
 replace H := Option.bind_eq_some_iff.mp H
 obtain ⟨t307, A20, H⟩ := H
 replace H : (some t307) = some r := H
 have A2 := Aside0.mk A20
 clear A20
 obtain rfl := Option.some.inj H
 go_enter Tryd.func34, Tryd.ntmps34
 go_wp2_with (first | ((with_reducible refine gate_callee (f := 43) rfl ?_); refine goesL_ (some 4) rfl rfl Tryd.func43 (by kernel_rfl) rfl #[.int .i64 a0, .int .i64 (-1), .int .i64 2147483648] rfl (by (try simp only [List.map_toArray, List.map_cons, List.map_nil]); first | done | rfl | (simp only [List.length_drop, List.length_take]; rfl)) ?_; (with_reducible refine (impl_within.calls a0 (-1) 2147483648 t307 _ A2.out).mono ?_); rintro e w' ⟨rfl, ⟨nd, rfl⟩⟩; refine ⟨_, rfl, ?_⟩))
 go_ret
 exact ⟨by first | rfl | (simp; done) | (simp [*]; done), by repeat (first | exact Drawn0.refl _ | apply Drawn0.step)⟩

def impl_DirsOk.f (a0_0 : Bool) (a0_1 : Bool) (a0_2 : Bool) (a0_3 : Bool) (a0_4 : Bool) (a0_5 : Bool) (a0_6 : Int) (a0_7 : Int) (a0_8 : Int) (a0_9 : Int) : Option (Bool) := (impl_isDelta.f a0_6).bind fun t309 => (if t309 = true then ((impl_isDelta.f a0_7).bind fun t310 => (if t310 = true then ((impl_isDelta.f a0_8).bind fun t311 => (if t311 = true then ((impl_isDelta.f a0_9).bind fun t312 => (some t312)) else (some false))) else (some false))) else (some false))
set_option maxHeartbeats 8000000 in
set_option maxRecDepth 100000 in
theorem impl_DirsOk.calls (a0_0 : Bool) (a0_1 : Bool) (a0_2 : Bool) (a0_3 : Bool) (a0_4 : Bool) (a0_5 : Bool) (a0_6 : Int) (a0_7 : Int) (a0_8 : Int) (a0_9 : Int) (r : Bool) (w : World) (h : impl_DirsOk.f a0_0 a0_1 a0_2 a0_3 a0_4 a0_5 a0_6 a0_7 a0_8 a0_9 = some r) :
  Calls Tryd.prog 13 #[.agg #[.bool a0_0, .bool a0_1, .bool a0_2, .bool a0_3, .bool a0_4, .bool a0_5, .int .i64 a0_6, .int .i64 a0_7, .int .i64 a0_8, .int .i64 a0_9]] w fun e w' => e = .returned (.bool r) ∧ Below w.heap.size w w' := by
 have hu25 := Tryd.underlying25
 have HB := Aside0.mk (Below.refl w.heap.size w)
 have H : ((impl_isDelta.f a0_6).bind fun t309 => (if t309 = true then ((impl_isDelta.f a0_7).bind fun t310 => (if t310 = true then ((impl_isDelta.f a0_8).bind fun t311 => (if t311 = true then ((impl_isDelta.f a0_9).bind fun t312 => (some t312)) else (some false))) else (some false))) else (some false))) = some r := h
 clear h
 replace H := Option.bind_eq_some_iff.mp H
 obtain ⟨t309, A20, H⟩ := H
 replace H : (if t309 = true then ((impl_isDelta.f a0_7).bind fun t310 => (if t310 = true then ((impl_isDelta.f a0_8).bind fun t311 => (if t311 = true then ((impl_isDelta.f a0_9).bind fun t312 => (some t312)) else (some false))) else (some false))) else (some false)) = some r := H
 have A2 := Aside0.mk A20
 clear A20
 by_cases c3 : t309 = true
 ·subst c3
  have H1 : ((impl_isDelta.f a0_7).bind fun t310 => (if t310 = true then ((impl_isDelta.f a0_8).bind fun t311 => (if t311 = true then ((impl_isDelta.f a0_9).bind fun t312 => (some t312)) else (some false))) else (some false))) = some r := by rw [if_pos rfl] at H; exact H
  clear H
  have H := H1
  clear H1
  replace H := Option.bind_eq_some_iff.mp H
  obtain ⟨t310, A40, H⟩ := H
  replace H : (if t310 = true then ((impl_isDelta.f a0_8).bind fun t311 => (if t311 = true then ((impl_isDelta.f a0_9).bind fun t312 => (some t312)) else (some false))) else (some false)) = some r := H
  have A4 := Aside0.mk A40
  clear A40
  by_cases c5 : t310 = true
  ·subst c5
   have H1 : ((impl_isDelta.f a0_8).bind fun t311 => (if t311 = true then ((impl_isDelta.f a0_9).bind fun t312 => (some t312)) else (some false))) = some r := by rw [if_pos rfl] at H; exact H
   clear H
   have H := H1
   clear H1
   replace H := Option.bind_eq_some_iff.mp H
   obtain ⟨t311, A60, H⟩ := H
   replace H : (if t311 = true then ((impl_isDelta.f a0_9).bind fun t312 => (some t312)) else (some false)) = some r := H
   have A6 := Aside0.mk A60
   clear A60
   by_cases c7 : t311 = true
   ·subst c7
    have H1 : ((impl_isDelta.f a0_9).bind fun t312 => (some t312)) = some r := by rw [if_pos rfl] at H; exact H
    clear H
    have H := H1
    clear H1
    replace H := Option.bind_eq_some_iff.mp H
    obtain ⟨t312, A80, H⟩ := H
    replace H : (some t312) = some r := H
    have A8 := Aside0.mk A80
    clear A80
    obtain rfl := Option.some.inj H
    go_enter Tryd.func13, Tryd.ntmps13
    go_wp2_with (first | ((with_reducible refine gate_dst (N := 1) rfl ?_); refine box_event ?hg (N := 1) ?hd (cs := #[.bool a0_0, .bool a0_1, .bool a0_2, .bool a0_3, .bool a0_4, .bool a0_5, .int .i64 a0_6, .int .i64 a0_7, .int .i64 a0_8, .int .i64 a0_9]) (t := 25) ?hr ?_; (case hd => rfl); (case hg => rfl); (case hr => first | (go_simp; done) | (go_simp; rfl)); intro gb308 hg w9 hbox hb; have n0_ := Aside0.mk (below_step (by repeat (first | (with_reducible first | exact HB.out | apply below_alloc | apply pw_below_drewN | apply below_drew1) | exact HB.out)) hb); have n1_ := Aside0.mk (hbox); have n2_ := Aside0.mk ((by rw [hg]; exact (below_size (by repeat (first | (with_reducible first | exact HB.out | apply below_alloc | apply pw_below_drewN | apply below_drew1) | exact HB.out))) : w.heap.size ≤ gb308)); have n3_ := Aside0.mk ((by rw [hg]; exact (below_size (by repeat (first | (with_reducible first | exact HB.out | apply below_alloc | apply pw_below_drewN | apply below_drew1) | exact HB.out))) : w.heap.size ≤ gb308)); clear HB; have HB := n0_; have BK308 := n1_; have GW308 := n2_; have GE308 := n3_; clear n0_ n1_ n2_ n3_; clear hb hbox hg; have hcz10_0 : w9.cell? ⟨gb308, 0, none⟩ = some (.bool a0_0) := (blk_cell BK308.out 0).trans rfl; have hcz10_1 : w9.cell? ⟨gb308, 1, none⟩ = some (.bool a0_1) := (blk_cell BK308.out 1).trans rfl; have hcz10_2 : w9.cell? ⟨gb308, 2, none⟩ = some (.bool a0_2) := (blk_cell BK308.out 2).trans rfl; have hcz10_3 : w9.cell? ⟨gb308, 3, none⟩ = some (.bool a0_3) := (blk_cell BK308.out 3).trans rfl; have hcz10_4 : w9.cell? ⟨gb308, 4, none⟩ = some (.bool a0_4) := (blk_cell BK308.out 4).trans rfl; have hcz10_5 : w9.cell? ⟨gb308, 5, none⟩ = some (.bool a0_5) := (blk_cell BK308.out 5).trans rfl; have hcz10_6 : w9.cell? ⟨gb308, 6, none⟩ = some (.int .i64 a0_6) := (blk_cell BK308.out 6).trans rfl; have hcz10_7 : w9.cell? ⟨gb308, 7, none⟩ = some (.int .i64 a0_7) := (blk_cell BK308.out 7).trans rfl; have hcz10_8 : w9.cell? ⟨gb308, 8, none⟩ = some (.int .i64 a0_8) := (blk_cell BK308.out 8).trans rfl; have hcz10_9 : w9.cell? ⟨gb308, 9, none⟩ = some (.int .i64 a0_9) := (blk_cell BK308.out 9).trans rfl; have hfz10_0 := blk_frozen BK308.out 0; have hfz10_1 := blk_frozen BK308.out 1; have hfz10_2 := blk_frozen BK308.out 2; have hfz10_3 := blk_frozen BK308.out 3; have hfz10_4 := blk_frozen BK308.out 4; have hfz10_5 := blk_frozen BK308.out 5; have hfz10_6 := blk_frozen BK308.out 6; have hfz10_7 := blk_frozen BK308.out 7; have hfz10_8 := blk_frozen BK308.out 8; have hfz10_9 := blk_frozen BK308.out 9) | ((with_reducible refine gate_callee (f := 34) rfl ?_); refine goesL_ (some 5) rfl rfl Tryd.func34 (by kernel_rfl) rfl #[.int .i64 a0_6] rfl (by (try simp only [List.map_toArray, List.map_cons, List.map_nil]); first | done | rfl | (simp only [List.length_drop, List.length_take]; rfl)) ?_; (with_reducible refine (impl_isDelta.calls a0_6 true _ A2.out).mono ?_); rintro e w' ⟨rfl, ⟨nd, rfl⟩⟩; refine ⟨_, rfl, ?_⟩) | (go_at_call 34; (with_reducible refine (impl_isDelta.calls a0_7 true _ A4.out).mono ?_); rintro e w' ⟨rfl, ⟨nd, rfl⟩⟩) | (go_at_call 34; (with_reducible refine (impl_isDelta.calls a0_8 true _ A6.out).mono ?_); rintro e w' ⟨rfl, ⟨nd, rfl⟩⟩) | (go_at_call 34; (with_reducible refine (impl_isDelta.calls a0_9 t312 _ A8.out).mono ?_); rintro e w' ⟨rfl, ⟨nd, rfl⟩⟩))
    go_ret
    exact ⟨by first | rfl | (simp [errW_none, errW_some] <;> rfl) | (simp [*, errW_none, errW_some] <;> rfl), by repeat (first | (with_reducible first | exact HB.out | apply below_alloc | apply pw_below_drewN | apply below_drew1 | refine below_set ?_ GE308.out) | exact HB.out)⟩
   ·replace c7 := Bool.eq_false_iff.mpr c7
    subst c7
    have H1 : (some false) = some r := by rw [if_neg (show ¬ (false = true) by decide)] at H; exact H
    clear H
    have H := H1
    clear H1
    obtain rfl := Option.some.inj H
    go_enter Tryd.func13, Tryd.ntmps13
    go_wp2_with (first | ((with_reducible refine gate_dst (N := 1) rfl ?_); refine box_event ?hg (N := 1) ?hd (cs := #[.bool a0_0, .bool a0_1, .bool a0_2, .bool a0_3, .bool a0_4, .bool a0_5, .int .i64 a0_6, .int .i64 a0_7, .int .i64 a0_8, .int .i64 a0_9]) (t := 25) ?hr ?_; (case hd => rfl); (case hg => rfl); (case hr => first | (go_simp; done) | (go_simp; rfl)); intro gb308 hg w11 hbox hb; have n0_ := Aside0.mk (below_step (by repeat (first | (with_reducible first | exact HB.out | apply below_alloc | apply pw_below_drewN | apply below_drew1) | exact HB.out)) hb); have n1_ := Aside0.mk (hbox); have n2_ := Aside0.mk ((by rw [hg]; exact (below_size (by repeat (first | (with_reducible first | exact HB.out | apply below_alloc | apply pw_below_drewN | apply below_drew1) | exact HB.out))) : w.heap.size ≤ gb308)); have n3_ := Aside0.mk ((by rw [hg]; exact (below_size (by repeat (first | (with_reducible first | exact HB.out | apply below_alloc | apply pw_below_drewN | apply below_drew1) | exact HB.out))) : w.heap.size ≤ gb308)); clear HB; have HB := n0_; have BK308 := n1_; have GW308 := n2_; have GE308 := n3_; clear n0_ n1_ n2_ n3_; clear hb hbox hg; have hcz12_0 : w11.cell? ⟨gb308, 0, none⟩ = some (.bool a0_0) := (blk_cell BK308.out 0).trans rfl; have hcz12_1 : w11.cell? ⟨gb308, 1, none⟩ = some (.bool a0_1) := (blk_cell BK308.out 1).trans rfl; have hcz12_2 : w11.cell? ⟨gb308, 2, none⟩ = some (.bool a0_2) := (blk_cell BK308.out 2).trans rfl; have hcz12_3 : w11.cell? ⟨gb308, 3, none⟩ = some (.bool a0_3) := (blk_cell BK308.out 3).trans rfl; have hcz12_4 : w11.cell? ⟨gb308, 4, none⟩ = some (.bool a0_4) := (blk_cell BK308.out 4).trans rfl; have hcz12_5 : w11.cell? ⟨gb308, 5, none⟩ = some (.bool a0_5) := (blk_cell BK308.out 5).trans rfl; have hcz12_6 : w11.cell? ⟨gb308, 6, none⟩ = some (.int .i64 a0_6) := (blk_cell BK308.out 6).trans rfl; have hcz12_7 : w11.cell? ⟨gb308, 7, none⟩ = some (.int .i64 a0_7) := (blk_cell BK308.out 7).trans rfl; have hcz12_8 : w11.cell? ⟨gb308, 8, none⟩ = some (.int .i64 a0_8) := (blk_cell BK308.out 8).trans rfl; have hcz12_9 : w11.cell? ⟨gb308, 9, none⟩ = some (.int .i64 a0_9) := (blk_cell BK308.out 9).trans rfl; have hfz12_0 := blk_frozen BK308.out 0; have hfz12_1 := blk_frozen BK308.out 1; have hfz12_2 := blk_frozen BK308.out 2; have hfz12_3 := blk_frozen BK308.out 3; have hfz12_4 := blk_frozen BK308.out 4; have hfz12_5 := blk_frozen BK308.out 5; have hfz12_6 := blk_frozen BK308.out 6; have hfz12_7 := blk_frozen BK308.out 7; have hfz12_8 := blk_frozen BK308.out 8; have hfz12_9 := blk_frozen BK308.out 9) | ((with_reducible refine gate_callee (f := 34) rfl ?_); refine goesL_ (some 5) rfl rfl Tryd.func34 (by kernel_rfl) rfl #[.int .i64 a0_6] rfl (by (try simp only [List.map_toArray, List.map_cons, List.map_nil]); first | done | rfl | (simp only [List.length_drop, List.length_take]; rfl)) ?_; (with_reducible refine (impl_isDelta.calls a0_6 true _ A2.out).mono ?_); rintro e w' ⟨rfl, ⟨nd, rfl⟩⟩; refine ⟨_, rfl, ?_⟩) | (go_at_call 34; (with_reducible refine (impl_isDelta.calls a0_7 true _ A4.out).mono ?_); rintro e w' ⟨rfl, ⟨nd, rfl⟩⟩) | (go_at_call 34; (with_reducible refine (impl_isDelta.calls a0_8 false _ A6.out).mono ?_); rintro e w' ⟨rfl, ⟨nd, rfl⟩⟩))
    go_ret
    exact ⟨by first | rfl | (simp [errW_none, errW_some] <;> rfl) | (simp [*, errW_none, errW_some] <;> rfl), by repeat (first | (with_reducible first | exact HB.out | apply below_alloc | apply pw_below_drewN | apply below_drew1 | refine below_set ?_ GE308.out) | exact HB.out)⟩
  ·replace c5 := Bool.eq_false_iff.mpr c5
   subst c5
   have H1 : (some false) = some r := by rw [if_neg (show ¬ (false = true) by decide)] at H; exact H
   clear H
   have H := H1
   clear H1
   obtain rfl := Option.some.inj H
   go_enter Tryd.func13, Tryd.ntmps13
   go_wp2_with (first | ((with_reducible refine gate_dst (N := 1) rfl ?_); refine box_event ?hg (N := 1) ?hd (cs := #[.bool a0_0, .bool a0_1, .bool a0_2, .bool a0_3, .bool a0_4, .bool a0_5, .int .i64 a0_6, .int .i64 a0_7, .int .i64 a0_8, .int .i64 a0_9]) (t := 25) ?hr ?_; (case hd => rfl); (case hg => rfl); (case hr => first | (go_simp; done) | (go_simp; rfl)); intro gb308 hg w13 hbox hb; have n0_ := Aside0.mk (below_step (by repeat (first | (with_reducible first | exact HB.out | apply below_alloc | apply pw_below_drewN | apply below_drew1) | exact HB.out)) hb); have n1_ := Aside0.mk (hbox); have n2_ := Aside0.mk ((by rw [hg]; exact (below_size (by repeat (first | (with_reducible first | exact HB.out | apply below_alloc | apply pw_below_drewN | apply below_drew1) | exact HB.out))) : w.heap.size ≤ gb308)); have n3_ := Aside0.mk ((by rw [hg]; exact (below_size (by repeat (first | (with_reducible first | exact HB.out | apply below_alloc | apply pw_below_drewN | apply below_drew1) | exact HB.out))) : w.heap.size ≤ gb308)); clear HB; have HB := n0_; have BK308 := n1_; have GW308 := n2_; have GE308 := n3_; clear n0_ n1_ n2_ n3_; clear hb hbox hg; have hcz14_0 : w13.cell? ⟨gb308, 0, none⟩ = some (.bool a0_0) := (blk_cell BK308.out 0).trans rfl; have hcz14_1 : w13.cell? ⟨gb308, 1, none⟩ = some (.bool a0_1) := (blk_cell BK308.out 1).trans rfl; have hcz14_2 : w13.cell? ⟨gb308, 2, none⟩ = some (.bool a0_2) := (blk_cell BK308.out 2).trans rfl; have hcz14_3 : w13.cell? ⟨gb308, 3, none⟩ = some (.bool a0_3) := (blk_cell BK308.out 3).trans rfl; have hcz14_4 : w13.cell? ⟨gb308, 4, none⟩ = some (.bool a0_4) := (blk_cell BK308.out 4).trans rfl; have hcz14_5 : w13.cell? ⟨gb308, 5, none⟩ = some (.bool a0_5) := (blk_cell BK308.out 5).trans rfl; have hcz14_6 : w13.cell? ⟨gb308, 6, none⟩ = some (.int .i64 a0_6) := (blk_cell BK308.out 6).trans rfl; have hcz14_7 : w13.cell? ⟨gb308, 7, none⟩ = some (.int .i64 a0_7) := (blk_cell BK308.out 7).trans rfl; have hcz14_8 : w13.cell? ⟨gb308, 8, none⟩ = some (.int .i64 a0_8) := (blk_cell BK308.out 8).trans rfl; have hcz14_9 : w13.cell? ⟨gb308, 9, none⟩ = some (.int .i64 a0_9) := (blk_cell BK308.out 9).trans rfl; have hfz14_0 := blk_frozen BK308.out 0; have hfz14_1 := blk_frozen BK308.out 1; have hfz14_2 := blk_frozen BK308.out 2; have hfz14_3 := blk_frozen BK308.out 3; have hfz14_4 := blk_frozen BK308.out 4; have hfz14_5 := blk_frozen BK308.out 5; have hfz14_6 := blk_frozen BK308.out 6; have hfz14_7 := blk_frozen BK308.out 7; have hfz14_8 := blk_frozen BK308.out 8; have hfz14_9 := blk_frozen BK308.out 9) | ((with_reducible refine gate_callee (f := 34) rfl ?_); refine goesL_ (some 5) rfl rfl Tryd.func34 (by kernel_rfl) rfl #[.int .i64 a0_6] rfl (by (try simp only [List.map_toArray, List.map_cons, List.map_nil]); first | done | rfl | (simp only [List.length_drop, List.length_take]; rfl)) ?_; (with_reducible refine (impl_isDelta.calls a0_6 true _ A2.out).mono ?_); rintro e w' ⟨rfl, ⟨nd, rfl⟩⟩; refine ⟨_, rfl, ?_⟩) | (go_at_call 34; (with_reducible refine (impl_isDelta.calls a0_7 false _ A4.out).mono ?_); rintro e w' ⟨rfl, ⟨nd, rfl⟩⟩))
   go_ret
   exact ⟨by first | rfl | (simp [errW_none, errW_some] <;> rfl) | (simp [*, errW_none, errW_some] <;> rfl), by repeat (first | (with_reducible first | exact HB.out | apply below_alloc | apply pw_below_drewN | apply below_drew1 | refine below_set ?_ GE308.out) | exact HB.out)⟩
 ·replace c3 := Bool.eq_false_iff.mpr c3
  subst c3
  have H1 : (some false) = some r := by rw [if_neg (show ¬ (false = true) by decide)] at H; exact H
  clear H
  have H := H1
  clear H1
  obtain rfl := Option.some.inj H
  go_enter Tryd.func13, Tryd.ntmps13
  go_wp2_with (first | ((with_reducible refine gate_dst (N := 1) rfl ?_); refine box_event ?hg (N := 1) ?hd (cs := #[.bool a0_0, .bool a0_1, .bool a0_2, .bool a0_3, .bool a0_4, .bool a0_5, .int .i64 a0_6, .int .i64 a0_7, .int .i64 a0_8, .int .i64 a0_9]) (t := 25) ?hr ?_; (case hd => rfl); (case hg => rfl); (case hr => first | (go_simp; done) | (go_simp; rfl)); intro gb308 hg w15 hbox hb; have n0_ := Aside0.mk (below_step (by repeat (first | (with_reducible first | exact HB.out | apply below_alloc | apply pw_below_drewN | apply below_drew1) | exact HB.out)) hb); have n1_ := Aside0.mk (hbox); have n2_ := Aside0.mk ((by rw [hg]; exact (below_size (by repeat (first | (with_reducible first | exact HB.out | apply below_alloc | apply pw_below_drewN | apply below_drew1) | exact HB.out))) : w.heap.size ≤ gb308)); have n3_ := Aside0.mk ((by rw [hg]; exact (below_size (by repeat (first | (with_reducible first | exact HB.out | apply below_alloc | apply pw_below_drewN | apply below_drew1) | exact HB.out))) : w.heap.size ≤ gb308)); clear HB; have HB := n0_; have BK308 := n1_; have GW308 := n2_; have GE308 := n3_; clear n0_ n1_ n2_ n3_; clear hb hbox hg; have hcz16_0 : w15.cell? ⟨gb308, 0, none⟩ = some (.bool a0_0) := (blk_cell BK308.out 0).trans rfl; have hcz16_1 : w15.cell? ⟨gb308, 1, none⟩ = some (.bool a0_1) := (blk_cell BK308.out 1).trans rfl; have hcz16_2 : w15.cell? ⟨gb308, 2, none⟩ = some (.bool a0_2) := (blk_cell BK308.out 2).trans rfl; have hcz16_3 : w15.cell? ⟨gb308, 3, none⟩ = some (.bool a0_3) := (blk_cell BK308.out 3).trans rfl; have hcz16_4 : w15.cell? ⟨gb308, 4, none⟩ = some (.bool a0_4) := (blk_cell BK308.out 4).trans rfl; have hcz16_5 : w15.cell? ⟨gb308, 5, none⟩ = some (.bool a0_5) := (blk_cell BK308.out 5).trans rfl; have hcz16_6 : w15.cell? ⟨gb308, 6, none⟩ = some (.int .i64 a0_6) := (blk_cell BK308.out 6).trans rfl; have hcz16_7 : w15.cell? ⟨gb308, 7, none⟩ = some (.int .i64 a0_7) := (blk_cell BK308.out 7).trans rfl; have hcz16_8 : w15.cell? ⟨gb308, 8, none⟩ = some (.int .i64 a0_8) := (blk_cell BK308.out 8).trans rfl; have hcz16_9 : w15.cell? ⟨gb308, 9, none⟩ = some (.int .i64 a0_9) := (blk_cell BK308.out 9).trans rfl; have hfz16_0 := blk_frozen BK308.out 0; have hfz16_1 := blk_frozen BK308.out 1; have hfz16_2 := blk_frozen BK308.out 2; have hfz16_3 := blk_frozen BK308.out 3; have hfz16_4 := blk_frozen BK308.out 4; have hfz16_5 := blk_frozen BK308.out 5; have hfz16_6 := blk_frozen BK308.out 6; have hfz16_7 := blk_frozen BK308.out 7; have hfz16_8 := blk_frozen BK308.out 8; have hfz16_9 := blk_frozen BK308.out 9) | ((with_reducible refine gate_callee (f := 34) rfl ?_); refine goesL_ (some 5) rfl rfl Tryd.func34 (by kernel_rfl) rfl #[.int .i64 a0_6] rfl (by (try simp only [List.map_toArray, List.map_cons, List.map_nil]); first | done | rfl | (simp only [List.length_drop, List.length_take]; rfl)) ?_; (with_reducible refine (impl_isDelta.calls a0_6 false _ A2.out).mono ?_); rintro e w' ⟨rfl, ⟨nd, rfl⟩⟩; refine ⟨_, rfl, ?_⟩))
  go_ret
  exact ⟨by first | rfl | (simp [errW_none, errW_some] <;> rfl) | (simp [*, errW_none, errW_some] <;> rfl), by repeat (first | (with_reducible first | exact HB.out | apply below_alloc | apply pw_below_drewN | apply below_drew1 | refine below_set ?_ GE308.out) | exact HB.out)⟩

end Go.Proofs.YtahgiblifkchaaaDoor.P
