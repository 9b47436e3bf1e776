-- Written by a program of ours (myprint.py, by way of the kit's print) out of Lean's print of the translation.
import Derived.Test.YtahgiblifkchaaaPx0
import Derived.Test.YtahgiblifkchaaaPxauxm
import Derived.Test.YtahgiblifkchaaaPxauxo
import Derived.Test.YtahgiblifkchaaaPxauxq
import Derived.Test.YtahgiblifkchaaaPximpl11a
import Derived.Test.YtahgiblifkchaaaPxspec11a
namespace Go.Proofs.Ytahgiblifkchaaa.P
open Go.RowKit Go.Proofs.YtahgiblifkchaaaW.PrintWords Go.Proofs.YtahgiblifkchaaaW.PrintLast Go.Proofs.YtahgiblifkchaaaW.PrintMore
attribute [local go_sem] max2_int min2_int max_two min_two max_three min_three max_four min_four   -- for this text's walks alone
set_option linter.unusedVariables false
set_option linter.unusedSimpArgs false

/-! ### laws_FnExactArchNew: function 12 -/
mutual
def laws_FnExactArchNew.j0 : Nat → Int → Int → Int → Bool → Bool → List (S84) → Int → Int → Int → Int → Int → List (S115) → List (S84) → Int → Int → Int → Int → Int → List (S115) → Option (Bool)
  | 0, _, _, _, _, _, _, _, _, _, _, _, _, _, _, _, _, _, _, _ => none
  | k + 1, x0, x1, x2, x8, x37, x725000, x725001, x725002, x725003, x725004, x725005, x725006, x738000, x738001, x738002, x738003, x738004, x738005, x738006 => if x37 = true then (none) else ((laws_markArchive.f k x738000 x738001 x738002 x738003 x738004 x738005 x738006 1).bind fun bt739 => ((laws_heldArchive.f k bt739.2.1 x738001 x738002 x738003 x738004 x738005 bt739.2.2 1).bind fun t742 => (if t742 < 0 then (none) else (if t742 = bt739.1 then ((impl_ArchNew.f x0 x1 x2).bind fun bt743 => ((laws_eqArchive.f k bt743.1 bt743.2.1 bt743.2.2.1 bt743.2.2.2.1 bt743.2.2.2.2.1 bt743.2.2.2.2.2.1 bt743.2.2.2.2.2.2.1 x725000 x725001 x725002 x725003 x725004 x725005 x725006).bind fun t756 => (if t756 = true then (laws_FnExactArchNew.j1 k bt739.1 (bt743.2.2.2.2.2.2.2 != x8) bt739.2.1 x738001 x738002 x738003 x738004 x738005 bt739.2.2) else (laws_FnExactArchNew.j1 k bt739.1 true bt739.2.1 x738001 x738002 x738003 x738004 x738005 bt739.2.2)))) else (none)))))
def laws_FnExactArchNew.j1 : Nat → Int → Bool → List (S84) → Int → Int → Int → Int → Int → List (S115) → Option (Bool)
  | 0, _, _, _, _, _, _, _, _, _ => none
  | k + 1, x11, x64, x738000, x738001, x738002, x738003, x738004, x738005, x738006 => if x64 = true then (none) else ((laws_heldArchive.f k x738000 x738001 x738002 x738003 x738004 x738005 x738006 1).bind fun t757 => (if t757 < 0 then (none) else (if t757 = x11 then (some true) else (none))))
end
def laws_FnExactArchNew.f (k : Nat) (a0 : Int) (a1 : Int) (a2 : Int) : Option (Bool) := (spec_ArchNew.f k a0 a1 a2).bind fun bt712 => ((impl_ArchNew.f a0 a1 a2).bind fun bt725 => ((laws_eqArchive.f k bt725.1 bt725.2.1 bt725.2.2.1 bt725.2.2.2.1 bt725.2.2.2.2.1 bt725.2.2.2.2.2.1 bt725.2.2.2.2.2.2.1 bt712.1 bt712.2.1 bt712.2.2.1 bt712.2.2.2.1 bt712.2.2.2.2.1 bt712.2.2.2.2.2.1 bt712.2.2.2.2.2.2.1).bind fun t738 => (if t738 = true then (laws_FnExactArchNew.j0 k a0 a1 a2 bt712.2.2.2.2.2.2.2 (bt725.2.2.2.2.2.2.2 != bt712.2.2.2.2.2.2.2) bt712.1 bt712.2.1 bt712.2.2.1 bt712.2.2.2.1 bt712.2.2.2.2.1 bt712.2.2.2.2.2.1 bt712.2.2.2.2.2.2.1 bt725.1 bt725.2.1 bt725.2.2.1 bt725.2.2.2.1 bt725.2.2.2.2.1 bt725.2.2.2.2.2.1 bt725.2.2.2.2.2.2.1) else (laws_FnExactArchNew.j0 k a0 a1 a2 bt712.2.2.2.2.2.2.2 true bt712.1 bt712.2.1 bt712.2.2.1 bt712.2.2.2.1 bt712.2.2.2.2.1 bt712.2.2.2.2.2.1 bt712.2.2.2.2.2.2.1 bt725.1 bt725.2.1 bt725.2.2.1 bt725.2.2.2.1 bt725.2.2.2.2.1 bt725.2.2.2.2.2.1 bt725.2.2.2.2.2.2.1))))
theorem laws_FnExactArchNew.mono_l : ∀ k, (∀ y0 y1 y2 y3 y4 y5 y6 y7 y8 y9 y10 y11 y12 y13 y14 y15 y16 y17 y18, LeO (laws_FnExactArchNew.j0 k y0 y1 y2 y3 y4 y5 y6 y7 y8 y9 y10 y11 y12 y13 y14 y15 y16 y17 y18) (laws_FnExactArchNew.j0 (k + 1) y0 y1 y2 y3 y4 y5 y6 y7 y8 y9 y10 y11 y12 y13 y14 y15 y16 y17 y18)) ∧ (∀ y0 y1 y2 y3 y4 y5 y6 y7 y8, LeO (laws_FnExactArchNew.j1 k y0 y1 y2 y3 y4 y5 y6 y7 y8) (laws_FnExactArchNew.j1 (k + 1) y0 y1 y2 y3 y4 y5 y6 y7 y8))
  | 0 => ⟨fun _ _ _ _ _ _ _ _ _ _ _ _ _ _ _ _ _ _ _ r h => by simp [laws_FnExactArchNew.j0] at h, fun _ _ _ _ _ _ _ _ _ r h => by simp [laws_FnExactArchNew.j1] at h⟩
  | k + 1 => by
    obtain ⟨ih0, ih1⟩ := laws_FnExactArchNew.mono_l k
    refine ⟨?_, ?_⟩
    · intro y0 y1 y2 y3 y4 y5 y6 y7 y8 y9 y10 y11 y12 y13 y14 y15 y16 y17 y18
      unfold laws_FnExactArchNew.j0
      repeat' first
      | (with_reducible exact ih0 _ _ _ _ _ _ _ _ _ _ _ _ _ _ _ _ _ _ _)
      | (with_reducible exact ih1 _ _ _ _ _ _ _ _ _)
      | (with_reducible exact laws_eqArchive.mono _ _ _ _ _ _ _ _ _ _ _ _ _ _ _)
      | (with_reducible exact laws_heldArchive.mono _ _ _ _ _ _ _ _ _)
      | (with_reducible exact laws_markArchive.mono _ _ _ _ _ _ _ _ _)
      | (with_reducible exact spec_ArchNew.mono _ _ _ _)
      | (with_reducible exact LeO.refl _)
      | (with_reducible exact LeO.none _)
      | (with_reducible refine LeO.ite ?_ ?_)
      | (with_reducible refine LeO.bind ?_ (fun _ => ?_))
      | exact ih0 _ _ _ _ _ _ _ _ _ _ _ _ _ _ _ _ _ _ _
      | exact ih1 _ _ _ _ _ _ _ _ _
      | exact laws_eqArchive.mono _ _ _ _ _ _ _ _ _ _ _ _ _ _ _
      | exact laws_heldArchive.mono _ _ _ _ _ _ _ _ _
      | exact laws_markArchive.mono _ _ _ _ _ _ _ _ _
      | exact spec_ArchNew.mono _ _ _ _
      | exact LeO.none _
      | refine LeO.ite ?_ ?_
      | refine LeO.bind ?_ (fun _ => ?_)
    · intro y0 y1 y2 y3 y4 y5 y6 y7 y8
      unfold laws_FnExactArchNew.j1
      repeat' first
      | (with_reducible exact ih0 _ _ _ _ _ _ _ _ _ _ _ _ _ _ _ _ _ _ _)
      | (with_reducible exact ih1 _ _ _ _ _ _ _ _ _)
      | (with_reducible exact laws_eqArchive.mono _ _ _ _ _ _ _ _ _ _ _ _ _ _ _)
      | (with_reducible exact laws_heldArchive.mono _ _ _ _ _ _ _ _ _)
      | (with_reducible exact laws_markArchive.mono _ _ _ _ _ _ _ _ _)
      | (with_reducible exact spec_ArchNew.mono _ _ _ _)
      | (with_reducible exact LeO.refl _)
      | (with_reducible exact LeO.none _)
      | (with_reducible refine LeO.ite ?_ ?_)
      | (with_reducible refine LeO.bind ?_ (fun _ => ?_))
      | exact ih0 _ _ _ _ _ _ _ _ _ _ _ _ _ _ _ _ _ _ _
      | exact ih1 _ _ _ _ _ _ _ _ _
      | exact laws_eqArchive.mono _ _ _ _ _ _ _ _ _ _ _ _ _ _ _
      | exact laws_heldArchive.mono _ _ _ _ _ _ _ _ _
      | exact laws_markArchive.mono _ _ _ _ _ _ _ _ _
      | exact spec_ArchNew.mono _ _ _ _
      | exact LeO.none _
      | refine LeO.ite ?_ ?_
      | refine LeO.bind ?_ (fun _ => ?_)
theorem laws_FnExactArchNew.mono : ∀ a0 a1 a2 k, LeO (laws_FnExactArchNew.f k a0 a1 a2) (laws_FnExactArchNew.f (k + 1) a0 a1 a2) := by
  intro a0 a1 a2 k
  obtain ⟨ih0, ih1⟩ := laws_FnExactArchNew.mono_l k
  unfold laws_FnExactArchNew.f
  repeat' first
      | (with_reducible exact ih0 _ _ _ _ _ _ _ _ _ _ _ _ _ _ _ _ _ _ _)
      | (with_reducible exact ih1 _ _ _ _ _ _ _ _ _)
      | (with_reducible exact laws_eqArchive.mono _ _ _ _ _ _ _ _ _ _ _ _ _ _ _)
      | (with_reducible exact laws_heldArchive.mono _ _ _ _ _ _ _ _ _)
      | (with_reducible exact laws_markArchive.mono _ _ _ _ _ _ _ _ _)
      | (with_reducible exact spec_ArchNew.mono _ _ _ _)
      | (with_reducible exact LeO.refl _)
      | (with_reducible exact LeO.none _)
      | (with_reducible refine LeO.ite ?_ ?_)
      | (with_reducible refine LeO.bind ?_ (fun _ => ?_))
      | exact ih0 _ _ _ _ _ _ _ _ _ _ _ _ _ _ _ _ _ _ _
      | exact ih1 _ _ _ _ _ _ _ _ _
      | exact laws_eqArchive.mono _ _ _ _ _ _ _ _ _ _ _ _ _ _ _
      | exact laws_heldArchive.mono _ _ _ _ _ _ _ _ _
      | exact laws_markArchive.mono _ _ _ _ _ _ _ _ _
      | exact spec_ArchNew.mono _ _ _ _
      | exact LeO.none _
      | refine LeO.ite ?_ ?_
      | refine LeO.bind ?_ (fun _ => ?_)
set_option maxHeartbeats 8000000 in
set_option maxRecDepth 100000 in
theorem laws_FnExactArchNew.calls (k : Nat) (a0 : Int) (a1 : Int) (a2 : Int) (r : Bool) (w : World) (h : laws_FnExactArchNew.f k a0 a1 a2 = some r) :
    Calls Try.prog 12 #[.int .i64 a0, .int .i64 a1, .int .i64 a2] w fun e w' => e = .returned (.bool r) ∧ Below w.heap.size w w' := by
  have hu61 := Try.underlying61
  have HB := Aside0.mk (Below.refl w.heap.size w)
  have H : ((spec_ArchNew.f k a0 a1 a2).bind fun bt712 => ((impl_ArchNew.f a0 a1 a2).bind fun bt725 => ((laws_eqArchive.f k bt725.1 bt725.2.1 bt725.2.2.1 bt725.2.2.2.1 bt725.2.2.2.2.1 bt725.2.2.2.2.2.1 bt725.2.2.2.2.2.2.1 bt712.1 bt712.2.1 bt712.2.2.1 bt712.2.2.2.1 bt712.2.2.2.2.1 bt712.2.2.2.2.2.1 bt712.2.2.2.2.2.2.1).bind fun t738 => (if t738 = true then (laws_FnExactArchNew.j0 k a0 a1 a2 bt712.2.2.2.2.2.2.2 (bt725.2.2.2.2.2.2.2 != bt712.2.2.2.2.2.2.2) bt712.1 bt712.2.1 bt712.2.2.1 bt712.2.2.2.1 bt712.2.2.2.2.1 bt712.2.2.2.2.2.1 bt712.2.2.2.2.2.2.1 bt725.1 bt725.2.1 bt725.2.2.1 bt725.2.2.2.1 bt725.2.2.2.2.1 bt725.2.2.2.2.2.1 bt725.2.2.2.2.2.2.1) else (laws_FnExactArchNew.j0 k a0 a1 a2 bt712.2.2.2.2.2.2.2 true bt712.1 bt712.2.1 bt712.2.2.1 bt712.2.2.2.1 bt712.2.2.2.2.1 bt712.2.2.2.2.2.1 bt712.2.2.2.2.2.2.1 bt725.1 bt725.2.1 bt725.2.2.1 bt725.2.2.2.1 bt725.2.2.2.2.1 bt725.2.2.2.2.2.1 bt725.2.2.2.2.2.2.1))))) = some r := h
  clear h
  replace H := Option.bind_eq_some_iff.mp H
  obtain ⟨⟨t712, t715, t716, t717, t718, t719, t720, t723⟩, A40, H⟩ := H
  replace H : ((impl_ArchNew.f a0 a1 a2).bind fun bt725 => ((laws_eqArchive.f k bt725.1 bt725.2.1 bt725.2.2.1 bt725.2.2.2.1 bt725.2.2.2.2.1 bt725.2.2.2.2.2.1 bt725.2.2.2.2.2.2.1 t712 t715 t716 t717 t718 t719 t720).bind fun t738 => (if t738 = true then (laws_FnExactArchNew.j0 k a0 a1 a2 t723 (bt725.2.2.2.2.2.2.2 != t723) t712 t715 t716 t717 t718 t719 t720 bt725.1 bt725.2.1 bt725.2.2.1 bt725.2.2.2.1 bt725.2.2.2.2.1 bt725.2.2.2.2.2.1 bt725.2.2.2.2.2.2.1) else (laws_FnExactArchNew.j0 k a0 a1 a2 t723 true t712 t715 t716 t717 t718 t719 t720 bt725.1 bt725.2.1 bt725.2.2.1 bt725.2.2.2.1 bt725.2.2.2.2.1 bt725.2.2.2.2.2.1 bt725.2.2.2.2.2.2.1)))) = some r := H
  have A4 := Aside0.mk A40
  clear A40
  replace H := Option.bind_eq_some_iff.mp H
  obtain ⟨⟨t725, t728, t729, t730, t731, t732, t733, t736⟩, A50, H⟩ := H
  replace H : ((laws_eqArchive.f k t725 t728 t729 t730 t731 t732 t733 t712 t715 t716 t717 t718 t719 t720).bind fun t738 => (if t738 = true then (laws_FnExactArchNew.j0 k a0 a1 a2 t723 (t736 != t723) t712 t715 t716 t717 t718 t719 t720 t725 t728 t729 t730 t731 t732 t733) else (laws_FnExactArchNew.j0 k a0 a1 a2 t723 true t712 t715 t716 t717 t718 t719 t720 t725 t728 t729 t730 t731 t732 t733))) = some r := H
  have A5 := Aside0.mk A50
  clear A50
  have HC6 := Aside0.mk H
  clear H
  go_enter Try.func12, Try.ntmps12
  go_upto_region 3 with (first | ((with_reducible refine gate_callee (f := 51) rfl ?_); refine goesL_ (some 19) rfl rfl Try.func51 (by kernel_rfl) rfl #[.int .i64 a0, .int .i64 a1, .int .i64 a2] rfl (by (try simp only [List.map_toArray, List.map_cons, List.map_nil]); first | done | rfl | (simp only [List.length_drop, List.length_take]; rfl)) ?_; (with_reducible refine (spec_ArchNew.calls k a0 a1 a2 t712 t715 t716 t717 t718 t719 t720 t723 _ A4.out).mono ?_); rintro e w7 ⟨v713, v721, rfl, ho0, ho1, hb⟩; refine ⟨_, rfl, ?_⟩; have n0_ := Aside0.mk (Kd.R_lower ho0 (below_size (by repeat (first | (with_reducible first | exact HB.out | apply below_alloc | apply pw_below_drewN | apply below_drew1) | exact HB.out)))); have n1_ := Aside0.mk (Kd.R_lower ho1 (below_size (by repeat (first | (with_reducible first | exact HB.out | apply below_alloc | apply pw_below_drewN | apply below_drew1) | exact HB.out)))); have n2_ := Aside0.mk (below_step (by repeat (first | (with_reducible first | exact HB.out | apply below_alloc | apply pw_below_drewN | apply below_drew1) | exact HB.out)) hb); clear HB; have HO714 := n0_; have HO722 := n1_; have HB := n2_; clear n0_ n1_ n2_; (try clear hb); (try clear hb2); (try clear hk); (try clear hi); (try clear ho0); (try clear ho1)) | ((with_reducible refine gate_dst (N := 7) rfl ?_); refine box_event ?hg (N := 7) ?hd (cs := #[.slice none 0 0, .int .i64 0, .int .i64 0, .int .i64 0, .int .i64 0, .int .i64 0, .slice none 0 0]) (t := 61) ?hr ?_; (case hd => rfl); (case hg => rfl); (case hr => first | (go_simp; done) | (go_simp; rfl)); intro gb724 hg w8 hbox hb; have n0_ := Aside0.mk (Kd.R_below (by (with_reducible repeat (first | apply Kd.R_alloc | apply Kd.R_drewN | apply Kd.R_drew)); exact HO714.out) hb); have n1_ := Aside0.mk (Kd.R_below (by (with_reducible repeat (first | apply Kd.R_alloc | apply Kd.R_drewN | apply Kd.R_drew)); exact HO722.out) hb); have n2_ := Aside0.mk (below_step (by repeat (first | (with_reducible first | exact HB.out | apply below_alloc | apply pw_below_drewN | apply below_drew1) | exact HB.out)) hb); have n3_ := Aside0.mk (hbox); have n4_ := Aside0.mk ((by rw [hg]; exact (below_size (by repeat (first | (with_reducible first | exact HB.out | apply below_alloc | apply pw_below_drewN | apply below_drew1) | exact HB.out))) : w.heap.size ≤ gb724)); have n5_ := Aside0.mk ((by rw [hg]; exact (below_size (by repeat (first | (with_reducible first | exact HB.out | apply below_alloc | apply pw_below_drewN | apply below_drew1) | exact HB.out))) : w.heap.size ≤ gb724)); clear HO714; clear HO722; clear HB; have HO714 := n0_; have HO722 := n1_; have HB := n2_; have BK724 := n3_; have GW724 := n4_; have GE724 := n5_; clear n0_ n1_ n2_ n3_ n4_ n5_; clear hb hbox hg; obtain ⟨Ao9, co9, eo9⟩ := Kd.R_slice HO714.out; subst eo9; have hcz10_0 : w8.cell? ⟨gb724, 0, none⟩ = some (.slice none 0 0) := (blk_cell BK724.out 0).trans rfl; have hcz10_1 : w8.cell? ⟨gb724, 1, none⟩ = some (.int .i64 0) := (blk_cell BK724.out 1).trans rfl; have hcz10_2 : w8.cell? ⟨gb724, 2, none⟩ = some (.int .i64 0) := (blk_cell BK724.out 2).trans rfl; have hcz10_3 : w8.cell? ⟨gb724, 3, none⟩ = some (.int .i64 0) := (blk_cell BK724.out 3).trans rfl; have hcz10_4 : w8.cell? ⟨gb724, 4, none⟩ = some (.int .i64 0) := (blk_cell BK724.out 4).trans rfl; have hcz10_5 : w8.cell? ⟨gb724, 5, none⟩ = some (.int .i64 0) := (blk_cell BK724.out 5).trans rfl; have hcz10_6 : w8.cell? ⟨gb724, 6, none⟩ = some (.slice none 0 0) := (blk_cell BK724.out 6).trans rfl; have hfz10_0 := blk_frozen BK724.out 0; have hfz10_1 := blk_frozen BK724.out 1; have hfz10_2 := blk_frozen BK724.out 2; have hfz10_3 := blk_frozen BK724.out 3; have hfz10_4 := blk_frozen BK724.out 4; have hfz10_5 := blk_frozen BK724.out 5; have hfz10_6 := blk_frozen BK724.out 6; obtain ⟨Ao11, co11, eo11⟩ := Kd.R_slice HO722.out; subst eo11) | ((with_reducible refine gate_callee (f := 52) rfl ?_); refine goesL_ (some 26) rfl rfl Try.func52 (by kernel_rfl) rfl #[.int .i64 a0, .int .i64 a1, .int .i64 a2] rfl (by (try simp only [List.map_toArray, List.map_cons, List.map_nil]); first | done | rfl | (simp only [List.length_drop, List.length_take]; rfl)) ?_; (with_reducible refine (impl_ArchNew.calls a0 a1 a2 t725 t728 t729 t730 t731 t732 t733 t736 _ A5.out).mono ?_); rintro e w12 ⟨v726, v734, rfl, ho0, ho1, hb⟩; refine ⟨_, rfl, ?_⟩; have n0_ := Aside0.mk (Kd.R_elder' (by (with_reducible repeat (first | apply Kd.R_alloc | apply Kd.R_drewN | apply Kd.R_drew)); exact (Kd.R_mono (Kd.R_far (p := ⟨gb724, 6, none⟩) (Kd.R_far (p := ⟨gb724, 5, none⟩) (Kd.R_far (p := ⟨gb724, 4, none⟩) (Kd.R_far (p := ⟨gb724, 3, none⟩) (Kd.R_far (p := ⟨gb724, 2, none⟩) (Kd.R_far (p := ⟨gb724, 1, none⟩) (Kd.R_far (p := ⟨gb724, 0, none⟩) (Kd.R_types HO714.out BK724.out (by decide)) (fun _ hk => hk.2) (.slice Ao9 t712.length co9)) (fun _ hk => hk.2) (.int .i64 t715)) (fun _ hk => hk.2) (.int .i64 t716)) (fun _ hk => hk.2) (.int .i64 t717)) (fun _ hk => hk.2) (.int .i64 t718)) (fun _ hk => hk.2) (.int .i64 t719)) (fun _ hk => hk.2) (.slice Ao11 t720.length co11)) (fun _ h_ => h_.1))) (Kd.R_base ho0) hb); have n1_ := Aside0.mk (Kd.R_elder' (by (with_reducible repeat (first | apply Kd.R_alloc | apply Kd.R_drewN | apply Kd.R_drew)); exact (Kd.R_mono (Kd.R_far (p := ⟨gb724, 6, none⟩) (Kd.R_far (p := ⟨gb724, 5, none⟩) (Kd.R_far (p := ⟨gb724, 4, none⟩) (Kd.R_far (p := ⟨gb724, 3, none⟩) (Kd.R_far (p := ⟨gb724, 2, none⟩) (Kd.R_far (p := ⟨gb724, 1, none⟩) (Kd.R_far (p := ⟨gb724, 0, none⟩) (Kd.R_types HO722.out BK724.out (by decide)) (fun _ hk => hk.2) (.slice Ao9 t712.length co9)) (fun _ hk => hk.2) (.int .i64 t715)) (fun _ hk => hk.2) (.int .i64 t716)) (fun _ hk => hk.2) (.int .i64 t717)) (fun _ hk => hk.2) (.int .i64 t718)) (fun _ hk => hk.2) (.int .i64 t719)) (fun _ hk => hk.2) (.slice Ao11 t720.length co11)) (fun _ h_ => h_.1))) (Kd.R_base ho1) hb); have n2_ := Aside0.mk (Kd.R_lower (Kd.R_new' ho0 (Kd.R_lt (by (with_reducible repeat (first | apply Kd.R_alloc | apply Kd.R_drewN | apply Kd.R_drew)); exact (Kd.R_mono (Kd.R_far (p := ⟨gb724, 6, none⟩) (Kd.R_far (p := ⟨gb724, 5, none⟩) (Kd.R_far (p := ⟨gb724, 4, none⟩) (Kd.R_far (p := ⟨gb724, 3, none⟩) (Kd.R_far (p := ⟨gb724, 2, none⟩) (Kd.R_far (p := ⟨gb724, 1, none⟩) (Kd.R_far (p := ⟨gb724, 0, none⟩) (Kd.R_types HO714.out BK724.out (by decide)) (fun _ hk => hk.2) (.slice Ao9 t712.length co9)) (fun _ hk => hk.2) (.int .i64 t715)) (fun _ hk => hk.2) (.int .i64 t716)) (fun _ hk => hk.2) (.int .i64 t717)) (fun _ hk => hk.2) (.int .i64 t718)) (fun _ hk => hk.2) (.int .i64 t719)) (fun _ hk => hk.2) (.slice Ao11 t720.length co11)) (fun _ h_ => h_.1))))) (below_size (by repeat (first | (with_reducible first | exact HB.out | apply below_alloc | apply pw_below_drewN | apply below_drew1 | refine below_set ?_ GE724.out) | exact HB.out)))); have n3_ := Aside0.mk (Kd.R_lower (Kd.R_new' ho1 (Kd.R_lt (by (with_reducible repeat (first | apply Kd.R_alloc | apply Kd.R_drewN | apply Kd.R_drew)); exact (Kd.R_mono (Kd.R_far (p := ⟨gb724, 6, none⟩) (Kd.R_far (p := ⟨gb724, 5, none⟩) (Kd.R_far (p := ⟨gb724, 4, none⟩) (Kd.R_far (p := ⟨gb724, 3, none⟩) (Kd.R_far (p := ⟨gb724, 2, none⟩) (Kd.R_far (p := ⟨gb724, 1, none⟩) (Kd.R_far (p := ⟨gb724, 0, none⟩) (Kd.R_types HO722.out BK724.out (by decide)) (fun _ hk => hk.2) (.slice Ao9 t712.length co9)) (fun _ hk => hk.2) (.int .i64 t715)) (fun _ hk => hk.2) (.int .i64 t716)) (fun _ hk => hk.2) (.int .i64 t717)) (fun _ hk => hk.2) (.int .i64 t718)) (fun _ hk => hk.2) (.int .i64 t719)) (fun _ hk => hk.2) (.slice Ao11 t720.length co11)) (fun _ h_ => h_.1))))) (below_size (by repeat (first | (with_reducible first | exact HB.out | apply below_alloc | apply pw_below_drewN | apply below_drew1 | refine below_set ?_ GE724.out) | exact HB.out)))); have n4_ := Aside0.mk (blk_below (g := gb724) (o := .cells #[.slice Ao9 t712.length co9, .int .i64 t715, .int .i64 t716, .int .i64 t717, .int .i64 t718, .int .i64 t719, .slice Ao11 t720.length co11] 61 (0, 0)) (by (with_reducible repeat (first | refine blk_drewN ?_ _ | refine blk_drew ?_ | refine blk_alloc ?_ _)); refine blk_put (cs := #[.slice Ao9 t712.length co9, .int .i64 t715, .int .i64 t716, .int .i64 t717, .int .i64 t718, .int .i64 t719, .slice none 0 0]) ?_ 6 _ rfl; (with_reducible repeat (first | refine blk_drewN ?_ _ | refine blk_drew ?_ | refine blk_alloc ?_ _)); refine blk_put (cs := #[.slice Ao9 t712.length co9, .int .i64 t715, .int .i64 t716, .int .i64 t717, .int .i64 t718, .int .i64 0, .slice none 0 0]) ?_ 5 _ rfl; (with_reducible repeat (first | refine blk_drewN ?_ _ | refine blk_drew ?_ | refine blk_alloc ?_ _)); refine blk_put (cs := #[.slice Ao9 t712.length co9, .int .i64 t715, .int .i64 t716, .int .i64 t717, .int .i64 0, .int .i64 0, .slice none 0 0]) ?_ 4 _ rfl; (with_reducible repeat (first | refine blk_drewN ?_ _ | refine blk_drew ?_ | refine blk_alloc ?_ _)); refine blk_put (cs := #[.slice Ao9 t712.length co9, .int .i64 t715, .int .i64 t716, .int .i64 0, .int .i64 0, .int .i64 0, .slice none 0 0]) ?_ 3 _ rfl; (with_reducible repeat (first | refine blk_drewN ?_ _ | refine blk_drew ?_ | refine blk_alloc ?_ _)); refine blk_put (cs := #[.slice Ao9 t712.length co9, .int .i64 t715, .int .i64 0, .int .i64 0, .int .i64 0, .int .i64 0, .slice none 0 0]) ?_ 2 _ rfl; (with_reducible repeat (first | refine blk_drewN ?_ _ | refine blk_drew ?_ | refine blk_alloc ?_ _)); refine blk_put (cs := #[.slice Ao9 t712.length co9, .int .i64 0, .int .i64 0, .int .i64 0, .int .i64 0, .int .i64 0, .slice none 0 0]) ?_ 1 _ rfl; (with_reducible repeat (first | refine blk_drewN ?_ _ | refine blk_drew ?_ | refine blk_alloc ?_ _)); refine blk_put (cs := #[.slice none 0 0, .int .i64 0, .int .i64 0, .int .i64 0, .int .i64 0, .int .i64 0, .slice none 0 0]) ?_ 0 _ rfl; (with_reducible repeat (first | refine blk_drewN ?_ _ | refine blk_drew ?_ | refine blk_alloc ?_ _)); exact BK724.out) hb); have n5_ := Aside0.mk (below_step (by repeat (first | (with_reducible first | exact HB.out | apply below_alloc | apply pw_below_drewN | apply below_drew1 | refine below_set ?_ GE724.out) | exact HB.out)) hb); clear HO714; clear HO722; clear BK724; clear HB; have HO714 := n0_; have HO722 := n1_; have HO727 := n2_; have HO735 := n3_; have BK724 := n4_; have HB := n5_; clear n0_ n1_ n2_ n3_ n4_ n5_; (try clear hb); (try clear hb2); (try clear hk); (try clear hi); (try clear ho0); (try clear ho1)) | ((with_reducible refine gate_dst (N := 9) rfl ?_); refine box_event ?hg (N := 9) ?hd (cs := #[.slice none 0 0, .int .i64 0, .int .i64 0, .int .i64 0, .int .i64 0, .int .i64 0, .slice none 0 0]) (t := 61) ?hr ?_; (case hd => rfl); (case hg => rfl); (case hr => first | (go_simp; done) | (go_simp; rfl)); intro gb737 hg w13 hbox hb; have n0_ := Aside0.mk (Kd.R_below (by (with_reducible repeat (first | apply Kd.R_alloc | apply Kd.R_drewN | apply Kd.R_drew)); exact HO714.out) hb); have n1_ := Aside0.mk (Kd.R_below (by (with_reducible repeat (first | apply Kd.R_alloc | apply Kd.R_drewN | apply Kd.R_drew)); exact HO722.out) hb); have n2_ := Aside0.mk (Kd.R_below (by (with_reducible repeat (first | apply Kd.R_alloc | apply Kd.R_drewN | apply Kd.R_drew)); exact HO727.out) hb); have n3_ := Aside0.mk (Kd.R_below (by (with_reducible repeat (first | apply Kd.R_alloc | apply Kd.R_drewN | apply Kd.R_drew)); exact HO735.out) hb); have n4_ := Aside0.mk (blk_below (g := gb724) (o := .cells #[.slice Ao9 t712.length co9, .int .i64 t715, .int .i64 t716, .int .i64 t717, .int .i64 t718, .int .i64 t719, .slice Ao11 t720.length co11] 61 (0, 0)) (by (with_reducible repeat (first | refine blk_drewN ?_ _ | refine blk_drew ?_ | refine blk_alloc ?_ _)); exact BK724.out) hb); have n5_ := Aside0.mk (below_step (by repeat (first | (with_reducible first | exact HB.out | apply below_alloc | apply pw_below_drewN | apply below_drew1 | refine below_set ?_ GE724.out) | exact HB.out)) hb); have n6_ := Aside0.mk (hbox); have n7_ := Aside0.mk ((by rw [hg]; exact (below_size (by repeat (first | (with_reducible first | exact HB.out | apply below_alloc | apply pw_below_drewN | apply below_drew1 | refine below_set ?_ GE724.out) | exact HB.out))) : w.heap.size ≤ gb737)); have n8_ := Aside0.mk ((by rw [hg]; exact (below_size (by repeat (first | (with_reducible first | exact HB.out | apply below_alloc | apply pw_below_drewN | apply below_drew1 | refine below_set ?_ GE724.out) | exact HB.out))) : w.heap.size ≤ gb737)); have n9_ := Aside0.mk ((by rw [hg]; exact Nat.ne_of_lt (blk_lt (g := gb724) (o := .cells #[.slice Ao9 t712.length co9, .int .i64 t715, .int .i64 t716, .int .i64 t717, .int .i64 t718, .int .i64 t719, .slice Ao11 t720.length co11] 61 (0, 0)) (by (with_reducible repeat (first | refine blk_drewN ?_ _ | refine blk_drew ?_ | refine blk_alloc ?_ _)); exact BK724.out)) : gb724 ≠ gb737)); have n10_ := Aside0.mk ((by rw [hg]; exact Nat.ne_of_gt (blk_lt (g := gb724) (o := .cells #[.slice Ao9 t712.length co9, .int .i64 t715, .int .i64 t716, .int .i64 t717, .int .i64 t718, .int .i64 t719, .slice Ao11 t720.length co11] 61 (0, 0)) (by (with_reducible repeat (first | refine blk_drewN ?_ _ | refine blk_drew ?_ | refine blk_alloc ?_ _)); exact BK724.out)) : gb737 ≠ gb724)); clear HO714; clear HO722; clear HO727; clear HO735; clear BK724; clear HB; have HO714 := n0_; have HO722 := n1_; have HO727 := n2_; have HO735 := n3_; have BK724 := n4_; have HB := n5_; have BK737 := n6_; have GW737 := n7_; have GE737 := n8_; have NB724_737 := n9_; have NB737_724 := n10_; clear n0_ n1_ n2_ n3_ n4_ n5_ n6_ n7_ n8_ n9_ n10_; clear hb hbox hg; obtain ⟨Ao14, co14, eo14⟩ := Kd.R_slice HO727.out; subst eo14; have hnb15 := NB737_724.out; have hnc15 := NB724_737.out; have hcz16_0 : w13.cell? ⟨gb737, 0, none⟩ = some (.slice none 0 0) := (blk_cell BK737.out 0).trans rfl; have hcz16_1 : w13.cell? ⟨gb737, 1, none⟩ = some (.int .i64 0) := (blk_cell BK737.out 1).trans rfl; have hcz16_2 : w13.cell? ⟨gb737, 2, none⟩ = some (.int .i64 0) := (blk_cell BK737.out 2).trans rfl; have hcz16_3 : w13.cell? ⟨gb737, 3, none⟩ = some (.int .i64 0) := (blk_cell BK737.out 3).trans rfl; have hcz16_4 : w13.cell? ⟨gb737, 4, none⟩ = some (.int .i64 0) := (blk_cell BK737.out 4).trans rfl; have hcz16_5 : w13.cell? ⟨gb737, 5, none⟩ = some (.int .i64 0) := (blk_cell BK737.out 5).trans rfl; have hcz16_6 : w13.cell? ⟨gb737, 6, none⟩ = some (.slice none 0 0) := (blk_cell BK737.out 6).trans rfl; have hfz16_0 := blk_frozen BK737.out 0; have hfz16_1 := blk_frozen BK737.out 1; have hfz16_2 := blk_frozen BK737.out 2; have hfz16_3 := blk_frozen BK737.out 3; have hfz16_4 := blk_frozen BK737.out 4; have hfz16_5 := blk_frozen BK737.out 5; have hfz16_6 := blk_frozen BK737.out 6; obtain ⟨Ao17, co17, eo17⟩ := Kd.R_slice HO735.out; subst eo17))
  (try simp only [Act.put, List.setIfInBounds_toArray, List.set_cons_zero, List.set_cons_succ])
  go_cut [37] (fun v37 wc => ∃ (kq : Nat) (x37_5 : Bool), v37 = .bool x37_5 ∧ Aside0 (laws_FnExactArchNew.j0 kq a0 a1 a2 t723 x37_5 t712 t715 t716 t717 t718 t719 t720 t725 t728 t729 t730 t731 t732 t733 = some r) ∧ Aside0 (kq ≤ k) ∧ Aside0 (Kd.R k84 84 wc w.heap.size (fun k_ => some k_ ≠ ((.slice Ao14 t725.length co14) : Value).ownBlock) (.slice Ao9 t712.length co9) t712) ∧ Aside0 (Kd.R k115 115 wc w.heap.size (fun k_ => some k_ ≠ ((.slice Ao17 t733.length co17) : Value).ownBlock) (.slice Ao11 t720.length co11) t720) ∧ Aside0 (Kd.R k84 84 wc w.heap.size (fun k_ => some k_ ≠ ((.slice Ao9 t712.length co9) : Value).ownBlock) (.slice Ao14 t725.length co14) t725) ∧ Aside0 (Kd.R k115 115 wc w.heap.size (fun k_ => some k_ ≠ ((.slice Ao11 t720.length co11) : Value).ownBlock) (.slice Ao17 t733.length co17) t733) ∧ Aside0 (wc.heap[gb724]? = some (.cells #[(.slice Ao9 t712.length co9), .int .i64 t715, .int .i64 t716, .int .i64 t717, .int .i64 t718, .int .i64 t719, (.slice Ao11 t720.length co11)] 61 (0, 0))) ∧ Aside0 (wc.heap[gb737]? = some (.cells #[(.slice Ao14 t725.length co14), .int .i64 t728, .int .i64 t729, .int .i64 t730, .int .i64 t731, .int .i64 t732, (.slice Ao17 t733.length co17)] 61 (0, 0))) ∧ Aside0 (Below w.heap.size w wc))
  case first =>
    have H := HC6.out
    clear HC6
    replace H := Option.bind_eq_some_iff.mp H
    obtain ⟨t738, A180, H⟩ := H
    replace H : (if t738 = true then (laws_FnExactArchNew.j0 k a0 a1 a2 t723 (t736 != t723) t712 t715 t716 t717 t718 t719 t720 t725 t728 t729 t730 t731 t732 t733) else (laws_FnExactArchNew.j0 k a0 a1 a2 t723 true t712 t715 t716 t717 t718 t719 t720 t725 t728 t729 t730 t731 t732 t733)) = some r := H
    have A18 := Aside0.mk A180
    clear A180
    by_cases c19 : t738 = true
    · subst c19
      have H1 : (laws_FnExactArchNew.j0 k a0 a1 a2 t723 (t736 != t723) t712 t715 t716 t717 t718 t719 t720 t725 t728 t729 t730 t731 t732 t733) = some r := by rw [if_pos rfl] at H; exact H
      clear H
      have H := H1
      clear H1
      have H' := Aside0.mk H
      clear H
      have hnb20 := NB737_724.out
      have hnc20 := NB724_737.out
      have hcz21_0 : w13.cell? ⟨gb737, 0, none⟩ = some (.slice none 0 0) := (blk_cell BK737.out 0).trans rfl
      have hcz21_1 : w13.cell? ⟨gb737, 1, none⟩ = some (.int .i64 0) := (blk_cell BK737.out 1).trans rfl
      have hcz21_2 : w13.cell? ⟨gb737, 2, none⟩ = some (.int .i64 0) := (blk_cell BK737.out 2).trans rfl
      have hcz21_3 : w13.cell? ⟨gb737, 3, none⟩ = some (.int .i64 0) := (blk_cell BK737.out 3).trans rfl
      have hcz21_4 : w13.cell? ⟨gb737, 4, none⟩ = some (.int .i64 0) := (blk_cell BK737.out 4).trans rfl
      have hcz21_5 : w13.cell? ⟨gb737, 5, none⟩ = some (.int .i64 0) := (blk_cell BK737.out 5).trans rfl
      have hcz21_6 : w13.cell? ⟨gb737, 6, none⟩ = some (.slice none 0 0) := (blk_cell BK737.out 6).trans rfl
      have hfz21_0 := blk_frozen BK737.out 0
      have hfz21_1 := blk_frozen BK737.out 1
      have hfz21_2 := blk_frozen BK737.out 2
      have hfz21_3 := blk_frozen BK737.out 3
      have hfz21_4 := blk_frozen BK737.out 4
      have hfz21_5 := blk_frozen BK737.out 5
      have hfz21_6 := blk_frozen BK737.out 6
      have hcz22_0 : w13.cell? ⟨gb724, 0, none⟩ = some (.slice Ao9 t712.length co9) := (blk_cell BK724.out 0).trans rfl
      have hcz22_1 : w13.cell? ⟨gb724, 1, none⟩ = some (.int .i64 t715) := (blk_cell BK724.out 1).trans rfl
      have hcz22_2 : w13.cell? ⟨gb724, 2, none⟩ = some (.int .i64 t716) := (blk_cell BK724.out 2).trans rfl
      have hcz22_3 : w13.cell? ⟨gb724, 3, none⟩ = some (.int .i64 t717) := (blk_cell BK724.out 3).trans rfl
      have hcz22_4 : w13.cell? ⟨gb724, 4, none⟩ = some (.int .i64 t718) := (blk_cell BK724.out 4).trans rfl
      have hcz22_5 : w13.cell? ⟨gb724, 5, none⟩ = some (.int .i64 t719) := (blk_cell BK724.out 5).trans rfl
      have hcz22_6 : w13.cell? ⟨gb724, 6, none⟩ = some (.slice Ao11 t720.length co11) := (blk_cell BK724.out 6).trans rfl
      have hfz22_0 := blk_frozen BK724.out 0
      have hfz22_1 := blk_frozen BK724.out 1
      have hfz22_2 := blk_frozen BK724.out 2
      have hfz22_3 := blk_frozen BK724.out 3
      have hfz22_4 := blk_frozen BK724.out 4
      have hfz22_5 := blk_frozen BK724.out 5
      have hfz22_6 := blk_frozen BK724.out 6
      go_wp2_with (first | ((with_reducible refine gate_callee (f := 53) rfl ?_); refine goesL_ (some 31) rfl rfl Try.func53 (by kernel_rfl) rfl #[.agg #[.slice Ao14 t725.length co14, .int .i64 t728, .int .i64 t729, .int .i64 t730, .int .i64 t731, .int .i64 t732, .slice Ao17 t733.length co17], .agg #[.slice Ao9 t712.length co9, .int .i64 t715, .int .i64 t716, .int .i64 t717, .int .i64 t718, .int .i64 t719, .slice Ao11 t720.length co11]] rfl (by (try simp only [List.map_toArray, List.map_cons, List.map_nil]); first | done | rfl | (simp only [List.length_drop, List.length_take]; rfl)) ?_; (with_reducible refine (laws_eqArchive.calls k _ _ t725 t728 t729 t730 t731 t732 _ _ t733 _ _ t712 t715 t716 t717 t718 t719 _ _ t720 true _ ?side1 ?side2 ?side3 ?side4 ?side5 ?side6 ?side7 ?side8 A18.out).mono ?_); (case side1 => refine (Kd.R_reads' (e := 84) (base := w.heap.size) (ok := fun k_ => (True ∧ some k_ ≠ (.slice Ao9 t712.length co9 : Value).ownBlock)) (n := t725.length) (c := co14) ?_).2.2; exact (by (with_reducible repeat (first | apply Kd.R_alloc | apply Kd.R_drewN | apply Kd.R_drew)); exact (Kd.R_mono (Kd.R_far (p := ⟨gb737, 6, none⟩) (Kd.R_far (p := ⟨gb737, 5, none⟩) (Kd.R_far (p := ⟨gb737, 4, none⟩) (Kd.R_far (p := ⟨gb737, 3, none⟩) (Kd.R_far (p := ⟨gb737, 2, none⟩) (Kd.R_far (p := ⟨gb737, 1, none⟩) (Kd.R_far (p := ⟨gb737, 0, none⟩) (Kd.R_types HO727.out BK737.out (by decide)) (fun _ hk => hk.2) (.slice Ao14 t725.length co14)) (fun _ hk => hk.2) (.int .i64 t728)) (fun _ hk => hk.2) (.int .i64 t729)) (fun _ hk => hk.2) (.int .i64 t730)) (fun _ hk => hk.2) (.int .i64 t731)) (fun _ hk => hk.2) (.int .i64 t732)) (fun _ hk => hk.2) (.slice Ao17 t733.length co17)) (fun _ h_ => h_.1)))); (case side2 => exact (Kd.R_reads' HO727.out).2.1); (case side3 => refine (Kd.R_reads' (e := 115) (base := w.heap.size) (ok := fun k_ => (True ∧ some k_ ≠ (.slice Ao11 t720.length co11 : Value).ownBlock)) (n := t733.length) (c := co17) ?_).2.2; exact (by (with_reducible repeat (first | apply Kd.R_alloc | apply Kd.R_drewN | apply Kd.R_drew)); exact (Kd.R_mono (Kd.R_far (p := ⟨gb737, 6, none⟩) (Kd.R_far (p := ⟨gb737, 5, none⟩) (Kd.R_far (p := ⟨gb737, 4, none⟩) (Kd.R_far (p := ⟨gb737, 3, none⟩) (Kd.R_far (p := ⟨gb737, 2, none⟩) (Kd.R_far (p := ⟨gb737, 1, none⟩) (Kd.R_far (p := ⟨gb737, 0, none⟩) (Kd.R_types HO735.out BK737.out (by decide)) (fun _ hk => hk.2) (.slice Ao14 t725.length co14)) (fun _ hk => hk.2) (.int .i64 t728)) (fun _ hk => hk.2) (.int .i64 t729)) (fun _ hk => hk.2) (.int .i64 t730)) (fun _ hk => hk.2) (.int .i64 t731)) (fun _ hk => hk.2) (.int .i64 t732)) (fun _ hk => hk.2) (.slice Ao17 t733.length co17)) (fun _ h_ => h_.1)))); (case side4 => exact (Kd.R_reads' HO735.out).2.1); (case side5 => refine (Kd.R_reads' (e := 84) (base := w.heap.size) (ok := fun k_ => (True ∧ some k_ ≠ (.slice Ao14 t725.length co14 : Value).ownBlock)) (n := t712.length) (c := co9) ?_).2.2; exact (by (with_reducible repeat (first | apply Kd.R_alloc | apply Kd.R_drewN | apply Kd.R_drew)); exact (Kd.R_mono (Kd.R_far (p := ⟨gb737, 6, none⟩) (Kd.R_far (p := ⟨gb737, 5, none⟩) (Kd.R_far (p := ⟨gb737, 4, none⟩) (Kd.R_far (p := ⟨gb737, 3, none⟩) (Kd.R_far (p := ⟨gb737, 2, none⟩) (Kd.R_far (p := ⟨gb737, 1, none⟩) (Kd.R_far (p := ⟨gb737, 0, none⟩) (Kd.R_types HO714.out BK737.out (by decide)) (fun _ hk => hk.2) (.slice Ao14 t725.length co14)) (fun _ hk => hk.2) (.int .i64 t728)) (fun _ hk => hk.2) (.int .i64 t729)) (fun _ hk => hk.2) (.int .i64 t730)) (fun _ hk => hk.2) (.int .i64 t731)) (fun _ hk => hk.2) (.int .i64 t732)) (fun _ hk => hk.2) (.slice Ao17 t733.length co17)) (fun _ h_ => h_.1)))); (case side6 => exact (Kd.R_reads' HO714.out).2.1); (case side7 => refine (Kd.R_reads' (e := 115) (base := w.heap.size) (ok := fun k_ => (True ∧ some k_ ≠ (.slice Ao17 t733.length co17 : Value).ownBlock)) (n := t720.length) (c := co11) ?_).2.2; exact (by (with_reducible repeat (first | apply Kd.R_alloc | apply Kd.R_drewN | apply Kd.R_drew)); exact (Kd.R_mono (Kd.R_far (p := ⟨gb737, 6, none⟩) (Kd.R_far (p := ⟨gb737, 5, none⟩) (Kd.R_far (p := ⟨gb737, 4, none⟩) (Kd.R_far (p := ⟨gb737, 3, none⟩) (Kd.R_far (p := ⟨gb737, 2, none⟩) (Kd.R_far (p := ⟨gb737, 1, none⟩) (Kd.R_far (p := ⟨gb737, 0, none⟩) (Kd.R_types HO722.out BK737.out (by decide)) (fun _ hk => hk.2) (.slice Ao14 t725.length co14)) (fun _ hk => hk.2) (.int .i64 t728)) (fun _ hk => hk.2) (.int .i64 t729)) (fun _ hk => hk.2) (.int .i64 t730)) (fun _ hk => hk.2) (.int .i64 t731)) (fun _ hk => hk.2) (.int .i64 t732)) (fun _ hk => hk.2) (.slice Ao17 t733.length co17)) (fun _ h_ => h_.1)))); (case side8 => exact (Kd.R_reads' HO722.out).2.1); rintro e w23 ⟨rfl, hb⟩; refine ⟨_, rfl, ?_⟩; have n0_ := Aside0.mk (Kd.R_below (by (with_reducible repeat (first | apply Kd.R_alloc | apply Kd.R_drewN | apply Kd.R_drew)); exact (Kd.R_mono (Kd.R_far (p := ⟨gb737, 6, none⟩) (Kd.R_far (p := ⟨gb737, 5, none⟩) (Kd.R_far (p := ⟨gb737, 4, none⟩) (Kd.R_far (p := ⟨gb737, 3, none⟩) (Kd.R_far (p := ⟨gb737, 2, none⟩) (Kd.R_far (p := ⟨gb737, 1, none⟩) (Kd.R_far (p := ⟨gb737, 0, none⟩) (Kd.R_types HO714.out BK737.out (by decide)) (fun _ hk => hk.2) (.slice Ao14 t725.length co14)) (fun _ hk => hk.2) (.int .i64 t728)) (fun _ hk => hk.2) (.int .i64 t729)) (fun _ hk => hk.2) (.int .i64 t730)) (fun _ hk => hk.2) (.int .i64 t731)) (fun _ hk => hk.2) (.int .i64 t732)) (fun _ hk => hk.2) (.slice Ao17 t733.length co17)) (fun _ h_ => h_.1))) hb); have n1_ := Aside0.mk (Kd.R_below (by (with_reducible repeat (first | apply Kd.R_alloc | apply Kd.R_drewN | apply Kd.R_drew)); exact (Kd.R_mono (Kd.R_far (p := ⟨gb737, 6, none⟩) (Kd.R_far (p := ⟨gb737, 5, none⟩) (Kd.R_far (p := ⟨gb737, 4, none⟩) (Kd.R_far (p := ⟨gb737, 3, none⟩) (Kd.R_far (p := ⟨gb737, 2, none⟩) (Kd.R_far (p := ⟨gb737, 1, none⟩) (Kd.R_far (p := ⟨gb737, 0, none⟩) (Kd.R_types HO722.out BK737.out (by decide)) (fun _ hk => hk.2) (.slice Ao14 t725.length co14)) (fun _ hk => hk.2) (.int .i64 t728)) (fun _ hk => hk.2) (.int .i64 t729)) (fun _ hk => hk.2) (.int .i64 t730)) (fun _ hk => hk.2) (.int .i64 t731)) (fun _ hk => hk.2) (.int .i64 t732)) (fun _ hk => hk.2) (.slice Ao17 t733.length co17)) (fun _ h_ => h_.1))) hb); have n2_ := Aside0.mk (Kd.R_below (by (with_reducible repeat (first | apply Kd.R_alloc | apply Kd.R_drewN | apply Kd.R_drew)); exact (Kd.R_mono (Kd.R_far (p := ⟨gb737, 6, none⟩) (Kd.R_far (p := ⟨gb737, 5, none⟩) (Kd.R_far (p := ⟨gb737, 4, none⟩) (Kd.R_far (p := ⟨gb737, 3, none⟩) (Kd.R_far (p := ⟨gb737, 2, none⟩) (Kd.R_far (p := ⟨gb737, 1, none⟩) (Kd.R_far (p := ⟨gb737, 0, none⟩) (Kd.R_types HO727.out BK737.out (by decide)) (fun _ hk => hk.2) (.slice Ao14 t725.length co14)) (fun _ hk => hk.2) (.int .i64 t728)) (fun _ hk => hk.2) (.int .i64 t729)) (fun _ hk => hk.2) (.int .i64 t730)) (fun _ hk => hk.2) (.int .i64 t731)) (fun _ hk => hk.2) (.int .i64 t732)) (fun _ hk => hk.2) (.slice Ao17 t733.length co17)) (fun _ h_ => h_.1))) hb); have n3_ := Aside0.mk (Kd.R_below (by (with_reducible repeat (first | apply Kd.R_alloc | apply Kd.R_drewN | apply Kd.R_drew)); exact (Kd.R_mono (Kd.R_far (p := ⟨gb737, 6, none⟩) (Kd.R_far (p := ⟨gb737, 5, none⟩) (Kd.R_far (p := ⟨gb737, 4, none⟩) (Kd.R_far (p := ⟨gb737, 3, none⟩) (Kd.R_far (p := ⟨gb737, 2, none⟩) (Kd.R_far (p := ⟨gb737, 1, none⟩) (Kd.R_far (p := ⟨gb737, 0, none⟩) (Kd.R_types HO735.out BK737.out (by decide)) (fun _ hk => hk.2) (.slice Ao14 t725.length co14)) (fun _ hk => hk.2) (.int .i64 t728)) (fun _ hk => hk.2) (.int .i64 t729)) (fun _ hk => hk.2) (.int .i64 t730)) (fun _ hk => hk.2) (.int .i64 t731)) (fun _ hk => hk.2) (.int .i64 t732)) (fun _ hk => hk.2) (.slice Ao17 t733.length co17)) (fun _ h_ => h_.1))) hb); have n4_ := Aside0.mk (blk_below (g := gb724) (o := .cells #[.slice Ao9 t712.length co9, .int .i64 t715, .int .i64 t716, .int .i64 t717, .int .i64 t718, .int .i64 t719, .slice Ao11 t720.length co11] 61 (0, 0)) (by (with_reducible repeat (first | refine blk_drewN ?_ _ | refine blk_drew ?_ | refine blk_alloc ?_ _)); refine blk_far ?_ NB724_737.out _; (with_reducible repeat (first | refine blk_drewN ?_ _ | refine blk_drew ?_ | refine blk_alloc ?_ _)); refine blk_far ?_ NB724_737.out _; (with_reducible repeat (first | refine blk_drewN ?_ _ | refine blk_drew ?_ | refine blk_alloc ?_ _)); refine blk_far ?_ NB724_737.out _; (with_reducible repeat (first | refine blk_drewN ?_ _ | refine blk_drew ?_ | refine blk_alloc ?_ _)); refine blk_far ?_ NB724_737.out _; (with_reducible repeat (first | refine blk_drewN ?_ _ | refine blk_drew ?_ | refine blk_alloc ?_ _)); refine blk_far ?_ NB724_737.out _; (with_reducible repeat (first | refine blk_drewN ?_ _ | refine blk_drew ?_ | refine blk_alloc ?_ _)); refine blk_far ?_ NB724_737.out _; (with_reducible repeat (first | refine blk_drewN ?_ _ | refine blk_drew ?_ | refine blk_alloc ?_ _)); refine blk_far ?_ NB724_737.out _; (with_reducible repeat (first | refine blk_drewN ?_ _ | refine blk_drew ?_ | refine blk_alloc ?_ _)); exact BK724.out) hb); have n5_ := Aside0.mk (blk_below (g := gb737) (o := .cells #[.slice Ao14 t725.length co14, .int .i64 t728, .int .i64 t729, .int .i64 t730, .int .i64 t731, .int .i64 t732, .slice Ao17 t733.length co17] 61 (0, 0)) (by (with_reducible repeat (first | refine blk_drewN ?_ _ | refine blk_drew ?_ | refine blk_alloc ?_ _)); refine blk_put (cs := #[.slice Ao14 t725.length co14, .int .i64 t728, .int .i64 t729, .int .i64 t730, .int .i64 t731, .int .i64 t732, .slice none 0 0]) ?_ 6 _ rfl; (with_reducible repeat (first | refine blk_drewN ?_ _ | refine blk_drew ?_ | refine blk_alloc ?_ _)); refine blk_put (cs := #[.slice Ao14 t725.length co14, .int .i64 t728, .int .i64 t729, .int .i64 t730, .int .i64 t731, .int .i64 0, .slice none 0 0]) ?_ 5 _ rfl; (with_reducible repeat (first | refine blk_drewN ?_ _ | refine blk_drew ?_ | refine blk_alloc ?_ _)); refine blk_put (cs := #[.slice Ao14 t725.length co14, .int .i64 t728, .int .i64 t729, .int .i64 t730, .int .i64 0, .int .i64 0, .slice none 0 0]) ?_ 4 _ rfl; (with_reducible repeat (first | refine blk_drewN ?_ _ | refine blk_drew ?_ | refine blk_alloc ?_ _)); refine blk_put (cs := #[.slice Ao14 t725.length co14, .int .i64 t728, .int .i64 t729, .int .i64 0, .int .i64 0, .int .i64 0, .slice none 0 0]) ?_ 3 _ rfl; (with_reducible repeat (first | refine blk_drewN ?_ _ | refine blk_drew ?_ | refine blk_alloc ?_ _)); refine blk_put (cs := #[.slice Ao14 t725.length co14, .int .i64 t728, .int .i64 0, .int .i64 0, .int .i64 0, .int .i64 0, .slice none 0 0]) ?_ 2 _ rfl; (with_reducible repeat (first | refine blk_drewN ?_ _ | refine blk_drew ?_ | refine blk_alloc ?_ _)); refine blk_put (cs := #[.slice Ao14 t725.length co14, .int .i64 0, .int .i64 0, .int .i64 0, .int .i64 0, .int .i64 0, .slice none 0 0]) ?_ 1 _ rfl; (with_reducible repeat (first | refine blk_drewN ?_ _ | refine blk_drew ?_ | refine blk_alloc ?_ _)); refine blk_put (cs := #[.slice none 0 0, .int .i64 0, .int .i64 0, .int .i64 0, .int .i64 0, .int .i64 0, .slice none 0 0]) ?_ 0 _ rfl; (with_reducible repeat (first | refine blk_drewN ?_ _ | refine blk_drew ?_ | refine blk_alloc ?_ _)); exact BK737.out) hb); have n6_ := Aside0.mk (below_step (by repeat (first | (with_reducible first | exact HB.out | apply below_alloc | apply pw_below_drewN | apply below_drew1 | refine below_set ?_ GE724.out | refine below_set ?_ GE737.out) | exact HB.out)) hb); clear HO714; clear HO722; clear HO727; clear HO735; clear BK724; clear BK737; clear HB; have HO714 := n0_; have HO722 := n1_; have HO727 := n2_; have HO735 := n3_; have BK724 := n4_; have BK737 := n5_; have HB := n6_; clear n0_ n1_ n2_ n3_ n4_ n5_ n6_; (try clear hb); (try clear hb2); (try clear hk); (try clear hi)))
      go_meet
      case rel => exact ⟨_, ((t736 != t723)), (by first | rfl | (simp; done) | (simp [*]; done)), H', ⟨by first | omega | exact Nat.le_refl _⟩, ⟨by (with_reducible repeat (first | apply Kd.R_alloc | apply Kd.R_drewN | apply Kd.R_drew)); exact Kd.R_mono HO714.out (fun _ hk => hk.2)⟩, ⟨by (with_reducible repeat (first | apply Kd.R_alloc | apply Kd.R_drewN | apply Kd.R_drew)); exact Kd.R_mono HO722.out (fun _ hk => hk.2)⟩, ⟨by (with_reducible repeat (first | apply Kd.R_alloc | apply Kd.R_drewN | apply Kd.R_drew)); exact Kd.R_mono HO727.out (fun _ hk => hk.2)⟩, ⟨by (with_reducible repeat (first | apply Kd.R_alloc | apply Kd.R_drewN | apply Kd.R_drew)); exact Kd.R_mono HO735.out (fun _ hk => hk.2)⟩, ⟨by (with_reducible repeat (first | refine blk_drewN ?_ _ | refine blk_drew ?_ | refine blk_alloc ?_ _)); exact BK724.out⟩, ⟨by (with_reducible repeat (first | refine blk_drewN ?_ _ | refine blk_drew ?_ | refine blk_alloc ?_ _)); exact BK737.out⟩, ⟨by repeat (first | (with_reducible first | exact HB.out | apply below_alloc | apply pw_below_drewN | apply below_drew1 | refine below_set ?_ GE724.out | refine below_set ?_ GE737.out) | exact HB.out)⟩⟩
    · replace c19 := Bool.eq_false_iff.mpr c19
      subst c19
      have H1 : (laws_FnExactArchNew.j0 k a0 a1 a2 t723 true t712 t715 t716 t717 t718 t719 t720 t725 t728 t729 t730 t731 t732 t733) = some r := by rw [if_neg (show ¬ (false = true) by decide)] at H; exact H
      clear H
      have H := H1
      clear H1
      have H' := Aside0.mk H
      clear H
      have hnb24 := NB737_724.out
      have hnc24 := NB724_737.out
      have hcz25_0 : w13.cell? ⟨gb737, 0, none⟩ = some (.slice none 0 0) := (blk_cell BK737.out 0).trans rfl
      have hcz25_1 : w13.cell? ⟨gb737, 1, none⟩ = some (.int .i64 0) := (blk_cell BK737.out 1).trans rfl
      have hcz25_2 : w13.cell? ⟨gb737, 2, none⟩ = some (.int .i64 0) := (blk_cell BK737.out 2).trans rfl
      have hcz25_3 : w13.cell? ⟨gb737, 3, none⟩ = some (.int .i64 0) := (blk_cell BK737.out 3).trans rfl
      have hcz25_4 : w13.cell? ⟨gb737, 4, none⟩ = some (.int .i64 0) := (blk_cell BK737.out 4).trans rfl
      have hcz25_5 : w13.cell? ⟨gb737, 5, none⟩ = some (.int .i64 0) := (blk_cell BK737.out 5).trans rfl
      have hcz25_6 : w13.cell? ⟨gb737, 6, none⟩ = some (.slice none 0 0) := (blk_cell BK737.out 6).trans rfl
      have hfz25_0 := blk_frozen BK737.out 0
      have hfz25_1 := blk_frozen BK737.out 1
      have hfz25_2 := blk_frozen BK737.out 2
      have hfz25_3 := blk_frozen BK737.out 3
      have hfz25_4 := blk_frozen BK737.out 4
      have hfz25_5 := blk_frozen BK737.out 5
      have hfz25_6 := blk_frozen BK737.out 6
      have hcz26_0 : w13.cell? ⟨gb724, 0, none⟩ = some (.slice Ao9 t712.length co9) := (blk_cell BK724.out 0).trans rfl
      have hcz26_1 : w13.cell? ⟨gb724, 1, none⟩ = some (.int .i64 t715) := (blk_cell BK724.out 1).trans rfl
      have hcz26_2 : w13.cell? ⟨gb724, 2, none⟩ = some (.int .i64 t716) := (blk_cell BK724.out 2).trans rfl
      have hcz26_3 : w13.cell? ⟨gb724, 3, none⟩ = some (.int .i64 t717) := (blk_cell BK724.out 3).trans rfl
      have hcz26_4 : w13.cell? ⟨gb724, 4, none⟩ = some (.int .i64 t718) := (blk_cell BK724.out 4).trans rfl
      have hcz26_5 : w13.cell? ⟨gb724, 5, none⟩ = some (.int .i64 t719) := (blk_cell BK724.out 5).trans rfl
      have hcz26_6 : w13.cell? ⟨gb724, 6, none⟩ = some (.slice Ao11 t720.length co11) := (blk_cell BK724.out 6).trans rfl
      have hfz26_0 := blk_frozen BK724.out 0
      have hfz26_1 := blk_frozen BK724.out 1
      have hfz26_2 := blk_frozen BK724.out 2
      have hfz26_3 := blk_frozen BK724.out 3
      have hfz26_4 := blk_frozen BK724.out 4
      have hfz26_5 := blk_frozen BK724.out 5
      have hfz26_6 := blk_frozen BK724.out 6
      go_wp2_with (first | ((with_reducible refine gate_callee (f := 53) rfl ?_); refine goesL_ (some 31) rfl rfl Try.func53 (by kernel_rfl) rfl #[.agg #[.slice Ao14 t725.length co14, .int .i64 t728, .int .i64 t729, .int .i64 t730, .int .i64 t731, .int .i64 t732, .slice Ao17 t733.length co17], .agg #[.slice Ao9 t712.length co9, .int .i64 t715, .int .i64 t716, .int .i64 t717, .int .i64 t718, .int .i64 t719, .slice Ao11 t720.length co11]] rfl (by (try simp only [List.map_toArray, List.map_cons, List.map_nil]); first | done | rfl | (simp only [List.length_drop, List.length_take]; rfl)) ?_; (with_reducible refine (laws_eqArchive.calls k _ _ t725 t728 t729 t730 t731 t732 _ _ t733 _ _ t712 t715 t716 t717 t718 t719 _ _ t720 false _ ?side1 ?side2 ?side3 ?side4 ?side5 ?side6 ?side7 ?side8 A18.out).mono ?_); (case side1 => refine (Kd.R_reads' (e := 84) (base := w.heap.size) (ok := fun k_ => (True ∧ some k_ ≠ (.slice Ao9 t712.length co9 : Value).ownBlock)) (n := t725.length) (c := co14) ?_).2.2; exact (by (with_reducible repeat (first | apply Kd.R_alloc | apply Kd.R_drewN | apply Kd.R_drew)); exact (Kd.R_mono (Kd.R_far (p := ⟨gb737, 6, none⟩) (Kd.R_far (p := ⟨gb737, 5, none⟩) (Kd.R_far (p := ⟨gb737, 4, none⟩) (Kd.R_far (p := ⟨gb737, 3, none⟩) (Kd.R_far (p := ⟨gb737, 2, none⟩) (Kd.R_far (p := ⟨gb737, 1, none⟩) (Kd.R_far (p := ⟨gb737, 0, none⟩) (Kd.R_types HO727.out BK737.out (by decide)) (fun _ hk => hk.2) (.slice Ao14 t725.length co14)) (fun _ hk => hk.2) (.int .i64 t728)) (fun _ hk => hk.2) (.int .i64 t729)) (fun _ hk => hk.2) (.int .i64 t730)) (fun _ hk => hk.2) (.int .i64 t731)) (fun _ hk => hk.2) (.int .i64 t732)) (fun _ hk => hk.2) (.slice Ao17 t733.length co17)) (fun _ h_ => h_.1)))); (case side2 => exact (Kd.R_reads' HO727.out).2.1); (case side3 => refine (Kd.R_reads' (e := 115) (base := w.heap.size) (ok := fun k_ => (True ∧ some k_ ≠ (.slice Ao11 t720.length co11 : Value).ownBlock)) (n := t733.length) (c := co17) ?_).2.2; exact (by (with_reducible repeat (first | apply Kd.R_alloc | apply Kd.R_drewN | apply Kd.R_drew)); exact (Kd.R_mono (Kd.R_far (p := ⟨gb737, 6, none⟩) (Kd.R_far (p := ⟨gb737, 5, none⟩) (Kd.R_far (p := ⟨gb737, 4, none⟩) (Kd.R_far (p := ⟨gb737, 3, none⟩) (Kd.R_far (p := ⟨gb737, 2, none⟩) (Kd.R_far (p := ⟨gb737, 1, none⟩) (Kd.R_far (p := ⟨gb737, 0, none⟩) (Kd.R_types HO735.out BK737.out (by decide)) (fun _ hk => hk.2) (.slice Ao14 t725.length co14)) (fun _ hk => hk.2) (.int .i64 t728)) (fun _ hk => hk.2) (.int .i64 t729)) (fun _ hk => hk.2) (.int .i64 t730)) (fun _ hk => hk.2) (.int .i64 t731)) (fun _ hk => hk.2) (.int .i64 t732)) (fun _ hk => hk.2) (.slice Ao17 t733.length co17)) (fun _ h_ => h_.1)))); (case side4 => exact (Kd.R_reads' HO735.out).2.1); (case side5 => refine (Kd.R_reads' (e := 84) (base := w.heap.size) (ok := fun k_ => (True ∧ some k_ ≠ (.slice Ao14 t725.length co14 : Value).ownBlock)) (n := t712.length) (c := co9) ?_).2.2; exact (by (with_reducible repeat (first | apply Kd.R_alloc | apply Kd.R_drewN | apply Kd.R_drew)); exact (Kd.R_mono (Kd.R_far (p := ⟨gb737, 6, none⟩) (Kd.R_far (p := ⟨gb737, 5, none⟩) (Kd.R_far (p := ⟨gb737, 4, none⟩) (Kd.R_far (p := ⟨gb737, 3, none⟩) (Kd.R_far (p := ⟨gb737, 2, none⟩) (Kd.R_far (p := ⟨gb737, 1, none⟩) (Kd.R_far (p := ⟨gb737, 0, none⟩) (Kd.R_types HO714.out BK737.out (by decide)) (fun _ hk => hk.2) (.slice Ao14 t725.length co14)) (fun _ hk => hk.2) (.int .i64 t728)) (fun _ hk => hk.2) (.int .i64 t729)) (fun _ hk => hk.2) (.int .i64 t730)) (fun _ hk => hk.2) (.int .i64 t731)) (fun _ hk => hk.2) (.int .i64 t732)) (fun _ hk => hk.2) (.slice Ao17 t733.length co17)) (fun _ h_ => h_.1)))); (case side6 => exact (Kd.R_reads' HO714.out).2.1); (case side7 => refine (Kd.R_reads' (e := 115) (base := w.heap.size) (ok := fun k_ => (True ∧ some k_ ≠ (.slice Ao17 t733.length co17 : Value).ownBlock)) (n := t720.length) (c := co11) ?_).2.2; exact (by (with_reducible repeat (first | apply Kd.R_alloc | apply Kd.R_drewN | apply Kd.R_drew)); exact (Kd.R_mono (Kd.R_far (p := ⟨gb737, 6, none⟩) (Kd.R_far (p := ⟨gb737, 5, none⟩) (Kd.R_far (p := ⟨gb737, 4, none⟩) (Kd.R_far (p := ⟨gb737, 3, none⟩) (Kd.R_far (p := ⟨gb737, 2, none⟩) (Kd.R_far (p := ⟨gb737, 1, none⟩) (Kd.R_far (p := ⟨gb737, 0, none⟩) (Kd.R_types HO722.out BK737.out (by decide)) (fun _ hk => hk.2) (.slice Ao14 t725.length co14)) (fun _ hk => hk.2) (.int .i64 t728)) (fun _ hk => hk.2) (.int .i64 t729)) (fun _ hk => hk.2) (.int .i64 t730)) (fun _ hk => hk.2) (.int .i64 t731)) (fun _ hk => hk.2) (.int .i64 t732)) (fun _ hk => hk.2) (.slice Ao17 t733.length co17)) (fun _ h_ => h_.1)))); (case side8 => exact (Kd.R_reads' HO722.out).2.1); rintro e w27 ⟨rfl, hb⟩; refine ⟨_, rfl, ?_⟩; have n0_ := Aside0.mk (Kd.R_below (by (with_reducible repeat (first | apply Kd.R_alloc | apply Kd.R_drewN | apply Kd.R_drew)); exact (Kd.R_mono (Kd.R_far (p := ⟨gb737, 6, none⟩) (Kd.R_far (p := ⟨gb737, 5, none⟩) (Kd.R_far (p := ⟨gb737, 4, none⟩) (Kd.R_far (p := ⟨gb737, 3, none⟩) (Kd.R_far (p := ⟨gb737, 2, none⟩) (Kd.R_far (p := ⟨gb737, 1, none⟩) (Kd.R_far (p := ⟨gb737, 0, none⟩) (Kd.R_types HO714.out BK737.out (by decide)) (fun _ hk => hk.2) (.slice Ao14 t725.length co14)) (fun _ hk => hk.2) (.int .i64 t728)) (fun _ hk => hk.2) (.int .i64 t729)) (fun _ hk => hk.2) (.int .i64 t730)) (fun _ hk => hk.2) (.int .i64 t731)) (fun _ hk => hk.2) (.int .i64 t732)) (fun _ hk => hk.2) (.slice Ao17 t733.length co17)) (fun _ h_ => h_.1))) hb); have n1_ := Aside0.mk (Kd.R_below (by (with_reducible repeat (first | apply Kd.R_alloc | apply Kd.R_drewN | apply Kd.R_drew)); exact (Kd.R_mono (Kd.R_far (p := ⟨gb737, 6, none⟩) (Kd.R_far (p := ⟨gb737, 5, none⟩) (Kd.R_far (p := ⟨gb737, 4, none⟩) (Kd.R_far (p := ⟨gb737, 3, none⟩) (Kd.R_far (p := ⟨gb737, 2, none⟩) (Kd.R_far (p := ⟨gb737, 1, none⟩) (Kd.R_far (p := ⟨gb737, 0, none⟩) (Kd.R_types HO722.out BK737.out (by decide)) (fun _ hk => hk.2) (.slice Ao14 t725.length co14)) (fun _ hk => hk.2) (.int .i64 t728)) (fun _ hk => hk.2) (.int .i64 t729)) (fun _ hk => hk.2) (.int .i64 t730)) (fun _ hk => hk.2) (.int .i64 t731)) (fun _ hk => hk.2) (.int .i64 t732)) (fun _ hk => hk.2) (.slice Ao17 t733.length co17)) (fun _ h_ => h_.1))) hb); have n2_ := Aside0.mk (Kd.R_below (by (with_reducible repeat (first | apply Kd.R_alloc | apply Kd.R_drewN | apply Kd.R_drew)); exact (Kd.R_mono (Kd.R_far (p := ⟨gb737, 6, none⟩) (Kd.R_far (p := ⟨gb737, 5, none⟩) (Kd.R_far (p := ⟨gb737, 4, none⟩) (Kd.R_far (p := ⟨gb737, 3, none⟩) (Kd.R_far (p := ⟨gb737, 2, none⟩) (Kd.R_far (p := ⟨gb737, 1, none⟩) (Kd.R_far (p := ⟨gb737, 0, none⟩) (Kd.R_types HO727.out BK737.out (by decide)) (fun _ hk => hk.2) (.slice Ao14 t725.length co14)) (fun _ hk => hk.2) (.int .i64 t728)) (fun _ hk => hk.2) (.int .i64 t729)) (fun _ hk => hk.2) (.int .i64 t730)) (fun _ hk => hk.2) (.int .i64 t731)) (fun _ hk => hk.2) (.int .i64 t732)) (fun _ hk => hk.2) (.slice Ao17 t733.length co17)) (fun _ h_ => h_.1))) hb); have n3_ := Aside0.mk (Kd.R_below (by (with_reducible repeat (first | apply Kd.R_alloc | apply Kd.R_drewN | apply Kd.R_drew)); exact (Kd.R_mono (Kd.R_far (p := ⟨gb737, 6, none⟩) (Kd.R_far (p := ⟨gb737, 5, none⟩) (Kd.R_far (p := ⟨gb737, 4, none⟩) (Kd.R_far (p := ⟨gb737, 3, none⟩) (Kd.R_far (p := ⟨gb737, 2, none⟩) (Kd.R_far (p := ⟨gb737, 1, none⟩) (Kd.R_far (p := ⟨gb737, 0, none⟩) (Kd.R_types HO735.out BK737.out (by decide)) (fun _ hk => hk.2) (.slice Ao14 t725.length co14)) (fun _ hk => hk.2) (.int .i64 t728)) (fun _ hk => hk.2) (.int .i64 t729)) (fun _ hk => hk.2) (.int .i64 t730)) (fun _ hk => hk.2) (.int .i64 t731)) (fun _ hk => hk.2) (.int .i64 t732)) (fun _ hk => hk.2) (.slice Ao17 t733.length co17)) (fun _ h_ => h_.1))) hb); have n4_ := Aside0.mk (blk_below (g := gb724) (o := .cells #[.slice Ao9 t712.length co9, .int .i64 t715, .int .i64 t716, .int .i64 t717, .int .i64 t718, .int .i64 t719, .slice Ao11 t720.length co11] 61 (0, 0)) (by (with_reducible repeat (first | refine blk_drewN ?_ _ | refine blk_drew ?_ | refine blk_alloc ?_ _)); refine blk_far ?_ NB724_737.out _; (with_reducible repeat (first | refine blk_drewN ?_ _ | refine blk_drew ?_ | refine blk_alloc ?_ _)); refine blk_far ?_ NB724_737.out _; (with_reducible repeat (first | refine blk_drewN ?_ _ | refine blk_drew ?_ | refine blk_alloc ?_ _)); refine blk_far ?_ NB724_737.out _; (with_reducible repeat (first | refine blk_drewN ?_ _ | refine blk_drew ?_ | refine blk_alloc ?_ _)); refine blk_far ?_ NB724_737.out _; (with_reducible repeat (first | refine blk_drewN ?_ _ | refine blk_drew ?_ | refine blk_alloc ?_ _)); refine blk_far ?_ NB724_737.out _; (with_reducible repeat (first | refine blk_drewN ?_ _ | refine blk_drew ?_ | refine blk_alloc ?_ _)); refine blk_far ?_ NB724_737.out _; (with_reducible repeat (first | refine blk_drewN ?_ _ | refine blk_drew ?_ | refine blk_alloc ?_ _)); refine blk_far ?_ NB724_737.out _; (with_reducible repeat (first | refine blk_drewN ?_ _ | refine blk_drew ?_ | refine blk_alloc ?_ _)); exact BK724.out) hb); have n5_ := Aside0.mk (blk_below (g := gb737) (o := .cells #[.slice Ao14 t725.length co14, .int .i64 t728, .int .i64 t729, .int .i64 t730, .int .i64 t731, .int .i64 t732, .slice Ao17 t733.length co17] 61 (0, 0)) (by (with_reducible repeat (first | refine blk_drewN ?_ _ | refine blk_drew ?_ | refine blk_alloc ?_ _)); refine blk_put (cs := #[.slice Ao14 t725.length co14, .int .i64 t728, .int .i64 t729, .int .i64 t730, .int .i64 t731, .int .i64 t732, .slice none 0 0]) ?_ 6 _ rfl; (with_reducible repeat (first | refine blk_drewN ?_ _ | refine blk_drew ?_ | refine blk_alloc ?_ _)); refine blk_put (cs := #[.slice Ao14 t725.length co14, .int .i64 t728, .int .i64 t729, .int .i64 t730, .int .i64 t731, .int .i64 0, .slice none 0 0]) ?_ 5 _ rfl; (with_reducible repeat (first | refine blk_drewN ?_ _ | refine blk_drew ?_ | refine blk_alloc ?_ _)); refine blk_put (cs := #[.slice Ao14 t725.length co14, .int .i64 t728, .int .i64 t729, .int .i64 t730, .int .i64 0, .int .i64 0, .slice none 0 0]) ?_ 4 _ rfl; (with_reducible repeat (first | refine blk_drewN ?_ _ | refine blk_drew ?_ | refine blk_alloc ?_ _)); refine blk_put (cs := #[.slice Ao14 t725.length co14, .int .i64 t728, .int .i64 t729, .int .i64 0, .int .i64 0, .int .i64 0, .slice none 0 0]) ?_ 3 _ rfl; (with_reducible repeat (first | refine blk_drewN ?_ _ | refine blk_drew ?_ | refine blk_alloc ?_ _)); refine blk_put (cs := #[.slice Ao14 t725.length co14, .int .i64 t728, .int .i64 0, .int .i64 0, .int .i64 0, .int .i64 0, .slice none 0 0]) ?_ 2 _ rfl; (with_reducible repeat (first | refine blk_drewN ?_ _ | refine blk_drew ?_ | refine blk_alloc ?_ _)); refine blk_put (cs := #[.slice Ao14 t725.length co14, .int .i64 0, .int .i64 0, .int .i64 0, .int .i64 0, .int .i64 0, .slice none 0 0]) ?_ 1 _ rfl; (with_reducible repeat (first | refine blk_drewN ?_ _ | refine blk_drew ?_ | refine blk_alloc ?_ _)); refine blk_put (cs := #[.slice none 0 0, .int .i64 0, .int .i64 0, .int .i64 0, .int .i64 0, .int .i64 0, .slice none 0 0]) ?_ 0 _ rfl; (with_reducible repeat (first | refine blk_drewN ?_ _ | refine blk_drew ?_ | refine blk_alloc ?_ _)); exact BK737.out) hb); have n6_ := Aside0.mk (below_step (by repeat (first | (with_reducible first | exact HB.out | apply below_alloc | apply pw_below_drewN | apply below_drew1 | refine below_set ?_ GE724.out | refine below_set ?_ GE737.out) | exact HB.out)) hb); clear HO714; clear HO722; clear HO727; clear HO735; clear BK724; clear BK737; clear HB; have HO714 := n0_; have HO722 := n1_; have HO727 := n2_; have HO735 := n3_; have BK724 := n4_; have BK737 := n5_; have HB := n6_; clear n0_ n1_ n2_ n3_ n4_ n5_ n6_; (try clear hb); (try clear hb2); (try clear hk); (try clear hi)))
      go_meet
      case rel => exact ⟨_, (true), (by first | rfl | (simp; done) | (simp [*]; done)), H', ⟨by first | omega | exact Nat.le_refl _⟩, ⟨by (with_reducible repeat (first | apply Kd.R_alloc | apply Kd.R_drewN | apply Kd.R_drew)); exact Kd.R_mono HO714.out (fun _ hk => hk.2)⟩, ⟨by (with_reducible repeat (first | apply Kd.R_alloc | apply Kd.R_drewN | apply Kd.R_drew)); exact Kd.R_mono HO722.out (fun _ hk => hk.2)⟩, ⟨by (with_reducible repeat (first | apply Kd.R_alloc | apply Kd.R_drewN | apply Kd.R_drew)); exact Kd.R_mono HO727.out (fun _ hk => hk.2)⟩, ⟨by (with_reducible repeat (first | apply Kd.R_alloc | apply Kd.R_drewN | apply Kd.R_drew)); exact Kd.R_mono HO735.out (fun _ hk => hk.2)⟩, ⟨by (with_reducible repeat (first | refine blk_drewN ?_ _ | refine blk_drew ?_ | refine blk_alloc ?_ _)); exact BK724.out⟩, ⟨by (with_reducible repeat (first | refine blk_drewN ?_ _ | refine blk_drew ?_ | refine blk_alloc ?_ _)); exact BK737.out⟩, ⟨by repeat (first | (with_reducible first | exact HB.out | apply below_alloc | apply pw_below_drewN | apply below_drew1 | refine below_set ?_ GE724.out | refine below_set ?_ GE737.out) | exact HB.out)⟩⟩
  case rest =>
    clear HC6
    try clear c1
    try clear c2
    try clear p2
    try clear c5
    try clear c12
    try clear c15
    try clear c19
    try clear c20
    try clear c24
    try clear hcz10_0
    try clear hcz10_1
    try clear hcz10_2
    try clear hcz10_3
    try clear hcz10_4
    try clear hcz10_5
    try clear hcz10_6
    try clear hcz16_0
    try clear hcz16_1
    try clear hcz16_2
    try clear hcz16_3
    try clear hcz16_4
    try clear hcz16_5
    try clear hcz16_6
    try clear hcz21_0
    try clear hcz21_1
    try clear hcz21_2
    try clear hcz21_3
    try clear hcz21_4
    try clear hcz21_5
    try clear hcz21_6
    try clear hcz22_0
    try clear hcz22_1
    try clear hcz22_2
    try clear hcz22_3
    try clear hcz22_4
    try clear hcz22_5
    try clear hcz22_6
    try clear hcz25_0
    try clear hcz25_1
    try clear hcz25_2
    try clear hcz25_3
    try clear hcz25_4
    try clear hcz25_5
    try clear hcz25_6
    try clear hcz26_0
    try clear hcz26_1
    try clear hcz26_2
    try clear hcz26_3
    try clear hcz26_4
    try clear hcz26_5
    try clear hcz26_6
    try clear hfz10_0
    try clear hfz10_1
    try clear hfz10_2
    try clear hfz10_3
    try clear hfz10_4
    try clear hfz10_5
    try clear hfz10_6
    try clear hfz16_0
    try clear hfz16_1
    try clear hfz16_2
    try clear hfz16_3
    try clear hfz16_4
    try clear hfz16_5
    try clear hfz16_6
    try clear hfz21_0
    try clear hfz21_1
    try clear hfz21_2
    try clear hfz21_3
    try clear hfz21_4
    try clear hfz21_5
    try clear hfz21_6
    try clear hfz22_0
    try clear hfz22_1
    try clear hfz22_2
    try clear hfz22_3
    try clear hfz22_4
    try clear hfz22_5
    try clear hfz22_6
    try clear hfz25_0
    try clear hfz25_1
    try clear hfz25_2
    try clear hfz25_3
    try clear hfz25_4
    try clear hfz25_5
    try clear hfz25_6
    try clear hfz26_0
    try clear hfz26_1
    try clear hfz26_2
    try clear hfz26_3
    try clear hfz26_4
    try clear hfz26_5
    try clear hfz26_6
    obtain ⟨kq, x37_5, rfl, HA, HJ5, HO_725000, HO_725006, HO_738000, HO_738006, BK724, BK737, HB⟩ := hcut
    cases kq with
    | zero => exact absurd HA.out (by simp [laws_FnExactArchNew.j0])
    | succ kj5 =>
      have H := HA.out
      clear HA
      simp only [laws_FnExactArchNew.j0] at H
      by_cases c28 : x37_5 = true
      · subst c28
        have H1 : (none) = some r := by rw [if_pos rfl] at H; exact H
        clear H
        have H := H1
        clear H1
        exact absurd H (by simp)
      · replace c28 := Bool.eq_false_iff.mpr c28
        subst c28
        have H1 : ((laws_markArchive.f kj5 t725 t728 t729 t730 t731 t732 t733 1).bind fun bt739 => ((laws_heldArchive.f kj5 bt739.2.1 t728 t729 t730 t731 t732 bt739.2.2 1).bind fun t742 => (if t742 < 0 then (none) else (if t742 = bt739.1 then ((impl_ArchNew.f a0 a1 a2).bind fun bt743 => ((laws_eqArchive.f kj5 bt743.1 bt743.2.1 bt743.2.2.1 bt743.2.2.2.1 bt743.2.2.2.2.1 bt743.2.2.2.2.2.1 bt743.2.2.2.2.2.2.1 t712 t715 t716 t717 t718 t719 t720).bind fun t756 => (if t756 = true then (laws_FnExactArchNew.j1 kj5 bt739.1 (bt743.2.2.2.2.2.2.2 != t723) bt739.2.1 t728 t729 t730 t731 t732 bt739.2.2) else (laws_FnExactArchNew.j1 kj5 bt739.1 true bt739.2.1 t728 t729 t730 t731 t732 bt739.2.2)))) else (none))))) = some r := by rw [if_neg (show ¬ (false = true) by decide)] at H; exact H
        clear H
        have H := H1
        clear H1
        replace H := Option.bind_eq_some_iff.mp H
        obtain ⟨⟨t739, t740, t741⟩, A290, H⟩ := H
        replace H : ((laws_heldArchive.f kj5 t740 t728 t729 t730 t731 t732 t741 1).bind fun t742 => (if t742 < 0 then (none) else (if t742 = t739 then ((impl_ArchNew.f a0 a1 a2).bind fun bt743 => ((laws_eqArchive.f kj5 bt743.1 bt743.2.1 bt743.2.2.1 bt743.2.2.2.1 bt743.2.2.2.2.1 bt743.2.2.2.2.2.1 bt743.2.2.2.2.2.2.1 t712 t715 t716 t717 t718 t719 t720).bind fun t756 => (if t756 = true then (laws_FnExactArchNew.j1 kj5 t739 (bt743.2.2.2.2.2.2.2 != t723) t740 t728 t729 t730 t731 t732 t741) else (laws_FnExactArchNew.j1 kj5 t739 true t740 t728 t729 t730 t731 t732 t741)))) else (none)))) = some r := H
        have A29 := Aside0.mk A290
        clear A290
        replace H := Option.bind_eq_some_iff.mp H
        obtain ⟨t742, A300, H⟩ := H
        replace H : (if t742 < 0 then (none) else (if t742 = t739 then ((impl_ArchNew.f a0 a1 a2).bind fun bt743 => ((laws_eqArchive.f kj5 bt743.1 bt743.2.1 bt743.2.2.1 bt743.2.2.2.1 bt743.2.2.2.2.1 bt743.2.2.2.2.2.1 bt743.2.2.2.2.2.2.1 t712 t715 t716 t717 t718 t719 t720).bind fun t756 => (if t756 = true then (laws_FnExactArchNew.j1 kj5 t739 (bt743.2.2.2.2.2.2.2 != t723) t740 t728 t729 t730 t731 t732 t741) else (laws_FnExactArchNew.j1 kj5 t739 true t740 t728 t729 t730 t731 t732 t741)))) else (none))) = some r := H
        have A30 := Aside0.mk A300
        clear A300
        by_cases c31 : t742 < 0
        · rw [if_pos c31] at H
          exact absurd H (by simp)
        · rw [if_neg c31] at H
          have c31b0 : decide (t742 < 0) = false := decide_eq_false c31
          clear c31
          by_cases c32 : t742 = t739
          · rw [if_pos c32] at H
            have c32b0 : (t742 == t739) = true := beq_iff_eq.mpr c32
            have c32b1 : (t742 != t739) = false := bne_eq_false_iff_eq.mpr c32
            clear c32
            replace H := Option.bind_eq_some_iff.mp H
            obtain ⟨⟨t743, t746, t747, t748, t749, t750, t751, t754⟩, A330, H⟩ := H
            replace H : ((laws_eqArchive.f kj5 t743 t746 t747 t748 t749 t750 t751 t712 t715 t716 t717 t718 t719 t720).bind fun t756 => (if t756 = true then (laws_FnExactArchNew.j1 kj5 t739 (t754 != t723) t740 t728 t729 t730 t731 t732 t741) else (laws_FnExactArchNew.j1 kj5 t739 true t740 t728 t729 t730 t731 t732 t741))) = some r := H
            have A33 := Aside0.mk A330
            clear A330
            have HC34 := Aside0.mk H
            clear H
            have hnb35 := NB737_724.out
            have hnc35 := NB724_737.out
            have hcz36_0 : wc.cell? ⟨gb737, 0, none⟩ = some (.slice Ao14 t725.length co14) := (blk_cell BK737.out 0).trans rfl
            have hcz36_1 : wc.cell? ⟨gb737, 1, none⟩ = some (.int .i64 t728) := (blk_cell BK737.out 1).trans rfl
            have hcz36_2 : wc.cell? ⟨gb737, 2, none⟩ = some (.int .i64 t729) := (blk_cell BK737.out 2).trans rfl
            have hcz36_3 : wc.cell? ⟨gb737, 3, none⟩ = some (.int .i64 t730) := (blk_cell BK737.out 3).trans rfl
            have hcz36_4 : wc.cell? ⟨gb737, 4, none⟩ = some (.int .i64 t731) := (blk_cell BK737.out 4).trans rfl
            have hcz36_5 : wc.cell? ⟨gb737, 5, none⟩ = some (.int .i64 t732) := (blk_cell BK737.out 5).trans rfl
            have hcz36_6 : wc.cell? ⟨gb737, 6, none⟩ = some (.slice Ao17 t733.length co17) := (blk_cell BK737.out 6).trans rfl
            have hfz36_0 := blk_frozen BK737.out 0
            have hfz36_1 := blk_frozen BK737.out 1
            have hfz36_2 := blk_frozen BK737.out 2
            have hfz36_3 := blk_frozen BK737.out 3
            have hfz36_4 := blk_frozen BK737.out 4
            have hfz36_5 := blk_frozen BK737.out 5
            have hfz36_6 := blk_frozen BK737.out 6
            go_upto_region 14 with (first | ((with_reducible refine gate_callee (f := 54) rfl ?_); refine goesL_ (some 40) rfl rfl Try.func54 (by kernel_rfl) rfl #[.agg #[.slice Ao14 t725.length co14, .int .i64 t728, .int .i64 t729, .int .i64 t730, .int .i64 t731, .int .i64 t732, .slice Ao17 t733.length co17], .int .i64 1] rfl (by (try simp only [List.map_toArray, List.map_cons, List.map_nil]); first | done | rfl | (simp only [List.length_drop, List.length_take]; rfl)) ?_; (with_reducible refine (laws_markArchive.calls kj5 (fun k_ => some k_ = (.slice Ao14 t725.length co14 : Value).ownBlock) (.slice Ao14 t725.length co14) t725 t728 t729 t730 t731 t732 (fun k_ => some k_ = (.slice Ao17 t733.length co17 : Value).ownBlock) (.slice Ao17 t733.length co17) t733 1 t739 t740 t741 w _ ?side1 ?side2 ?side3 A29.out).mono ?_); (case side1 => repeat (first | (with_reducible first | exact HB.out | apply below_alloc | apply pw_below_drewN | apply below_drew1 | refine below_set ?_ GE724.out | refine below_set ?_ GE737.out) | exact HB.out)); (case side2 => exact Kd.R_tight rfl HO_738000.out); (case side3 => exact Kd.R_tight rfl HO_738006.out); rintro e w37 ⟨rfl, hy0, hy1, hb, hkp⟩; refine ⟨_, rfl, ?_⟩; have n0_ := Aside0.mk (Kd.R_mono (ok' := fun k_ => some k_ ≠ (.slice Ao14 t725.length co14 : Value).ownBlock) (Kd.R_keptB ((Kd.R_apart' HO_725000.out (Kd.R_typed HO_738006.out) (by decide))) hkp (fun k_ hk_ hs_ => Or.elim hs_ (fun e_ => (hk_.1) e_) (fun e_ => (hk_.2) e_))) (fun k_ hk_ => hk_.1.1)); have n1_ := Aside0.mk (Kd.R_mono (ok' := fun k_ => some k_ ≠ (.slice Ao17 t733.length co17 : Value).ownBlock) (Kd.R_keptB ((Kd.R_apart' HO_725006.out (Kd.R_typed HO_738000.out) (by decide))) hkp (fun k_ hk_ hs_ => Or.elim hs_ (fun e_ => (hk_.2) e_) (fun e_ => (hk_.1) e_))) (fun k_ hk_ => hk_.1.1)); have n2_ := Aside0.mk (Kd.R_reok rfl hy0 (fun k_ e_ => HO_738000.out.1 k_ e_)); have n3_ := Aside0.mk (Kd.R_reok rfl hy1 (fun k_ e_ => HO_738006.out.1 k_ e_)); have n4_ := Aside0.mk (blk_kept (by (with_reducible repeat (first | refine blk_drewN ?_ _ | refine blk_drew ?_ | refine blk_alloc ?_ _)); exact BK724.out) hkp (fun hs_ => Or.elim hs_ (fun e_ => (fun e_ => (Kd.R_ne HO_738000.out BK724.out (by decide)) e_) e_) (fun e_ => (fun e_ => (Kd.R_ne HO_738006.out BK724.out (by decide)) e_) e_))); have n5_ := Aside0.mk (blk_kept (by (with_reducible repeat (first | refine blk_drewN ?_ _ | refine blk_drew ?_ | refine blk_alloc ?_ _)); exact BK737.out) hkp (fun hs_ => Or.elim hs_ (fun e_ => (fun e_ => (Kd.R_ne HO_738000.out BK737.out (by decide)) e_) e_) (fun e_ => (fun e_ => (Kd.R_ne HO_738006.out BK737.out (by decide)) e_) e_))); have n6_ := Aside0.mk (hb); clear HO_725000; clear HO_725006; clear HO_738000; clear HO_738006; clear BK724; clear BK737; clear HB; have HO_725000 := n0_; have HO_725006 := n1_; have HO_738000 := n2_; have HO_738006 := n3_; have BK724 := n4_; have BK737 := n5_; have HB := n6_; clear n0_ n1_ n2_ n3_ n4_ n5_ n6_; (try clear hb); (try clear hkp); (try clear hy0); (try clear hy1); have hcz38_0 : w37.cell? ⟨gb737, 0, none⟩ = some (.slice Ao14 t725.length co14) := (blk_cell BK737.out 0).trans rfl; have hcz38_1 : w37.cell? ⟨gb737, 1, none⟩ = some (.int .i64 t728) := (blk_cell BK737.out 1).trans rfl; have hcz38_2 : w37.cell? ⟨gb737, 2, none⟩ = some (.int .i64 t729) := (blk_cell BK737.out 2).trans rfl; have hcz38_3 : w37.cell? ⟨gb737, 3, none⟩ = some (.int .i64 t730) := (blk_cell BK737.out 3).trans rfl; have hcz38_4 : w37.cell? ⟨gb737, 4, none⟩ = some (.int .i64 t731) := (blk_cell BK737.out 4).trans rfl; have hcz38_5 : w37.cell? ⟨gb737, 5, none⟩ = some (.int .i64 t732) := (blk_cell BK737.out 5).trans rfl; have hcz38_6 : w37.cell? ⟨gb737, 6, none⟩ = some (.slice Ao17 t733.length co17) := (blk_cell BK737.out 6).trans rfl; have hfz38_0 := blk_frozen BK737.out 0; have hfz38_1 := blk_frozen BK737.out 1; have hfz38_2 := blk_frozen BK737.out 2; have hfz38_3 := blk_frozen BK737.out 3; have hfz38_4 := blk_frozen BK737.out 4; have hfz38_5 := blk_frozen BK737.out 5; have hfz38_6 := blk_frozen BK737.out 6) | ((with_reducible refine gate_callee (f := 55) rfl ?_); refine goesL_ (some 43) rfl rfl Try.func55 (by kernel_rfl) rfl #[.agg #[.slice Ao14 t740.length co14, .int .i64 t728, .int .i64 t729, .int .i64 t730, .int .i64 t731, .int .i64 t732, .slice Ao17 t741.length co17], .int .i64 1] rfl (by (try simp only [List.map_toArray, List.map_cons, List.map_nil]); first | done | (rw [show t740.length = t725.length from (Kd.R_reads' HO_738000.out).1.symm, show t741.length = t733.length from (Kd.R_reads' HO_738006.out).1.symm] <;> rfl) | rfl | (simp only [List.length_drop, List.length_take]; rfl)) ?_; (with_reducible refine (laws_heldArchive.calls kj5 _ _ t740 t728 t729 t730 t731 t732 _ _ t741 1 t742 _ ?side1 ?side2 ?side3 ?side4 A30.out).mono ?_); (case side1 => repeat (first | exact (Kd.R_reads' HO_738000.out).2.2 | (with_reducible refine Kd.C_alloc ?_ _) | (with_reducible refine Kd.C_drewN ?_ _) | (with_reducible refine Kd.C_drew ?_))); (case side2 => rw [show t740.length = t725.length from (Kd.R_reads' HO_738000.out).1.symm]; exact (Kd.R_reads' HO_738000.out).2.1); (case side3 => repeat (first | exact (Kd.R_reads' HO_738006.out).2.2 | (with_reducible refine Kd.C_alloc ?_ _) | (with_reducible refine Kd.C_drewN ?_ _) | (with_reducible refine Kd.C_drew ?_))); (case side4 => rw [show t741.length = t733.length from (Kd.R_reads' HO_738006.out).1.symm]; exact (Kd.R_reads' HO_738006.out).2.1); rintro e w39 ⟨rfl, hb⟩; refine ⟨_, rfl, ?_⟩; have n0_ := Aside0.mk (Kd.R_below (by (with_reducible repeat (first | apply Kd.R_alloc | apply Kd.R_drewN | apply Kd.R_drew)); exact HO_725000.out) hb); have n1_ := Aside0.mk (Kd.R_below (by (with_reducible repeat (first | apply Kd.R_alloc | apply Kd.R_drewN | apply Kd.R_drew)); exact HO_725006.out) hb); have n2_ := Aside0.mk (Kd.R_below (by (with_reducible repeat (first | apply Kd.R_alloc | apply Kd.R_drewN | apply Kd.R_drew)); exact HO_738000.out) hb); have n3_ := Aside0.mk (Kd.R_below (by (with_reducible repeat (first | apply Kd.R_alloc | apply Kd.R_drewN | apply Kd.R_drew)); exact HO_738006.out) hb); have n4_ := Aside0.mk (blk_below (g := gb724) (o := .cells #[.slice Ao9 t712.length co9, .int .i64 t715, .int .i64 t716, .int .i64 t717, .int .i64 t718, .int .i64 t719, .slice Ao11 t720.length co11] 61 (0, 0)) (by (with_reducible repeat (first | refine blk_drewN ?_ _ | refine blk_drew ?_ | refine blk_alloc ?_ _)); exact BK724.out) hb); have n5_ := Aside0.mk (blk_below (g := gb737) (o := .cells #[.slice Ao14 t725.length co14, .int .i64 t728, .int .i64 t729, .int .i64 t730, .int .i64 t731, .int .i64 t732, .slice Ao17 t733.length co17] 61 (0, 0)) (by (with_reducible repeat (first | refine blk_drewN ?_ _ | refine blk_drew ?_ | refine blk_alloc ?_ _)); exact BK737.out) hb); have n6_ := Aside0.mk (below_step (by repeat (first | (with_reducible first | exact HB.out | apply below_alloc | apply pw_below_drewN | apply below_drew1 | refine below_set ?_ GE724.out | refine below_set ?_ GE737.out) | exact HB.out)) hb); clear HO_725000; clear HO_725006; clear HO_738000; clear HO_738006; clear BK724; clear BK737; clear HB; have HO_725000 := n0_; have HO_725006 := n1_; have HO_738000 := n2_; have HO_738006 := n3_; have BK724 := n4_; have BK737 := n5_; have HB := n6_; clear n0_ n1_ n2_ n3_ n4_ n5_ n6_; (try clear hb); (try clear hb2); (try clear hk); (try clear hi)) | ((with_reducible refine gate_callee (f := 52) rfl ?_); refine goesL_ (some 53) rfl rfl Try.func52 (by kernel_rfl) rfl #[.int .i64 a0, .int .i64 a1, .int .i64 a2] rfl (by (try simp only [List.map_toArray, List.map_cons, List.map_nil]); first | done | rfl | (simp only [List.length_drop, List.length_take]; rfl)) ?_; (with_reducible refine (impl_ArchNew.calls a0 a1 a2 t743 t746 t747 t748 t749 t750 t751 t754 _ A33.out).mono ?_); rintro e w40 ⟨v744, v752, rfl, ho0, ho1, hb⟩; refine ⟨_, rfl, ?_⟩; have n0_ := Aside0.mk (Kd.R_elder' (by (with_reducible repeat (first | apply Kd.R_alloc | apply Kd.R_drewN | apply Kd.R_drew)); exact HO_725000.out) (Kd.R_base ho0) hb); have n1_ := Aside0.mk (Kd.R_elder' (by (with_reducible repeat (first | apply Kd.R_alloc | apply Kd.R_drewN | apply Kd.R_drew)); exact HO_725006.out) (Kd.R_base ho1) hb); have n2_ := Aside0.mk (Kd.R_elder' (by (with_reducible repeat (first | apply Kd.R_alloc | apply Kd.R_drewN | apply Kd.R_drew)); exact HO_738000.out) (Kd.R_base ho0) hb); have n3_ := Aside0.mk (Kd.R_elder' (by (with_reducible repeat (first | apply Kd.R_alloc | apply Kd.R_drewN | apply Kd.R_drew)); exact HO_738006.out) (Kd.R_base ho1) hb); have n4_ := Aside0.mk (Kd.R_lower (Kd.R_new' (Kd.R_new' ho0 (Kd.R_lt (by (with_reducible repeat (first | apply Kd.R_alloc | apply Kd.R_drewN | apply Kd.R_drew)); exact HO_725000.out))) (Kd.R_lt (by (with_reducible repeat (first | apply Kd.R_alloc | apply Kd.R_drewN | apply Kd.R_drew)); exact HO_738000.out))) (below_size (by repeat (first | (with_reducible first | exact HB.out | apply below_alloc | apply pw_below_drewN | apply below_drew1 | refine below_set ?_ GE724.out | refine below_set ?_ GE737.out) | exact HB.out)))); have n5_ := Aside0.mk (Kd.R_lower (Kd.R_new' (Kd.R_new' ho1 (Kd.R_lt (by (with_reducible repeat (first | apply Kd.R_alloc | apply Kd.R_drewN | apply Kd.R_drew)); exact HO_725006.out))) (Kd.R_lt (by (with_reducible repeat (first | apply Kd.R_alloc | apply Kd.R_drewN | apply Kd.R_drew)); exact HO_738006.out))) (below_size (by repeat (first | (with_reducible first | exact HB.out | apply below_alloc | apply pw_below_drewN | apply below_drew1 | refine below_set ?_ GE724.out | refine below_set ?_ GE737.out) | exact HB.out)))); have n6_ := Aside0.mk (blk_below (g := gb724) (o := .cells #[.slice Ao9 t712.length co9, .int .i64 t715, .int .i64 t716, .int .i64 t717, .int .i64 t718, .int .i64 t719, .slice Ao11 t720.length co11] 61 (0, 0)) (by (with_reducible repeat (first | refine blk_drewN ?_ _ | refine blk_drew ?_ | refine blk_alloc ?_ _)); exact BK724.out) hb); have n7_ := Aside0.mk (blk_below (g := gb737) (o := .cells #[.slice Ao14 t725.length co14, .int .i64 t728, .int .i64 t729, .int .i64 t730, .int .i64 t731, .int .i64 t732, .slice Ao17 t733.length co17] 61 (0, 0)) (by (with_reducible repeat (first | refine blk_drewN ?_ _ | refine blk_drew ?_ | refine blk_alloc ?_ _)); exact BK737.out) hb); have n8_ := Aside0.mk (below_step (by repeat (first | (with_reducible first | exact HB.out | apply below_alloc | apply pw_below_drewN | apply below_drew1 | refine below_set ?_ GE724.out | refine below_set ?_ GE737.out) | exact HB.out)) hb); clear HO_725000; clear HO_725006; clear HO_738000; clear HO_738006; clear BK724; clear BK737; clear HB; have HO_725000 := n0_; have HO_725006 := n1_; have HO_738000 := n2_; have HO_738006 := n3_; have HO745 := n4_; have HO753 := n5_; have BK724 := n6_; have BK737 := n7_; have HB := n8_; clear n0_ n1_ n2_ n3_ n4_ n5_ n6_ n7_ n8_; (try clear hb); (try clear hb2); (try clear hk); (try clear hi); (try clear ho0); (try clear ho1)) | ((with_reducible refine gate_dst (N := 13) rfl ?_); refine box_event ?hg (N := 13) ?hd (cs := #[.slice none 0 0, .int .i64 0, .int .i64 0, .int .i64 0, .int .i64 0, .int .i64 0, .slice none 0 0]) (t := 61) ?hr ?_; (case hd => rfl); (case hg => rfl); (case hr => first | (go_simp; done) | (go_simp; rfl)); intro gb755 hg w41 hbox hb; have n0_ := Aside0.mk (Kd.R_below (by (with_reducible repeat (first | apply Kd.R_alloc | apply Kd.R_drewN | apply Kd.R_drew)); exact HO_725000.out) hb); have n1_ := Aside0.mk (Kd.R_below (by (with_reducible repeat (first | apply Kd.R_alloc | apply Kd.R_drewN | apply Kd.R_drew)); exact HO_725006.out) hb); have n2_ := Aside0.mk (Kd.R_below (by (with_reducible repeat (first | apply Kd.R_alloc | apply Kd.R_drewN | apply Kd.R_drew)); exact HO_738000.out) hb); have n3_ := Aside0.mk (Kd.R_below (by (with_reducible repeat (first | apply Kd.R_alloc | apply Kd.R_drewN | apply Kd.R_drew)); exact HO_738006.out) hb); have n4_ := Aside0.mk (Kd.R_below (by (with_reducible repeat (first | apply Kd.R_alloc | apply Kd.R_drewN | apply Kd.R_drew)); exact HO745.out) hb); have n5_ := Aside0.mk (Kd.R_below (by (with_reducible repeat (first | apply Kd.R_alloc | apply Kd.R_drewN | apply Kd.R_drew)); exact HO753.out) hb); have n6_ := Aside0.mk (blk_below (g := gb724) (o := .cells #[.slice Ao9 t712.length co9, .int .i64 t715, .int .i64 t716, .int .i64 t717, .int .i64 t718, .int .i64 t719, .slice Ao11 t720.length co11] 61 (0, 0)) (by (with_reducible repeat (first | refine blk_drewN ?_ _ | refine blk_drew ?_ | refine blk_alloc ?_ _)); exact BK724.out) hb); have n7_ := Aside0.mk (blk_below (g := gb737) (o := .cells #[.slice Ao14 t725.length co14, .int .i64 t728, .int .i64 t729, .int .i64 t730, .int .i64 t731, .int .i64 t732, .slice Ao17 t733.length co17] 61 (0, 0)) (by (with_reducible repeat (first | refine blk_drewN ?_ _ | refine blk_drew ?_ | refine blk_alloc ?_ _)); exact BK737.out) hb); have n8_ := Aside0.mk (below_step (by repeat (first | (with_reducible first | exact HB.out | apply below_alloc | apply pw_below_drewN | apply below_drew1 | refine below_set ?_ GE724.out | refine below_set ?_ GE737.out) | exact HB.out)) hb); have n9_ := Aside0.mk (hbox); have n10_ := Aside0.mk ((by rw [hg]; exact (below_size (by repeat (first | (with_reducible first | exact HB.out | apply below_alloc | apply pw_below_drewN | apply below_drew1 | refine below_set ?_ GE724.out | refine below_set ?_ GE737.out) | exact HB.out))) : w.heap.size ≤ gb755)); have n11_ := Aside0.mk ((by rw [hg]; exact (below_size (by repeat (first | (with_reducible first | exact HB.out | apply below_alloc | apply pw_below_drewN | apply below_drew1 | refine below_set ?_ GE724.out | refine below_set ?_ GE737.out) | exact HB.out))) : w.heap.size ≤ gb755)); have n12_ := Aside0.mk ((by rw [hg]; exact Nat.ne_of_lt (blk_lt (g := gb724) (o := .cells #[.slice Ao9 t712.length co9, .int .i64 t715, .int .i64 t716, .int .i64 t717, .int .i64 t718, .int .i64 t719, .slice Ao11 t720.length co11] 61 (0, 0)) (by (with_reducible repeat (first | refine blk_drewN ?_ _ | refine blk_drew ?_ | refine blk_alloc ?_ _)); exact BK724.out)) : gb724 ≠ gb755)); have n13_ := Aside0.mk ((by rw [hg]; exact Nat.ne_of_gt (blk_lt (g := gb724) (o := .cells #[.slice Ao9 t712.length co9, .int .i64 t715, .int .i64 t716, .int .i64 t717, .int .i64 t718, .int .i64 t719, .slice Ao11 t720.length co11] 61 (0, 0)) (by (with_reducible repeat (first | refine blk_drewN ?_ _ | refine blk_drew ?_ | refine blk_alloc ?_ _)); exact BK724.out)) : gb755 ≠ gb724)); have n14_ := Aside0.mk ((by rw [hg]; exact Nat.ne_of_lt (blk_lt (g := gb737) (o := .cells #[.slice Ao14 t725.length co14, .int .i64 t728, .int .i64 t729, .int .i64 t730, .int .i64 t731, .int .i64 t732, .slice Ao17 t733.length co17] 61 (0, 0)) (by (with_reducible repeat (first | refine blk_drewN ?_ _ | refine blk_drew ?_ | refine blk_alloc ?_ _)); exact BK737.out)) : gb737 ≠ gb755)); have n15_ := Aside0.mk ((by rw [hg]; exact Nat.ne_of_gt (blk_lt (g := gb737) (o := .cells #[.slice Ao14 t725.length co14, .int .i64 t728, .int .i64 t729, .int .i64 t730, .int .i64 t731, .int .i64 t732, .slice Ao17 t733.length co17] 61 (0, 0)) (by (with_reducible repeat (first | refine blk_drewN ?_ _ | refine blk_drew ?_ | refine blk_alloc ?_ _)); exact BK737.out)) : gb755 ≠ gb737)); clear HO_725000; clear HO_725006; clear HO_738000; clear HO_738006; clear HO745; clear HO753; clear BK724; clear BK737; clear HB; have HO_725000 := n0_; have HO_725006 := n1_; have HO_738000 := n2_; have HO_738006 := n3_; have HO745 := n4_; have HO753 := n5_; have BK724 := n6_; have BK737 := n7_; have HB := n8_; have BK755 := n9_; have GW755 := n10_; have GE755 := n11_; have NB724_755 := n12_; have NB755_724 := n13_; have NB737_755 := n14_; have NB755_737 := n15_; clear n0_ n1_ n2_ n3_ n4_ n5_ n6_ n7_ n8_ n9_ n10_ n11_ n12_ n13_ n14_ n15_; clear hb hbox hg; obtain ⟨Ao42, co42, eo42⟩ := Kd.R_slice HO745.out; subst eo42; have hnb43 := NB755_724.out; have hnc43 := NB724_755.out; have hnb44 := NB755_737.out; have hnc44 := NB737_755.out; have hcz45_0 : w41.cell? ⟨gb755, 0, none⟩ = some (.slice none 0 0) := (blk_cell BK755.out 0).trans rfl; have hcz45_1 : w41.cell? ⟨gb755, 1, none⟩ = some (.int .i64 0) := (blk_cell BK755.out 1).trans rfl; have hcz45_2 : w41.cell? ⟨gb755, 2, none⟩ = some (.int .i64 0) := (blk_cell BK755.out 2).trans rfl; have hcz45_3 : w41.cell? ⟨gb755, 3, none⟩ = some (.int .i64 0) := (blk_cell BK755.out 3).trans rfl; have hcz45_4 : w41.cell? ⟨gb755, 4, none⟩ = some (.int .i64 0) := (blk_cell BK755.out 4).trans rfl; have hcz45_5 : w41.cell? ⟨gb755, 5, none⟩ = some (.int .i64 0) := (blk_cell BK755.out 5).trans rfl; have hcz45_6 : w41.cell? ⟨gb755, 6, none⟩ = some (.slice none 0 0) := (blk_cell BK755.out 6).trans rfl; have hfz45_0 := blk_frozen BK755.out 0; have hfz45_1 := blk_frozen BK755.out 1; have hfz45_2 := blk_frozen BK755.out 2; have hfz45_3 := blk_frozen BK755.out 3; have hfz45_4 := blk_frozen BK755.out 4; have hfz45_5 := blk_frozen BK755.out 5; have hfz45_6 := blk_frozen BK755.out 6; obtain ⟨Ao46, co46, eo46⟩ := Kd.R_slice HO753.out; subst eo46))
            (try simp only [Act.put, List.setIfInBounds_toArray, List.set_cons_zero, List.set_cons_succ])
            go_cut [64] (fun v64 wc => ∃ (kq : Nat) (x64_33 : Bool), v64 = .bool x64_33 ∧ Aside0 (laws_FnExactArchNew.j1 kq t739 x64_33 t740 t728 t729 t730 t731 t732 t741 = some r) ∧ Aside0 (kq ≤ kj5) ∧ Aside0 (Kd.R k84 84 wc w.heap.size (fun k_ => some k_ ≠ ((.slice Ao14 t725.length co14) : Value).ownBlock ∧ some k_ ≠ ((.slice Ao42 t743.length co42) : Value).ownBlock) (.slice Ao9 t712.length co9) t712) ∧ Aside0 (Kd.R k115 115 wc w.heap.size (fun k_ => some k_ ≠ ((.slice Ao17 t733.length co17) : Value).ownBlock ∧ some k_ ≠ ((.slice Ao46 t751.length co46) : Value).ownBlock) (.slice Ao11 t720.length co11) t720) ∧ Aside0 (Kd.R k84 84 wc w.heap.size (fun k_ => some k_ ≠ ((.slice Ao9 t712.length co9) : Value).ownBlock ∧ some k_ ≠ ((.slice Ao42 t743.length co42) : Value).ownBlock) (.slice Ao14 t725.length co14) t740) ∧ Aside0 (Kd.R k115 115 wc w.heap.size (fun k_ => some k_ ≠ ((.slice Ao11 t720.length co11) : Value).ownBlock ∧ some k_ ≠ ((.slice Ao46 t751.length co46) : Value).ownBlock) (.slice Ao17 t733.length co17) t741) ∧ Aside0 (Kd.R k84 84 wc w.heap.size (fun k_ => some k_ ≠ ((.slice Ao9 t712.length co9) : Value).ownBlock ∧ some k_ ≠ ((.slice Ao14 t725.length co14) : Value).ownBlock) (.slice Ao42 t743.length co42) t743) ∧ Aside0 (Kd.R k115 115 wc w.heap.size (fun k_ => some k_ ≠ ((.slice Ao11 t720.length co11) : Value).ownBlock ∧ some k_ ≠ ((.slice Ao17 t733.length co17) : Value).ownBlock) (.slice Ao46 t751.length co46) t751) ∧ Aside0 (wc.heap[gb724]? = some (.cells #[(.slice Ao9 t712.length co9), .int .i64 t715, .int .i64 t716, .int .i64 t717, .int .i64 t718, .int .i64 t719, (.slice Ao11 t720.length co11)] 61 (0, 0))) ∧ Aside0 (wc.heap[gb737]? = some (.cells #[(.slice Ao14 t725.length co14), .int .i64 t728, .int .i64 t729, .int .i64 t730, .int .i64 t731, .int .i64 t732, (.slice Ao17 t733.length co17)] 61 (0, 0))) ∧ Aside0 (wc.heap[gb755]? = some (.cells #[(.slice Ao42 t743.length co42), .int .i64 t746, .int .i64 t747, .int .i64 t748, .int .i64 t749, .int .i64 t750, (.slice Ao46 t751.length co46)] 61 (0, 0))) ∧ Aside0 (Below w.heap.size w wc))
            case first =>
              have H := HC34.out
              clear HC34
              replace H := Option.bind_eq_some_iff.mp H
              obtain ⟨t756, A470, H⟩ := H
              replace H : (if t756 = true then (laws_FnExactArchNew.j1 kj5 t739 (t754 != t723) t740 t728 t729 t730 t731 t732 t741) else (laws_FnExactArchNew.j1 kj5 t739 true t740 t728 t729 t730 t731 t732 t741)) = some r := H
              have A47 := Aside0.mk A470
              clear A470
              by_cases c48 : t756 = true
              · subst c48
                have H1 : (laws_FnExactArchNew.j1 kj5 t739 (t754 != t723) t740 t728 t729 t730 t731 t732 t741) = some r := by rw [if_pos rfl] at H; exact H
                clear H
                have H := H1
                clear H1
                have H' := Aside0.mk H
                clear H
                have hnb49 := NB755_724.out
                have hnc49 := NB724_755.out
                have hnb50 := NB755_737.out
                have hnc50 := NB737_755.out
                have hcz51_0 : w41.cell? ⟨gb755, 0, none⟩ = some (.slice none 0 0) := (blk_cell BK755.out 0).trans rfl
                have hcz51_1 : w41.cell? ⟨gb755, 1, none⟩ = some (.int .i64 0) := (blk_cell BK755.out 1).trans rfl
                have hcz51_2 : w41.cell? ⟨gb755, 2, none⟩ = some (.int .i64 0) := (blk_cell BK755.out 2).trans rfl
                have hcz51_3 : w41.cell? ⟨gb755, 3, none⟩ = some (.int .i64 0) := (blk_cell BK755.out 3).trans rfl
                have hcz51_4 : w41.cell? ⟨gb755, 4, none⟩ = some (.int .i64 0) := (blk_cell BK755.out 4).trans rfl
                have hcz51_5 : w41.cell? ⟨gb755, 5, none⟩ = some (.int .i64 0) := (blk_cell BK755.out 5).trans rfl
                have hcz51_6 : w41.cell? ⟨gb755, 6, none⟩ = some (.slice none 0 0) := (blk_cell BK755.out 6).trans rfl
                have hfz51_0 := blk_frozen BK755.out 0
                have hfz51_1 := blk_frozen BK755.out 1
                have hfz51_2 := blk_frozen BK755.out 2
                have hfz51_3 := blk_frozen BK755.out 3
                have hfz51_4 := blk_frozen BK755.out 4
                have hfz51_5 := blk_frozen BK755.out 5
                have hfz51_6 := blk_frozen BK755.out 6
                have hnb52 := NB724_737.out
                have hnc52 := NB737_724.out
                have hcz53_0 : w41.cell? ⟨gb724, 0, none⟩ = some (.slice Ao9 t712.length co9) := (blk_cell BK724.out 0).trans rfl
                have hcz53_1 : w41.cell? ⟨gb724, 1, none⟩ = some (.int .i64 t715) := (blk_cell BK724.out 1).trans rfl
                have hcz53_2 : w41.cell? ⟨gb724, 2, none⟩ = some (.int .i64 t716) := (blk_cell BK724.out 2).trans rfl
                have hcz53_3 : w41.cell? ⟨gb724, 3, none⟩ = some (.int .i64 t717) := (blk_cell BK724.out 3).trans rfl
                have hcz53_4 : w41.cell? ⟨gb724, 4, none⟩ = some (.int .i64 t718) := (blk_cell BK724.out 4).trans rfl
                have hcz53_5 : w41.cell? ⟨gb724, 5, none⟩ = some (.int .i64 t719) := (blk_cell BK724.out 5).trans rfl
                have hcz53_6 : w41.cell? ⟨gb724, 6, none⟩ = some (.slice Ao11 t720.length co11) := (blk_cell BK724.out 6).trans rfl
                have hfz53_0 := blk_frozen BK724.out 0
                have hfz53_1 := blk_frozen BK724.out 1
                have hfz53_2 := blk_frozen BK724.out 2
                have hfz53_3 := blk_frozen BK724.out 3
                have hfz53_4 := blk_frozen BK724.out 4
                have hfz53_5 := blk_frozen BK724.out 5
                have hfz53_6 := blk_frozen BK724.out 6
                go_wp2_with (first | ((with_reducible refine gate_callee (f := 53) rfl ?_); refine goesL_ (some 58) rfl rfl Try.func53 (by kernel_rfl) rfl #[.agg #[.slice Ao42 t743.length co42, .int .i64 t746, .int .i64 t747, .int .i64 t748, .int .i64 t749, .int .i64 t750, .slice Ao46 t751.length co46], .agg #[.slice Ao9 t712.length co9, .int .i64 t715, .int .i64 t716, .int .i64 t717, .int .i64 t718, .int .i64 t719, .slice Ao11 t720.length co11]] rfl (by (try simp only [List.map_toArray, List.map_cons, List.map_nil]); first | done | rfl | (simp only [List.length_drop, List.length_take]; rfl)) ?_; (with_reducible refine (laws_eqArchive.calls kj5 _ _ t743 t746 t747 t748 t749 t750 _ _ t751 _ _ t712 t715 t716 t717 t718 t719 _ _ t720 true _ ?side1 ?side2 ?side3 ?side4 ?side5 ?side6 ?side7 ?side8 A47.out).mono ?_); (case side1 => refine (Kd.R_reads' (e := 84) (base := w.heap.size) (ok := fun k_ => ((True ∧ some k_ ≠ (.slice Ao9 t712.length co9 : Value).ownBlock) ∧ some k_ ≠ (.slice Ao14 t725.length co14 : Value).ownBlock)) (n := t743.length) (c := co42) ?_).2.2; exact (by (with_reducible repeat (first | apply Kd.R_alloc | apply Kd.R_drewN | apply Kd.R_drew)); exact (Kd.R_mono (Kd.R_far (p := ⟨gb755, 6, none⟩) (Kd.R_far (p := ⟨gb755, 5, none⟩) (Kd.R_far (p := ⟨gb755, 4, none⟩) (Kd.R_far (p := ⟨gb755, 3, none⟩) (Kd.R_far (p := ⟨gb755, 2, none⟩) (Kd.R_far (p := ⟨gb755, 1, none⟩) (Kd.R_far (p := ⟨gb755, 0, none⟩) (Kd.R_types HO745.out BK755.out (by decide)) (fun _ hk => hk.2) (.slice Ao42 t743.length co42)) (fun _ hk => hk.2) (.int .i64 t746)) (fun _ hk => hk.2) (.int .i64 t747)) (fun _ hk => hk.2) (.int .i64 t748)) (fun _ hk => hk.2) (.int .i64 t749)) (fun _ hk => hk.2) (.int .i64 t750)) (fun _ hk => hk.2) (.slice Ao46 t751.length co46)) (fun _ h_ => h_.1)))); (case side2 => exact (Kd.R_reads' HO745.out).2.1); (case side3 => refine (Kd.R_reads' (e := 115) (base := w.heap.size) (ok := fun k_ => ((True ∧ some k_ ≠ (.slice Ao11 t720.length co11 : Value).ownBlock) ∧ some k_ ≠ (.slice Ao17 t733.length co17 : Value).ownBlock)) (n := t751.length) (c := co46) ?_).2.2; exact (by (with_reducible repeat (first | apply Kd.R_alloc | apply Kd.R_drewN | apply Kd.R_drew)); exact (Kd.R_mono (Kd.R_far (p := ⟨gb755, 6, none⟩) (Kd.R_far (p := ⟨gb755, 5, none⟩) (Kd.R_far (p := ⟨gb755, 4, none⟩) (Kd.R_far (p := ⟨gb755, 3, none⟩) (Kd.R_far (p := ⟨gb755, 2, none⟩) (Kd.R_far (p := ⟨gb755, 1, none⟩) (Kd.R_far (p := ⟨gb755, 0, none⟩) (Kd.R_types HO753.out BK755.out (by decide)) (fun _ hk => hk.2) (.slice Ao42 t743.length co42)) (fun _ hk => hk.2) (.int .i64 t746)) (fun _ hk => hk.2) (.int .i64 t747)) (fun _ hk => hk.2) (.int .i64 t748)) (fun _ hk => hk.2) (.int .i64 t749)) (fun _ hk => hk.2) (.int .i64 t750)) (fun _ hk => hk.2) (.slice Ao46 t751.length co46)) (fun _ h_ => h_.1)))); (case side4 => exact (Kd.R_reads' HO753.out).2.1); (case side5 => refine (Kd.R_reads' (e := 84) (base := w.heap.size) (ok := fun k_ => (some k_ ≠ (.slice Ao14 t725.length co14 : Value).ownBlock ∧ some k_ ≠ (.slice Ao42 t743.length co42 : Value).ownBlock)) (n := t712.length) (c := co9) ?_).2.2; exact (by (with_reducible repeat (first | apply Kd.R_alloc | apply Kd.R_drewN | apply Kd.R_drew)); exact (Kd.R_mono (Kd.R_far (p := ⟨gb755, 6, none⟩) (Kd.R_far (p := ⟨gb755, 5, none⟩) (Kd.R_far (p := ⟨gb755, 4, none⟩) (Kd.R_far (p := ⟨gb755, 3, none⟩) (Kd.R_far (p := ⟨gb755, 2, none⟩) (Kd.R_far (p := ⟨gb755, 1, none⟩) (Kd.R_far (p := ⟨gb755, 0, none⟩) (Kd.R_types HO_725000.out BK755.out (by decide)) (fun _ hk => hk.2) (.slice Ao42 t743.length co42)) (fun _ hk => hk.2) (.int .i64 t746)) (fun _ hk => hk.2) (.int .i64 t747)) (fun _ hk => hk.2) (.int .i64 t748)) (fun _ hk => hk.2) (.int .i64 t749)) (fun _ hk => hk.2) (.int .i64 t750)) (fun _ hk => hk.2) (.slice Ao46 t751.length co46)) (fun _ h_ => h_.1)))); (case side6 => exact (Kd.R_reads' HO_725000.out).2.1); (case side7 => refine (Kd.R_reads' (e := 115) (base := w.heap.size) (ok := fun k_ => (some k_ ≠ (.slice Ao17 t733.length co17 : Value).ownBlock ∧ some k_ ≠ (.slice Ao46 t751.length co46 : Value).ownBlock)) (n := t720.length) (c := co11) ?_).2.2; exact (by (with_reducible repeat (first | apply Kd.R_alloc | apply Kd.R_drewN | apply Kd.R_drew)); exact (Kd.R_mono (Kd.R_far (p := ⟨gb755, 6, none⟩) (Kd.R_far (p := ⟨gb755, 5, none⟩) (Kd.R_far (p := ⟨gb755, 4, none⟩) (Kd.R_far (p := ⟨gb755, 3, none⟩) (Kd.R_far (p := ⟨gb755, 2, none⟩) (Kd.R_far (p := ⟨gb755, 1, none⟩) (Kd.R_far (p := ⟨gb755, 0, none⟩) (Kd.R_types HO_725006.out BK755.out (by decide)) (fun _ hk => hk.2) (.slice Ao42 t743.length co42)) (fun _ hk => hk.2) (.int .i64 t746)) (fun _ hk => hk.2) (.int .i64 t747)) (fun _ hk => hk.2) (.int .i64 t748)) (fun _ hk => hk.2) (.int .i64 t749)) (fun _ hk => hk.2) (.int .i64 t750)) (fun _ hk => hk.2) (.slice Ao46 t751.length co46)) (fun _ h_ => h_.1)))); (case side8 => exact (Kd.R_reads' HO_725006.out).2.1); rintro e w54 ⟨rfl, hb⟩; refine ⟨_, rfl, ?_⟩; have n0_ := Aside0.mk (Kd.R_below (by (with_reducible repeat (first | apply Kd.R_alloc | apply Kd.R_drewN | apply Kd.R_drew)); exact (Kd.R_mono (Kd.R_far (p := ⟨gb755, 6, none⟩) (Kd.R_far (p := ⟨gb755, 5, none⟩) (Kd.R_far (p := ⟨gb755, 4, none⟩) (Kd.R_far (p := ⟨gb755, 3, none⟩) (Kd.R_far (p := ⟨gb755, 2, none⟩) (Kd.R_far (p := ⟨gb755, 1, none⟩) (Kd.R_far (p := ⟨gb755, 0, none⟩) (Kd.R_types HO_725000.out BK755.out (by decide)) (fun _ hk => hk.2) (.slice Ao42 t743.length co42)) (fun _ hk => hk.2) (.int .i64 t746)) (fun _ hk => hk.2) (.int .i64 t747)) (fun _ hk => hk.2) (.int .i64 t748)) (fun _ hk => hk.2) (.int .i64 t749)) (fun _ hk => hk.2) (.int .i64 t750)) (fun _ hk => hk.2) (.slice Ao46 t751.length co46)) (fun _ h_ => h_.1))) hb); have n1_ := Aside0.mk (Kd.R_below (by (with_reducible repeat (first | apply Kd.R_alloc | apply Kd.R_drewN | apply Kd.R_drew)); exact (Kd.R_mono (Kd.R_far (p := ⟨gb755, 6, none⟩) (Kd.R_far (p := ⟨gb755, 5, none⟩) (Kd.R_far (p := ⟨gb755, 4, none⟩) (Kd.R_far (p := ⟨gb755, 3, none⟩) (Kd.R_far (p := ⟨gb755, 2, none⟩) (Kd.R_far (p := ⟨gb755, 1, none⟩) (Kd.R_far (p := ⟨gb755, 0, none⟩) (Kd.R_types HO_725006.out BK755.out (by decide)) (fun _ hk => hk.2) (.slice Ao42 t743.length co42)) (fun _ hk => hk.2) (.int .i64 t746)) (fun _ hk => hk.2) (.int .i64 t747)) (fun _ hk => hk.2) (.int .i64 t748)) (fun _ hk => hk.2) (.int .i64 t749)) (fun _ hk => hk.2) (.int .i64 t750)) (fun _ hk => hk.2) (.slice Ao46 t751.length co46)) (fun _ h_ => h_.1))) hb); have n2_ := Aside0.mk (Kd.R_below (by (with_reducible repeat (first | apply Kd.R_alloc | apply Kd.R_drewN | apply Kd.R_drew)); exact (Kd.R_mono (Kd.R_far (p := ⟨gb755, 6, none⟩) (Kd.R_far (p := ⟨gb755, 5, none⟩) (Kd.R_far (p := ⟨gb755, 4, none⟩) (Kd.R_far (p := ⟨gb755, 3, none⟩) (Kd.R_far (p := ⟨gb755, 2, none⟩) (Kd.R_far (p := ⟨gb755, 1, none⟩) (Kd.R_far (p := ⟨gb755, 0, none⟩) (Kd.R_types HO_738000.out BK755.out (by decide)) (fun _ hk => hk.2) (.slice Ao42 t743.length co42)) (fun _ hk => hk.2) (.int .i64 t746)) (fun _ hk => hk.2) (.int .i64 t747)) (fun _ hk => hk.2) (.int .i64 t748)) (fun _ hk => hk.2) (.int .i64 t749)) (fun _ hk => hk.2) (.int .i64 t750)) (fun _ hk => hk.2) (.slice Ao46 t751.length co46)) (fun _ h_ => h_.1))) hb); have n3_ := Aside0.mk (Kd.R_below (by (with_reducible repeat (first | apply Kd.R_alloc | apply Kd.R_drewN | apply Kd.R_drew)); exact (Kd.R_mono (Kd.R_far (p := ⟨gb755, 6, none⟩) (Kd.R_far (p := ⟨gb755, 5, none⟩) (Kd.R_far (p := ⟨gb755, 4, none⟩) (Kd.R_far (p := ⟨gb755, 3, none⟩) (Kd.R_far (p := ⟨gb755, 2, none⟩) (Kd.R_far (p := ⟨gb755, 1, none⟩) (Kd.R_far (p := ⟨gb755, 0, none⟩) (Kd.R_types HO_738006.out BK755.out (by decide)) (fun _ hk => hk.2) (.slice Ao42 t743.length co42)) (fun _ hk => hk.2) (.int .i64 t746)) (fun _ hk => hk.2) (.int .i64 t747)) (fun _ hk => hk.2) (.int .i64 t748)) (fun _ hk => hk.2) (.int .i64 t749)) (fun _ hk => hk.2) (.int .i64 t750)) (fun _ hk => hk.2) (.slice Ao46 t751.length co46)) (fun _ h_ => h_.1))) hb); have n4_ := Aside0.mk (Kd.R_below (by (with_reducible repeat (first | apply Kd.R_alloc | apply Kd.R_drewN | apply Kd.R_drew)); exact (Kd.R_mono (Kd.R_far (p := ⟨gb755, 6, none⟩) (Kd.R_far (p := ⟨gb755, 5, none⟩) (Kd.R_far (p := ⟨gb755, 4, none⟩) (Kd.R_far (p := ⟨gb755, 3, none⟩) (Kd.R_far (p := ⟨gb755, 2, none⟩) (Kd.R_far (p := ⟨gb755, 1, none⟩) (Kd.R_far (p := ⟨gb755, 0, none⟩) (Kd.R_types HO745.out BK755.out (by decide)) (fun _ hk => hk.2) (.slice Ao42 t743.length co42)) (fun _ hk => hk.2) (.int .i64 t746)) (fun _ hk => hk.2) (.int .i64 t747)) (fun _ hk => hk.2) (.int .i64 t748)) (fun _ hk => hk.2) (.int .i64 t749)) (fun _ hk => hk.2) (.int .i64 t750)) (fun _ hk => hk.2) (.slice Ao46 t751.length co46)) (fun _ h_ => h_.1))) hb); have n5_ := Aside0.mk (Kd.R_below (by (with_reducible repeat (first | apply Kd.R_alloc | apply Kd.R_drewN | apply Kd.R_drew)); exact (Kd.R_mono (Kd.R_far (p := ⟨gb755, 6, none⟩) (Kd.R_far (p := ⟨gb755, 5, none⟩) (Kd.R_far (p := ⟨gb755, 4, none⟩) (Kd.R_far (p := ⟨gb755, 3, none⟩) (Kd.R_far (p := ⟨gb755, 2, none⟩) (Kd.R_far (p := ⟨gb755, 1, none⟩) (Kd.R_far (p := ⟨gb755, 0, none⟩) (Kd.R_types HO753.out BK755.out (by decide)) (fun _ hk => hk.2) (.slice Ao42 t743.length co42)) (fun _ hk => hk.2) (.int .i64 t746)) (fun _ hk => hk.2) (.int .i64 t747)) (fun _ hk => hk.2) (.int .i64 t748)) (fun _ hk => hk.2) (.int .i64 t749)) (fun _ hk => hk.2) (.int .i64 t750)) (fun _ hk => hk.2) (.slice Ao46 t751.length co46)) (fun _ h_ => h_.1))) hb); have n6_ := Aside0.mk (blk_below (g := gb724) (o := .cells #[.slice Ao9 t712.length co9, .int .i64 t715, .int .i64 t716, .int .i64 t717, .int .i64 t718, .int .i64 t719, .slice Ao11 t720.length co11] 61 (0, 0)) (by (with_reducible repeat (first | refine blk_drewN ?_ _ | refine blk_drew ?_ | refine blk_alloc ?_ _)); refine blk_far ?_ NB724_755.out _; (with_reducible repeat (first | refine blk_drewN ?_ _ | refine blk_drew ?_ | refine blk_alloc ?_ _)); refine blk_far ?_ NB724_755.out _; (with_reducible repeat (first | refine blk_drewN ?_ _ | refine blk_drew ?_ | refine blk_alloc ?_ _)); refine blk_far ?_ NB724_755.out _; (with_reducible repeat (first | refine blk_drewN ?_ _ | refine blk_drew ?_ | refine blk_alloc ?_ _)); refine blk_far ?_ NB724_755.out _; (with_reducible repeat (first | refine blk_drewN ?_ _ | refine blk_drew ?_ | refine blk_alloc ?_ _)); refine blk_far ?_ NB724_755.out _; (with_reducible repeat (first | refine blk_drewN ?_ _ | refine blk_drew ?_ | refine blk_alloc ?_ _)); refine blk_far ?_ NB724_755.out _; (with_reducible repeat (first | refine blk_drewN ?_ _ | refine blk_drew ?_ | refine blk_alloc ?_ _)); refine blk_far ?_ NB724_755.out _; (with_reducible repeat (first | refine blk_drewN ?_ _ | refine blk_drew ?_ | refine blk_alloc ?_ _)); exact BK724.out) hb); have n7_ := Aside0.mk (blk_below (g := gb737) (o := .cells #[.slice Ao14 t725.length co14, .int .i64 t728, .int .i64 t729, .int .i64 t730, .int .i64 t731, .int .i64 t732, .slice Ao17 t733.length co17] 61 (0, 0)) (by (with_reducible repeat (first | refine blk_drewN ?_ _ | refine blk_drew ?_ | refine blk_alloc ?_ _)); refine blk_far ?_ NB737_755.out _; (with_reducible repeat (first | refine blk_drewN ?_ _ | refine blk_drew ?_ | refine blk_alloc ?_ _)); refine blk_far ?_ NB737_755.out _; (with_reducible repeat (first | refine blk_drewN ?_ _ | refine blk_drew ?_ | refine blk_alloc ?_ _)); refine blk_far ?_ NB737_755.out _; (with_reducible repeat (first | refine blk_drewN ?_ _ | refine blk_drew ?_ | refine blk_alloc ?_ _)); refine blk_far ?_ NB737_755.out _; (with_reducible repeat (first | refine blk_drewN ?_ _ | refine blk_drew ?_ | refine blk_alloc ?_ _)); refine blk_far ?_ NB737_755.out _; (with_reducible repeat (first | refine blk_drewN ?_ _ | refine blk_drew ?_ | refine blk_alloc ?_ _)); refine blk_far ?_ NB737_755.out _; (with_reducible repeat (first | refine blk_drewN ?_ _ | refine blk_drew ?_ | refine blk_alloc ?_ _)); refine blk_far ?_ NB737_755.out _; (with_reducible repeat (first | refine blk_drewN ?_ _ | refine blk_drew ?_ | refine blk_alloc ?_ _)); exact BK737.out) hb); have n8_ := Aside0.mk (blk_below (g := gb755) (o := .cells #[.slice Ao42 t743.length co42, .int .i64 t746, .int .i64 t747, .int .i64 t748, .int .i64 t749, .int .i64 t750, .slice Ao46 t751.length co46] 61 (0, 0)) (by (with_reducible repeat (first | refine blk_drewN ?_ _ | refine blk_drew ?_ | refine blk_alloc ?_ _)); refine blk_put (cs := #[.slice Ao42 t743.length co42, .int .i64 t746, .int .i64 t747, .int .i64 t748, .int .i64 t749, .int .i64 t750, .slice none 0 0]) ?_ 6 _ rfl; (with_reducible repeat (first | refine blk_drewN ?_ _ | refine blk_drew ?_ | refine blk_alloc ?_ _)); refine blk_put (cs := #[.slice Ao42 t743.length co42, .int .i64 t746, .int .i64 t747, .int .i64 t748, .int .i64 t749, .int .i64 0, .slice none 0 0]) ?_ 5 _ rfl; (with_reducible repeat (first | refine blk_drewN ?_ _ | refine blk_drew ?_ | refine blk_alloc ?_ _)); refine blk_put (cs := #[.slice Ao42 t743.length co42, .int .i64 t746, .int .i64 t747, .int .i64 t748, .int .i64 0, .int .i64 0, .slice none 0 0]) ?_ 4 _ rfl; (with_reducible repeat (first | refine blk_drewN ?_ _ | refine blk_drew ?_ | refine blk_alloc ?_ _)); refine blk_put (cs := #[.slice Ao42 t743.length co42, .int .i64 t746, .int .i64 t747, .int .i64 0, .int .i64 0, .int .i64 0, .slice none 0 0]) ?_ 3 _ rfl; (with_reducible repeat (first | refine blk_drewN ?_ _ | refine blk_drew ?_ | refine blk_alloc ?_ _)); refine blk_put (cs := #[.slice Ao42 t743.length co42, .int .i64 t746, .int .i64 0, .int .i64 0, .int .i64 0, .int .i64 0, .slice none 0 0]) ?_ 2 _ rfl; (with_reducible repeat (first | refine blk_drewN ?_ _ | refine blk_drew ?_ | refine blk_alloc ?_ _)); refine blk_put (cs := #[.slice Ao42 t743.length co42, .int .i64 0, .int .i64 0, .int .i64 0, .int .i64 0, .int .i64 0, .slice none 0 0]) ?_ 1 _ rfl; (with_reducible repeat (first | refine blk_drewN ?_ _ | refine blk_drew ?_ | refine blk_alloc ?_ _)); refine blk_put (cs := #[.slice none 0 0, .int .i64 0, .int .i64 0, .int .i64 0, .int .i64 0, .int .i64 0, .slice none 0 0]) ?_ 0 _ rfl; (with_reducible repeat (first | refine blk_drewN ?_ _ | refine blk_drew ?_ | refine blk_alloc ?_ _)); exact BK755.out) hb); have n9_ := Aside0.mk (below_step (by repeat (first | (with_reducible first | exact HB.out | apply below_alloc | apply pw_below_drewN | apply below_drew1 | refine below_set ?_ GE724.out | refine below_set ?_ GE737.out | refine below_set ?_ GE755.out) | exact HB.out)) hb); clear HO_725000; clear HO_725006; clear HO_738000; clear HO_738006; clear HO745; clear HO753; clear BK724; clear BK737; clear BK755; clear HB; have HO_725000 := n0_; have HO_725006 := n1_; have HO_738000 := n2_; have HO_738006 := n3_; have HO745 := n4_; have HO753 := n5_; have BK724 := n6_; have BK737 := n7_; have BK755 := n8_; have HB := n9_; clear n0_ n1_ n2_ n3_ n4_ n5_ n6_ n7_ n8_ n9_; (try clear hb); (try clear hb2); (try clear hk); (try clear hi)))
                go_meet
                case rel => exact ⟨_, ((t754 != t723)), (by first | rfl | (simp; done) | (simp [*]; done)), H', ⟨by have := HJ5.out; first | omega | exact Nat.le_refl _⟩, ⟨by (with_reducible repeat (first | apply Kd.R_alloc | apply Kd.R_drewN | apply Kd.R_drew)); exact HO_725000.out⟩, ⟨by (with_reducible repeat (first | apply Kd.R_alloc | apply Kd.R_drewN | apply Kd.R_drew)); exact HO_725006.out⟩, ⟨by (with_reducible repeat (first | apply Kd.R_alloc | apply Kd.R_drewN | apply Kd.R_drew)); exact HO_738000.out⟩, ⟨by (with_reducible repeat (first | apply Kd.R_alloc | apply Kd.R_drewN | apply Kd.R_drew)); exact HO_738006.out⟩, ⟨by (with_reducible repeat (first | apply Kd.R_alloc | apply Kd.R_drewN | apply Kd.R_drew)); exact Kd.R_mono HO745.out (fun _ hk => ⟨hk.1.2, hk.2⟩)⟩, ⟨by (with_reducible repeat (first | apply Kd.R_alloc | apply Kd.R_drewN | apply Kd.R_drew)); exact Kd.R_mono HO753.out (fun _ hk => ⟨hk.1.2, hk.2⟩)⟩, ⟨by (with_reducible repeat (first | refine blk_drewN ?_ _ | refine blk_drew ?_ | refine blk_alloc ?_ _)); exact BK724.out⟩, ⟨by (with_reducible repeat (first | refine blk_drewN ?_ _ | refine blk_drew ?_ | refine blk_alloc ?_ _)); exact BK737.out⟩, ⟨by (with_reducible repeat (first | refine blk_drewN ?_ _ | refine blk_drew ?_ | refine blk_alloc ?_ _)); exact BK755.out⟩, ⟨by repeat (first | (with_reducible first | exact HB.out | apply below_alloc | apply pw_below_drewN | apply below_drew1 | refine below_set ?_ GE724.out | refine below_set ?_ GE737.out | refine below_set ?_ GE755.out) | exact HB.out)⟩⟩
              · replace c48 := Bool.eq_false_iff.mpr c48
                subst c48
                have H1 : (laws_FnExactArchNew.j1 kj5 t739 true t740 t728 t729 t730 t731 t732 t741) = some r := by rw [if_neg (show ¬ (false = true) by decide)] at H; exact H
                clear H
                have H := H1
                clear H1
                have H' := Aside0.mk H
                clear H
                have hnb55 := NB755_724.out
                have hnc55 := NB724_755.out
                have hnb56 := NB755_737.out
                have hnc56 := NB737_755.out
                have hcz57_0 : w41.cell? ⟨gb755, 0, none⟩ = some (.slice none 0 0) := (blk_cell BK755.out 0).trans rfl
                have hcz57_1 : w41.cell? ⟨gb755, 1, none⟩ = some (.int .i64 0) := (blk_cell BK755.out 1).trans rfl
                have hcz57_2 : w41.cell? ⟨gb755, 2, none⟩ = some (.int .i64 0) := (blk_cell BK755.out 2).trans rfl
                have hcz57_3 : w41.cell? ⟨gb755, 3, none⟩ = some (.int .i64 0) := (blk_cell BK755.out 3).trans rfl
                have hcz57_4 : w41.cell? ⟨gb755, 4, none⟩ = some (.int .i64 0) := (blk_cell BK755.out 4).trans rfl
                have hcz57_5 : w41.cell? ⟨gb755, 5, none⟩ = some (.int .i64 0) := (blk_cell BK755.out 5).trans rfl
                have hcz57_6 : w41.cell? ⟨gb755, 6, none⟩ = some (.slice none 0 0) := (blk_cell BK755.out 6).trans rfl
                have hfz57_0 := blk_frozen BK755.out 0
                have hfz57_1 := blk_frozen BK755.out 1
                have hfz57_2 := blk_frozen BK755.out 2
                have hfz57_3 := blk_frozen BK755.out 3
                have hfz57_4 := blk_frozen BK755.out 4
                have hfz57_5 := blk_frozen BK755.out 5
                have hfz57_6 := blk_frozen BK755.out 6
                have hnb58 := NB724_737.out
                have hnc58 := NB737_724.out
                have hcz59_0 : w41.cell? ⟨gb724, 0, none⟩ = some (.slice Ao9 t712.length co9) := (blk_cell BK724.out 0).trans rfl
                have hcz59_1 : w41.cell? ⟨gb724, 1, none⟩ = some (.int .i64 t715) := (blk_cell BK724.out 1).trans rfl
                have hcz59_2 : w41.cell? ⟨gb724, 2, none⟩ = some (.int .i64 t716) := (blk_cell BK724.out 2).trans rfl
                have hcz59_3 : w41.cell? ⟨gb724, 3, none⟩ = some (.int .i64 t717) := (blk_cell BK724.out 3).trans rfl
                have hcz59_4 : w41.cell? ⟨gb724, 4, none⟩ = some (.int .i64 t718) := (blk_cell BK724.out 4).trans rfl
                have hcz59_5 : w41.cell? ⟨gb724, 5, none⟩ = some (.int .i64 t719) := (blk_cell BK724.out 5).trans rfl
                have hcz59_6 : w41.cell? ⟨gb724, 6, none⟩ = some (.slice Ao11 t720.length co11) := (blk_cell BK724.out 6).trans rfl
                have hfz59_0 := blk_frozen BK724.out 0
                have hfz59_1 := blk_frozen BK724.out 1
                have hfz59_2 := blk_frozen BK724.out 2
                have hfz59_3 := blk_frozen BK724.out 3
                have hfz59_4 := blk_frozen BK724.out 4
                have hfz59_5 := blk_frozen BK724.out 5
                have hfz59_6 := blk_frozen BK724.out 6
                go_wp2_with (first | ((with_reducible refine gate_callee (f := 53) rfl ?_); refine goesL_ (some 58) rfl rfl Try.func53 (by kernel_rfl) rfl #[.agg #[.slice Ao42 t743.length co42, .int .i64 t746, .int .i64 t747, .int .i64 t748, .int .i64 t749, .int .i64 t750, .slice Ao46 t751.length co46], .agg #[.slice Ao9 t712.length co9, .int .i64 t715, .int .i64 t716, .int .i64 t717, .int .i64 t718, .int .i64 t719, .slice Ao11 t720.length co11]] rfl (by (try simp only [List.map_toArray, List.map_cons, List.map_nil]); first | done | rfl | (simp only [List.length_drop, List.length_take]; rfl)) ?_; (with_reducible refine (laws_eqArchive.calls kj5 _ _ t743 t746 t747 t748 t749 t750 _ _ t751 _ _ t712 t715 t716 t717 t718 t719 _ _ t720 false _ ?side1 ?side2 ?side3 ?side4 ?side5 ?side6 ?side7 ?side8 A47.out).mono ?_); (case side1 => refine (Kd.R_reads' (e := 84) (base := w.heap.size) (ok := fun k_ => ((True ∧ some k_ ≠ (.slice Ao9 t712.length co9 : Value).ownBlock) ∧ some k_ ≠ (.slice Ao14 t725.length co14 : Value).ownBlock)) (n := t743.length) (c := co42) ?_).2.2; exact (by (with_reducible repeat (first | apply Kd.R_alloc | apply Kd.R_drewN | apply Kd.R_drew)); exact (Kd.R_mono (Kd.R_far (p := ⟨gb755, 6, none⟩) (Kd.R_far (p := ⟨gb755, 5, none⟩) (Kd.R_far (p := ⟨gb755, 4, none⟩) (Kd.R_far (p := ⟨gb755, 3, none⟩) (Kd.R_far (p := ⟨gb755, 2, none⟩) (Kd.R_far (p := ⟨gb755, 1, none⟩) (Kd.R_far (p := ⟨gb755, 0, none⟩) (Kd.R_types HO745.out BK755.out (by decide)) (fun _ hk => hk.2) (.slice Ao42 t743.length co42)) (fun _ hk => hk.2) (.int .i64 t746)) (fun _ hk => hk.2) (.int .i64 t747)) (fun _ hk => hk.2) (.int .i64 t748)) (fun _ hk => hk.2) (.int .i64 t749)) (fun _ hk => hk.2) (.int .i64 t750)) (fun _ hk => hk.2) (.slice Ao46 t751.length co46)) (fun _ h_ => h_.1)))); (case side2 => exact (Kd.R_reads' HO745.out).2.1); (case side3 => refine (Kd.R_reads' (e := 115) (base := w.heap.size) (ok := fun k_ => ((True ∧ some k_ ≠ (.slice Ao11 t720.length co11 : Value).ownBlock) ∧ some k_ ≠ (.slice Ao17 t733.length co17 : Value).ownBlock)) (n := t751.length) (c := co46) ?_).2.2; exact (by (with_reducible repeat (first | apply Kd.R_alloc | apply Kd.R_drewN | apply Kd.R_drew)); exact (Kd.R_mono (Kd.R_far (p := ⟨gb755, 6, none⟩) (Kd.R_far (p := ⟨gb755, 5, none⟩) (Kd.R_far (p := ⟨gb755, 4, none⟩) (Kd.R_far (p := ⟨gb755, 3, none⟩) (Kd.R_far (p := ⟨gb755, 2, none⟩) (Kd.R_far (p := ⟨gb755, 1, none⟩) (Kd.R_far (p := ⟨gb755, 0, none⟩) (Kd.R_types HO753.out BK755.out (by decide)) (fun _ hk => hk.2) (.slice Ao42 t743.length co42)) (fun _ hk => hk.2) (.int .i64 t746)) (fun _ hk => hk.2) (.int .i64 t747)) (fun _ hk => hk.2) (.int .i64 t748)) (fun _ hk => hk.2) (.int .i64 t749)) (fun _ hk => hk.2) (.int .i64 t750)) (fun _ hk => hk.2) (.slice Ao46 t751.length co46)) (fun _ h_ => h_.1)))); (case side4 => exact (Kd.R_reads' HO753.out).2.1); (case side5 => refine (Kd.R_reads' (e := 84) (base := w.heap.size) (ok := fun k_ => (some k_ ≠ (.slice Ao14 t725.length co14 : Value).ownBlock ∧ some k_ ≠ (.slice Ao42 t743.length co42 : Value).ownBlock)) (n := t712.length) (c := co9) ?_).2.2; exact (by (with_reducible repeat (first | apply Kd.R_alloc | apply Kd.R_drewN | apply Kd.R_drew)); exact (Kd.R_mono (Kd.R_far (p := ⟨gb755, 6, none⟩) (Kd.R_far (p := ⟨gb755, 5, none⟩) (Kd.R_far (p := ⟨gb755, 4, none⟩) (Kd.R_far (p := ⟨gb755, 3, none⟩) (Kd.R_far (p := ⟨gb755, 2, none⟩) (Kd.R_far (p := ⟨gb755, 1, none⟩) (Kd.R_far (p := ⟨gb755, 0, none⟩) (Kd.R_types HO_725000.out BK755.out (by decide)) (fun _ hk => hk.2) (.slice Ao42 t743.length co42)) (fun _ hk => hk.2) (.int .i64 t746)) (fun _ hk => hk.2) (.int .i64 t747)) (fun _ hk => hk.2) (.int .i64 t748)) (fun _ hk => hk.2) (.int .i64 t749)) (fun _ hk => hk.2) (.int .i64 t750)) (fun _ hk => hk.2) (.slice Ao46 t751.length co46)) (fun _ h_ => h_.1)))); (case side6 => exact (Kd.R_reads' HO_725000.out).2.1); (case side7 => refine (Kd.R_reads' (e := 115) (base := w.heap.size) (ok := fun k_ => (some k_ ≠ (.slice Ao17 t733.length co17 : Value).ownBlock ∧ some k_ ≠ (.slice Ao46 t751.length co46 : Value).ownBlock)) (n := t720.length) (c := co11) ?_).2.2; exact (by (with_reducible repeat (first | apply Kd.R_alloc | apply Kd.R_drewN | apply Kd.R_drew)); exact (Kd.R_mono (Kd.R_far (p := ⟨gb755, 6, none⟩) (Kd.R_far (p := ⟨gb755, 5, none⟩) (Kd.R_far (p := ⟨gb755, 4, none⟩) (Kd.R_far (p := ⟨gb755, 3, none⟩) (Kd.R_far (p := ⟨gb755, 2, none⟩) (Kd.R_far (p := ⟨gb755, 1, none⟩) (Kd.R_far (p := ⟨gb755, 0, none⟩) (Kd.R_types HO_725006.out BK755.out (by decide)) (fun _ hk => hk.2) (.slice Ao42 t743.length co42)) (fun _ hk => hk.2) (.int .i64 t746)) (fun _ hk => hk.2) (.int .i64 t747)) (fun _ hk => hk.2) (.int .i64 t748)) (fun _ hk => hk.2) (.int .i64 t749)) (fun _ hk => hk.2) (.int .i64 t750)) (fun _ hk => hk.2) (.slice Ao46 t751.length co46)) (fun _ h_ => h_.1)))); (case side8 => exact (Kd.R_reads' HO_725006.out).2.1); rintro e w60 ⟨rfl, hb⟩; refine ⟨_, rfl, ?_⟩; have n0_ := Aside0.mk (Kd.R_below (by (with_reducible repeat (first | apply Kd.R_alloc | apply Kd.R_drewN | apply Kd.R_drew)); exact (Kd.R_mono (Kd.R_far (p := ⟨gb755, 6, none⟩) (Kd.R_far (p := ⟨gb755, 5, none⟩) (Kd.R_far (p := ⟨gb755, 4, none⟩) (Kd.R_far (p := ⟨gb755, 3, none⟩) (Kd.R_far (p := ⟨gb755, 2, none⟩) (Kd.R_far (p := ⟨gb755, 1, none⟩) (Kd.R_far (p := ⟨gb755, 0, none⟩) (Kd.R_types HO_725000.out BK755.out (by decide)) (fun _ hk => hk.2) (.slice Ao42 t743.length co42)) (fun _ hk => hk.2) (.int .i64 t746)) (fun _ hk => hk.2) (.int .i64 t747)) (fun _ hk => hk.2) (.int .i64 t748)) (fun _ hk => hk.2) (.int .i64 t749)) (fun _ hk => hk.2) (.int .i64 t750)) (fun _ hk => hk.2) (.slice Ao46 t751.length co46)) (fun _ h_ => h_.1))) hb); have n1_ := Aside0.mk (Kd.R_below (by (with_reducible repeat (first | apply Kd.R_alloc | apply Kd.R_drewN | apply Kd.R_drew)); exact (Kd.R_mono (Kd.R_far (p := ⟨gb755, 6, none⟩) (Kd.R_far (p := ⟨gb755, 5, none⟩) (Kd.R_far (p := ⟨gb755, 4, none⟩) (Kd.R_far (p := ⟨gb755, 3, none⟩) (Kd.R_far (p := ⟨gb755, 2, none⟩) (Kd.R_far (p := ⟨gb755, 1, none⟩) (Kd.R_far (p := ⟨gb755, 0, none⟩) (Kd.R_types HO_725006.out BK755.out (by decide)) (fun _ hk => hk.2) (.slice Ao42 t743.length co42)) (fun _ hk => hk.2) (.int .i64 t746)) (fun _ hk => hk.2) (.int .i64 t747)) (fun _ hk => hk.2) (.int .i64 t748)) (fun _ hk => hk.2) (.int .i64 t749)) (fun _ hk => hk.2) (.int .i64 t750)) (fun _ hk => hk.2) (.slice Ao46 t751.length co46)) (fun _ h_ => h_.1))) hb); have n2_ := Aside0.mk (Kd.R_below (by (with_reducible repeat (first | apply Kd.R_alloc | apply Kd.R_drewN | apply Kd.R_drew)); exact (Kd.R_mono (Kd.R_far (p := ⟨gb755, 6, none⟩) (Kd.R_far (p := ⟨gb755, 5, none⟩) (Kd.R_far (p := ⟨gb755, 4, none⟩) (Kd.R_far (p := ⟨gb755, 3, none⟩) (Kd.R_far (p := ⟨gb755, 2, none⟩) (Kd.R_far (p := ⟨gb755, 1, none⟩) (Kd.R_far (p := ⟨gb755, 0, none⟩) (Kd.R_types HO_738000.out BK755.out (by decide)) (fun _ hk => hk.2) (.slice Ao42 t743.length co42)) (fun _ hk => hk.2) (.int .i64 t746)) (fun _ hk => hk.2) (.int .i64 t747)) (fun _ hk => hk.2) (.int .i64 t748)) (fun _ hk => hk.2) (.int .i64 t749)) (fun _ hk => hk.2) (.int .i64 t750)) (fun _ hk => hk.2) (.slice Ao46 t751.length co46)) (fun _ h_ => h_.1))) hb); have n3_ := Aside0.mk (Kd.R_below (by (with_reducible repeat (first | apply Kd.R_alloc | apply Kd.R_drewN | apply Kd.R_drew)); exact (Kd.R_mono (Kd.R_far (p := ⟨gb755, 6, none⟩) (Kd.R_far (p := ⟨gb755, 5, none⟩) (Kd.R_far (p := ⟨gb755, 4, none⟩) (Kd.R_far (p := ⟨gb755, 3, none⟩) (Kd.R_far (p := ⟨gb755, 2, none⟩) (Kd.R_far (p := ⟨gb755, 1, none⟩) (Kd.R_far (p := ⟨gb755, 0, none⟩) (Kd.R_types HO_738006.out BK755.out (by decide)) (fun _ hk => hk.2) (.slice Ao42 t743.length co42)) (fun _ hk => hk.2) (.int .i64 t746)) (fun _ hk => hk.2) (.int .i64 t747)) (fun _ hk => hk.2) (.int .i64 t748)) (fun _ hk => hk.2) (.int .i64 t749)) (fun _ hk => hk.2) (.int .i64 t750)) (fun _ hk => hk.2) (.slice Ao46 t751.length co46)) (fun _ h_ => h_.1))) hb); have n4_ := Aside0.mk (Kd.R_below (by (with_reducible repeat (first | apply Kd.R_alloc | apply Kd.R_drewN | apply Kd.R_drew)); exact (Kd.R_mono (Kd.R_far (p := ⟨gb755, 6, none⟩) (Kd.R_far (p := ⟨gb755, 5, none⟩) (Kd.R_far (p := ⟨gb755, 4, none⟩) (Kd.R_far (p := ⟨gb755, 3, none⟩) (Kd.R_far (p := ⟨gb755, 2, none⟩) (Kd.R_far (p := ⟨gb755, 1, none⟩) (Kd.R_far (p := ⟨gb755, 0, none⟩) (Kd.R_types HO745.out BK755.out (by decide)) (fun _ hk => hk.2) (.slice Ao42 t743.length co42)) (fun _ hk => hk.2) (.int .i64 t746)) (fun _ hk => hk.2) (.int .i64 t747)) (fun _ hk => hk.2) (.int .i64 t748)) (fun _ hk => hk.2) (.int .i64 t749)) (fun _ hk => hk.2) (.int .i64 t750)) (fun _ hk => hk.2) (.slice Ao46 t751.length co46)) (fun _ h_ => h_.1))) hb); have n5_ := Aside0.mk (Kd.R_below (by (with_reducible repeat (first | apply Kd.R_alloc | apply Kd.R_drewN | apply Kd.R_drew)); exact (Kd.R_mono (Kd.R_far (p := ⟨gb755, 6, none⟩) (Kd.R_far (p := ⟨gb755, 5, none⟩) (Kd.R_far (p := ⟨gb755, 4, none⟩) (Kd.R_far (p := ⟨gb755, 3, none⟩) (Kd.R_far (p := ⟨gb755, 2, none⟩) (Kd.R_far (p := ⟨gb755, 1, none⟩) (Kd.R_far (p := ⟨gb755, 0, none⟩) (Kd.R_types HO753.out BK755.out (by decide)) (fun _ hk => hk.2) (.slice Ao42 t743.length co42)) (fun _ hk => hk.2) (.int .i64 t746)) (fun _ hk => hk.2) (.int .i64 t747)) (fun _ hk => hk.2) (.int .i64 t748)) (fun _ hk => hk.2) (.int .i64 t749)) (fun _ hk => hk.2) (.int .i64 t750)) (fun _ hk => hk.2) (.slice Ao46 t751.length co46)) (fun _ h_ => h_.1))) hb); have n6_ := Aside0.mk (blk_below (g := gb724) (o := .cells #[.slice Ao9 t712.length co9, .int .i64 t715, .int .i64 t716, .int .i64 t717, .int .i64 t718, .int .i64 t719, .slice Ao11 t720.length co11] 61 (0, 0)) (by (with_reducible repeat (first | refine blk_drewN ?_ _ | refine blk_drew ?_ | refine blk_alloc ?_ _)); refine blk_far ?_ NB724_755.out _; (with_reducible repeat (first | refine blk_drewN ?_ _ | refine blk_drew ?_ | refine blk_alloc ?_ _)); refine blk_far ?_ NB724_755.out _; (with_reducible repeat (first | refine blk_drewN ?_ _ | refine blk_drew ?_ | refine blk_alloc ?_ _)); refine blk_far ?_ NB724_755.out _; (with_reducible repeat (first | refine blk_drewN ?_ _ | refine blk_drew ?_ | refine blk_alloc ?_ _)); refine blk_far ?_ NB724_755.out _; (with_reducible repeat (first | refine blk_drewN ?_ _ | refine blk_drew ?_ | refine blk_alloc ?_ _)); refine blk_far ?_ NB724_755.out _; (with_reducible repeat (first | refine blk_drewN ?_ _ | refine blk_drew ?_ | refine blk_alloc ?_ _)); refine blk_far ?_ NB724_755.out _; (with_reducible repeat (first | refine blk_drewN ?_ _ | refine blk_drew ?_ | refine blk_alloc ?_ _)); refine blk_far ?_ NB724_755.out _; (with_reducible repeat (first | refine blk_drewN ?_ _ | refine blk_drew ?_ | refine blk_alloc ?_ _)); exact BK724.out) hb); have n7_ := Aside0.mk (blk_below (g := gb737) (o := .cells #[.slice Ao14 t725.length co14, .int .i64 t728, .int .i64 t729, .int .i64 t730, .int .i64 t731, .int .i64 t732, .slice Ao17 t733.length co17] 61 (0, 0)) (by (with_reducible repeat (first | refine blk_drewN ?_ _ | refine blk_drew ?_ | refine blk_alloc ?_ _)); refine blk_far ?_ NB737_755.out _; (with_reducible repeat (first | refine blk_drewN ?_ _ | refine blk_drew ?_ | refine blk_alloc ?_ _)); refine blk_far ?_ NB737_755.out _; (with_reducible repeat (first | refine blk_drewN ?_ _ | refine blk_drew ?_ | refine blk_alloc ?_ _)); refine blk_far ?_ NB737_755.out _; (with_reducible repeat (first | refine blk_drewN ?_ _ | refine blk_drew ?_ | refine blk_alloc ?_ _)); refine blk_far ?_ NB737_755.out _; (with_reducible repeat (first | refine blk_drewN ?_ _ | refine blk_drew ?_ | refine blk_alloc ?_ _)); refine blk_far ?_ NB737_755.out _; (with_reducible repeat (first | refine blk_drewN ?_ _ | refine blk_drew ?_ | refine blk_alloc ?_ _)); refine blk_far ?_ NB737_755.out _; (with_reducible repeat (first | refine blk_drewN ?_ _ | refine blk_drew ?_ | refine blk_alloc ?_ _)); refine blk_far ?_ NB737_755.out _; (with_reducible repeat (first | refine blk_drewN ?_ _ | refine blk_drew ?_ | refine blk_alloc ?_ _)); exact BK737.out) hb); have n8_ := Aside0.mk (blk_below (g := gb755) (o := .cells #[.slice Ao42 t743.length co42, .int .i64 t746, .int .i64 t747, .int .i64 t748, .int .i64 t749, .int .i64 t750, .slice Ao46 t751.length co46] 61 (0, 0)) (by (with_reducible repeat (first | refine blk_drewN ?_ _ | refine blk_drew ?_ | refine blk_alloc ?_ _)); refine blk_put (cs := #[.slice Ao42 t743.length co42, .int .i64 t746, .int .i64 t747, .int .i64 t748, .int .i64 t749, .int .i64 t750, .slice none 0 0]) ?_ 6 _ rfl; (with_reducible repeat (first | refine blk_drewN ?_ _ | refine blk_drew ?_ | refine blk_alloc ?_ _)); refine blk_put (cs := #[.slice Ao42 t743.length co42, .int .i64 t746, .int .i64 t747, .int .i64 t748, .int .i64 t749, .int .i64 0, .slice none 0 0]) ?_ 5 _ rfl; (with_reducible repeat (first | refine blk_drewN ?_ _ | refine blk_drew ?_ | refine blk_alloc ?_ _)); refine blk_put (cs := #[.slice Ao42 t743.length co42, .int .i64 t746, .int .i64 t747, .int .i64 t748, .int .i64 0, .int .i64 0, .slice none 0 0]) ?_ 4 _ rfl; (with_reducible repeat (first | refine blk_drewN ?_ _ | refine blk_drew ?_ | refine blk_alloc ?_ _)); refine blk_put (cs := #[.slice Ao42 t743.length co42, .int .i64 t746, .int .i64 t747, .int .i64 0, .int .i64 0, .int .i64 0, .slice none 0 0]) ?_ 3 _ rfl; (with_reducible repeat (first | refine blk_drewN ?_ _ | refine blk_drew ?_ | refine blk_alloc ?_ _)); refine blk_put (cs := #[.slice Ao42 t743.length co42, .int .i64 t746, .int .i64 0, .int .i64 0, .int .i64 0, .int .i64 0, .slice none 0 0]) ?_ 2 _ rfl; (with_reducible repeat (first | refine blk_drewN ?_ _ | refine blk_drew ?_ | refine blk_alloc ?_ _)); refine blk_put (cs := #[.slice Ao42 t743.length co42, .int .i64 0, .int .i64 0, .int .i64 0, .int .i64 0, .int .i64 0, .slice none 0 0]) ?_ 1 _ rfl; (with_reducible repeat (first | refine blk_drewN ?_ _ | refine blk_drew ?_ | refine blk_alloc ?_ _)); refine blk_put (cs := #[.slice none 0 0, .int .i64 0, .int .i64 0, .int .i64 0, .int .i64 0, .int .i64 0, .slice none 0 0]) ?_ 0 _ rfl; (with_reducible repeat (first | refine blk_drewN ?_ _ | refine blk_drew ?_ | refine blk_alloc ?_ _)); exact BK755.out) hb); have n9_ := Aside0.mk (below_step (by repeat (first | (with_reducible first | exact HB.out | apply below_alloc | apply pw_below_drewN | apply below_drew1 | refine below_set ?_ GE724.out | refine below_set ?_ GE737.out | refine below_set ?_ GE755.out) | exact HB.out)) hb); clear HO_725000; clear HO_725006; clear HO_738000; clear HO_738006; clear HO745; clear HO753; clear BK724; clear BK737; clear BK755; clear HB; have HO_725000 := n0_; have HO_725006 := n1_; have HO_738000 := n2_; have HO_738006 := n3_; have HO745 := n4_; have HO753 := n5_; have BK724 := n6_; have BK737 := n7_; have BK755 := n8_; have HB := n9_; clear n0_ n1_ n2_ n3_ n4_ n5_ n6_ n7_ n8_ n9_; (try clear hb); (try clear hb2); (try clear hk); (try clear hi)))
                go_meet
                case rel => exact ⟨_, (true), (by first | rfl | (simp; done) | (simp [*]; done)), H', ⟨by have := HJ5.out; first | omega | exact Nat.le_refl _⟩, ⟨by (with_reducible repeat (first | apply Kd.R_alloc | apply Kd.R_drewN | apply Kd.R_drew)); exact HO_725000.out⟩, ⟨by (with_reducible repeat (first | apply Kd.R_alloc | apply Kd.R_drewN | apply Kd.R_drew)); exact HO_725006.out⟩, ⟨by (with_reducible repeat (first | apply Kd.R_alloc | apply Kd.R_drewN | apply Kd.R_drew)); exact HO_738000.out⟩, ⟨by (with_reducible repeat (first | apply Kd.R_alloc | apply Kd.R_drewN | apply Kd.R_drew)); exact HO_738006.out⟩, ⟨by (with_reducible repeat (first | apply Kd.R_alloc | apply Kd.R_drewN | apply Kd.R_drew)); exact Kd.R_mono HO745.out (fun _ hk => ⟨hk.1.2, hk.2⟩)⟩, ⟨by (with_reducible repeat (first | apply Kd.R_alloc | apply Kd.R_drewN | apply Kd.R_drew)); exact Kd.R_mono HO753.out (fun _ hk => ⟨hk.1.2, hk.2⟩)⟩, ⟨by (with_reducible repeat (first | refine blk_drewN ?_ _ | refine blk_drew ?_ | refine blk_alloc ?_ _)); exact BK724.out⟩, ⟨by (with_reducible repeat (first | refine blk_drewN ?_ _ | refine blk_drew ?_ | refine blk_alloc ?_ _)); exact BK737.out⟩, ⟨by (with_reducible repeat (first | refine blk_drewN ?_ _ | refine blk_drew ?_ | refine blk_alloc ?_ _)); exact BK755.out⟩, ⟨by repeat (first | (with_reducible first | exact HB.out | apply below_alloc | apply pw_below_drewN | apply below_drew1 | refine below_set ?_ GE724.out | refine below_set ?_ GE737.out | refine below_set ?_ GE755.out) | exact HB.out)⟩⟩
            case rest =>
              clear HC34
              try clear c1
              try clear c2
              try clear p2
              try clear c3
              try clear c4
              try clear c5
              try clear c12
              try clear c15
              try clear c19
              try clear c20
              try clear c24
              try clear c28
              try clear c31
              try clear c31b0
              try clear c32
              try clear c32b0
              try clear c32b1
              try clear c35
              try clear c43
              try clear c44
              try clear c48
              try clear c49
              try clear c50
              try clear c51
              try clear c52
              try clear c53
              try clear c54
              try clear c55
              try clear c56
              try clear c58
              try clear hcz10_0
              try clear hcz10_1
              try clear hcz10_2
              try clear hcz10_3
              try clear hcz10_4
              try clear hcz10_5
              try clear hcz10_6
              try clear hcz16_0
              try clear hcz16_1
              try clear hcz16_2
              try clear hcz16_3
              try clear hcz16_4
              try clear hcz16_5
              try clear hcz16_6
              try clear hcz21_0
              try clear hcz21_1
              try clear hcz21_2
              try clear hcz21_3
              try clear hcz21_4
              try clear hcz21_5
              try clear hcz21_6
              try clear hcz22_0
              try clear hcz22_1
              try clear hcz22_2
              try clear hcz22_3
              try clear hcz22_4
              try clear hcz22_5
              try clear hcz22_6
              try clear hcz25_0
              try clear hcz25_1
              try clear hcz25_2
              try clear hcz25_3
              try clear hcz25_4
              try clear hcz25_5
              try clear hcz25_6
              try clear hcz26_0
              try clear hcz26_1
              try clear hcz26_2
              try clear hcz26_3
              try clear hcz26_4
              try clear hcz26_5
              try clear hcz26_6
              try clear hcz36_0
              try clear hcz36_1
              try clear hcz36_2
              try clear hcz36_3
              try clear hcz36_4
              try clear hcz36_5
              try clear hcz36_6
              try clear hcz38_0
              try clear hcz38_1
              try clear hcz38_2
              try clear hcz38_3
              try clear hcz38_4
              try clear hcz38_5
              try clear hcz38_6
              try clear hcz45_0
              try clear hcz45_1
              try clear hcz45_2
              try clear hcz45_3
              try clear hcz45_4
              try clear hcz45_5
              try clear hcz45_6
              try clear hcz51_0
              try clear hcz51_1
              try clear hcz51_2
              try clear hcz51_3
              try clear hcz51_4
              try clear hcz51_5
              try clear hcz51_6
              try clear hcz53_0
              try clear hcz53_1
              try clear hcz53_2
              try clear hcz53_3
              try clear hcz53_4
              try clear hcz53_5
              try clear hcz53_6
              try clear hcz57_0
              try clear hcz57_1
              try clear hcz57_2
              try clear hcz57_3
              try clear hcz57_4
              try clear hcz57_5
              try clear hcz57_6
              try clear hcz59_0
              try clear hcz59_1
              try clear hcz59_2
              try clear hcz59_3
              try clear hcz59_4
              try clear hcz59_5
              try clear hcz59_6
              try clear hfz10_0
              try clear hfz10_1
              try clear hfz10_2
              try clear hfz10_3
              try clear hfz10_4
              try clear hfz10_5
              try clear hfz10_6
              try clear hfz16_0
              try clear hfz16_1
              try clear hfz16_2
              try clear hfz16_3
              try clear hfz16_4
              try clear hfz16_5
              try clear hfz16_6
              try clear hfz21_0
              try clear hfz21_1
              try clear hfz21_2
              try clear hfz21_3
              try clear hfz21_4
              try clear hfz21_5
              try clear hfz21_6
              try clear hfz22_0
              try clear hfz22_1
              try clear hfz22_2
              try clear hfz22_3
              try clear hfz22_4
              try clear hfz22_5
              try clear hfz22_6
              try clear hfz25_0
              try clear hfz25_1
              try clear hfz25_2
              try clear hfz25_3
              try clear hfz25_4
              try clear hfz25_5
              try clear hfz25_6
              try clear hfz26_0
              try clear hfz26_1
              try clear hfz26_2
              try clear hfz26_3
              try clear hfz26_4
              try clear hfz26_5
              try clear hfz26_6
              try clear hfz36_0
              try clear hfz36_1
              try clear hfz36_2
              try clear hfz36_3
              try clear hfz36_4
              try clear hfz36_5
              try clear hfz36_6
              try clear hfz38_0
              try clear hfz38_1
              try clear hfz38_2
              try clear hfz38_3
              try clear hfz38_4
              try clear hfz38_5
              try clear hfz38_6
              try clear hfz45_0
              try clear hfz45_1
              try clear hfz45_2
              try clear hfz45_3
              try clear hfz45_4
              try clear hfz45_5
              try clear hfz45_6
              try clear hfz51_0
              try clear hfz51_1
              try clear hfz51_2
              try clear hfz51_3
              try clear hfz51_4
              try clear hfz51_5
              try clear hfz51_6
              try clear hfz53_0
              try clear hfz53_1
              try clear hfz53_2
              try clear hfz53_3
              try clear hfz53_4
              try clear hfz53_5
              try clear hfz53_6
              try clear hfz57_0
              try clear hfz57_1
              try clear hfz57_2
              try clear hfz57_3
              try clear hfz57_4
              try clear hfz57_5
              try clear hfz57_6
              try clear hfz59_0
              try clear hfz59_1
              try clear hfz59_2
              try clear hfz59_3
              try clear hfz59_4
              try clear hfz59_5
              try clear hfz59_6
              try clear p2
              obtain ⟨kq, x64_33, rfl, HA, HJ33, HO_725000, HO_725006, HO_738000, HO_738006, HO_756000, HO_756006, BK724, BK737, BK755, HB⟩ := hcut
              have hl738000_33 := (Kd.R_reads' HO_738000.out).1
              rw [hl738000_33] at HO_738000
              (try simp only [hl738000_33])
              (try simp only [hl738000_33] at BK724)
              (try simp only [hl738000_33] at BK737)
              (try simp only [hl738000_33] at BK755)
              (try simp only [hl738000_33] at HO_725000)
              (try simp only [hl738000_33] at HO_725006)
              (try simp only [hl738000_33] at HO_738006)
              (try simp only [hl738000_33] at HO_756000)
              (try simp only [hl738000_33] at HO_756006)
              have hl738006_33 := (Kd.R_reads' HO_738006.out).1
              rw [hl738006_33] at HO_738006
              (try simp only [hl738006_33])
              (try simp only [hl738006_33] at BK724)
              (try simp only [hl738006_33] at BK737)
              (try simp only [hl738006_33] at BK755)
              (try simp only [hl738006_33] at HO_725000)
              (try simp only [hl738006_33] at HO_725006)
              (try simp only [hl738006_33] at HO_738000)
              (try simp only [hl738006_33] at HO_756000)
              (try simp only [hl738006_33] at HO_756006)
              cases kq with
              | zero => exact absurd HA.out (by simp [laws_FnExactArchNew.j1])
              | succ kj33 =>
                have H := HA.out
                clear HA
                simp only [laws_FnExactArchNew.j1] at H
                by_cases c61 : x64_33 = true
                · subst c61
                  have H1 : (none) = some r := by rw [if_pos rfl] at H; exact H
                  clear H
                  have H := H1
                  clear H1
                  exact absurd H (by simp)
                · replace c61 := Bool.eq_false_iff.mpr c61
                  subst c61
                  have H1 : ((laws_heldArchive.f kj33 t740 t728 t729 t730 t731 t732 t741 1).bind fun t757 => (if t757 < 0 then (none) else (if t757 = t739 then (some true) else (none)))) = some r := by rw [if_neg (show ¬ (false = true) by decide)] at H; exact H
                  clear H
                  have H := H1
                  clear H1
                  replace H := Option.bind_eq_some_iff.mp H
                  obtain ⟨t757, A620, H⟩ := H
                  replace H : (if t757 < 0 then (none) else (if t757 = t739 then (some true) else (none))) = some r := H
                  have A62 := Aside0.mk A620
                  clear A620
                  by_cases c63 : t757 < 0
                  · rw [if_pos c63] at H
                    exact absurd H (by simp)
                  · rw [if_neg c63] at H
                    have c63b0 : decide (t757 < 0) = false := decide_eq_false c63
                    clear c63
                    by_cases c64 : t757 = t739
                    · rw [if_pos c64] at H
                      have c64b0 : (t757 == t739) = true := beq_iff_eq.mpr c64
                      have c64b1 : (t757 != t739) = false := bne_eq_false_iff_eq.mpr c64
                      clear c64
                      obtain rfl := Option.some.inj H
                      have hnb65 := NB737_724.out
                      have hnc65 := NB724_737.out
                      have hnb66 := NB737_755.out
                      have hnc66 := NB755_737.out
                      have hcz67_0 : wc.cell? ⟨gb737, 0, none⟩ = some (.slice Ao14 t740.length co14) := (blk_cell BK737.out 0).trans rfl
                      have hcz67_1 : wc.cell? ⟨gb737, 1, none⟩ = some (.int .i64 t728) := (blk_cell BK737.out 1).trans rfl
                      have hcz67_2 : wc.cell? ⟨gb737, 2, none⟩ = some (.int .i64 t729) := (blk_cell BK737.out 2).trans rfl
                      have hcz67_3 : wc.cell? ⟨gb737, 3, none⟩ = some (.int .i64 t730) := (blk_cell BK737.out 3).trans rfl
                      have hcz67_4 : wc.cell? ⟨gb737, 4, none⟩ = some (.int .i64 t731) := (blk_cell BK737.out 4).trans rfl
                      have hcz67_5 : wc.cell? ⟨gb737, 5, none⟩ = some (.int .i64 t732) := (blk_cell BK737.out 5).trans rfl
                      have hcz67_6 : wc.cell? ⟨gb737, 6, none⟩ = some (.slice Ao17 t741.length co17) := (blk_cell BK737.out 6).trans rfl
                      have hfz67_0 := blk_frozen BK737.out 0
                      have hfz67_1 := blk_frozen BK737.out 1
                      have hfz67_2 := blk_frozen BK737.out 2
                      have hfz67_3 := blk_frozen BK737.out 3
                      have hfz67_4 := blk_frozen BK737.out 4
                      have hfz67_5 := blk_frozen BK737.out 5
                      have hfz67_6 := blk_frozen BK737.out 6
                      go_wp2_with (first | ((with_reducible refine gate_callee (f := 55) rfl ?_); refine goesL_ (some 67) rfl rfl Try.func55 (by kernel_rfl) rfl #[.agg #[.slice Ao14 t740.length co14, .int .i64 t728, .int .i64 t729, .int .i64 t730, .int .i64 t731, .int .i64 t732, .slice Ao17 t741.length co17], .int .i64 1] rfl (by (try simp only [List.map_toArray, List.map_cons, List.map_nil]); first | done | rfl | (simp only [List.length_drop, List.length_take]; rfl)) ?_; (with_reducible refine (laws_heldArchive.calls kj33 _ _ t740 t728 t729 t730 t731 t732 _ _ t741 1 t757 _ ?side1 ?side2 ?side3 ?side4 A62.out).mono ?_); (case side1 => repeat (first | exact (Kd.R_reads' HO_738000.out).2.2 | (with_reducible refine Kd.C_alloc ?_ _) | (with_reducible refine Kd.C_drewN ?_ _) | (with_reducible refine Kd.C_drew ?_))); (case side2 => exact (Kd.R_reads' HO_738000.out).2.1); (case side3 => repeat (first | exact (Kd.R_reads' HO_738006.out).2.2 | (with_reducible refine Kd.C_alloc ?_ _) | (with_reducible refine Kd.C_drewN ?_ _) | (with_reducible refine Kd.C_drew ?_))); (case side4 => exact (Kd.R_reads' HO_738006.out).2.1); rintro e w68 ⟨rfl, hb⟩; refine ⟨_, rfl, ?_⟩; have n0_ := Aside0.mk (Kd.R_below (by (with_reducible repeat (first | apply Kd.R_alloc | apply Kd.R_drewN | apply Kd.R_drew)); exact HO_725000.out) hb); have n1_ := Aside0.mk (Kd.R_below (by (with_reducible repeat (first | apply Kd.R_alloc | apply Kd.R_drewN | apply Kd.R_drew)); exact HO_725006.out) hb); have n2_ := Aside0.mk (Kd.R_below (by (with_reducible repeat (first | apply Kd.R_alloc | apply Kd.R_drewN | apply Kd.R_drew)); exact HO_738000.out) hb); have n3_ := Aside0.mk (Kd.R_below (by (with_reducible repeat (first | apply Kd.R_alloc | apply Kd.R_drewN | apply Kd.R_drew)); exact HO_738006.out) hb); have n4_ := Aside0.mk (Kd.R_below (by (with_reducible repeat (first | apply Kd.R_alloc | apply Kd.R_drewN | apply Kd.R_drew)); exact HO_756000.out) hb); have n5_ := Aside0.mk (Kd.R_below (by (with_reducible repeat (first | apply Kd.R_alloc | apply Kd.R_drewN | apply Kd.R_drew)); exact HO_756006.out) hb); have n6_ := Aside0.mk (blk_below (g := gb724) (o := .cells #[.slice Ao9 t712.length co9, .int .i64 t715, .int .i64 t716, .int .i64 t717, .int .i64 t718, .int .i64 t719, .slice Ao11 t720.length co11] 61 (0, 0)) (by (with_reducible repeat (first | refine blk_drewN ?_ _ | refine blk_drew ?_ | refine blk_alloc ?_ _)); exact BK724.out) hb); have n7_ := Aside0.mk (blk_below (g := gb737) (o := .cells #[.slice Ao14 t740.length co14, .int .i64 t728, .int .i64 t729, .int .i64 t730, .int .i64 t731, .int .i64 t732, .slice Ao17 t741.length co17] 61 (0, 0)) (by (with_reducible repeat (first | refine blk_drewN ?_ _ | refine blk_drew ?_ | refine blk_alloc ?_ _)); exact BK737.out) hb); have n8_ := Aside0.mk (blk_below (g := gb755) (o := .cells #[.slice Ao42 t743.length co42, .int .i64 t746, .int .i64 t747, .int .i64 t748, .int .i64 t749, .int .i64 t750, .slice Ao46 t751.length co46] 61 (0, 0)) (by (with_reducible repeat (first | refine blk_drewN ?_ _ | refine blk_drew ?_ | refine blk_alloc ?_ _)); exact BK755.out) hb); have n9_ := Aside0.mk (below_step (by repeat (first | (with_reducible first | exact HB.out | apply below_alloc | apply pw_below_drewN | apply below_drew1 | refine below_set ?_ GE724.out | refine below_set ?_ GE737.out | refine below_set ?_ GE755.out) | exact HB.out)) hb); clear HO_725000; clear HO_725006; clear HO_738000; clear HO_738006; clear HO_756000; clear HO_756006; clear BK724; clear BK737; clear BK755; clear HB; have HO_725000 := n0_; have HO_725006 := n1_; have HO_738000 := n2_; have HO_738006 := n3_; have HO_756000 := n4_; have HO_756006 := n5_; have BK724 := n6_; have BK737 := n7_; have BK755 := n8_; have HB := n9_; clear n0_ n1_ n2_ n3_ n4_ n5_ n6_ n7_ n8_ n9_; (try clear hb); (try clear hb2); (try clear hk); (try clear hi)))
                      go_ret
                      exact ⟨by first | rfl | (simp [errW_none, errW_some] <;> rfl) | (simp [*, errW_none, errW_some] <;> rfl), by repeat (first | (with_reducible first | exact HB.out | apply below_alloc | apply pw_below_drewN | apply below_drew1 | refine below_set ?_ GE724.out | refine below_set ?_ GE737.out | refine below_set ?_ GE755.out) | exact HB.out)⟩
                    · rw [if_neg c64] at H
                      exact absurd H (by simp)
          · rw [if_neg c32] at H
            exact absurd H (by simp)

/-- THE ONE PURE STATEMENT of laws_FnExactArchNew: yours. -/
def laws_FnExactArchNew.Pure : Prop := ∀ (a0 : Int) (a1 : Int) (a2 : Int), (Lit.int .i64 a0).wf = true → (Lit.int .i64 a1).wf = true → (Lit.int .i64 a2).wf = true → ∃ k, laws_FnExactArchNew.f k a0 a1 a2 = some true
theorem laws_FnExactArchNew.walk (P : laws_FnExactArchNew.Pure) (a0 : Int) (a1 : Int) (a2 : Int) (w : World) (w0 : (Lit.int .i64 a0).wf = true) (w1 : (Lit.int .i64 a1).wf = true) (w2 : (Lit.int .i64 a2).wf = true) :
    Calls Try.prog 12 #[.int .i64 a0, .int .i64 a1, .int .i64 a2] w fun e w' => e = .returned (.bool true) ∧ Below w.heap.size w w' := by
  obtain ⟨k, h⟩ := P a0 a1 a2 w0 w1 w2
  refine (laws_FnExactArchNew.calls k a0 a1 a2 true w h).mono ?_
  rintro e w' ⟨rfl, hd⟩
  exact ⟨rfl, hd⟩

end Go.Proofs.Ytahgiblifkchaaa.P
