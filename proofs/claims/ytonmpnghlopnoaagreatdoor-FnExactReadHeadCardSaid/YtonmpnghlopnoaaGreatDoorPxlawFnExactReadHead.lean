-- Written by a program of ours (myprint.py, by way of the kit's print) out of Lean's print of the translation.
import Derived.Test.YtonmpnghlopnoaaGreatDoorPx0
import Derived.Test.YtonmpnghlopnoaaGreatDoorPxauxc
import Derived.Test.YtonmpnghlopnoaaGreatDoorPxauxd
import Derived.Test.YtonmpnghlopnoaaGreatDoorPxauxe
import Derived.Test.YtonmpnghlopnoaaGreatDoorPximpl06c
import Derived.Test.YtonmpnghlopnoaaGreatDoorPxspec06d
import Derived.Test.YtonmpnghlopnoaaGreatDoorWC
namespace Go.Proofs.YtonmpnghlopnoaaGreatDoor.P
open Go.RowKit Go.Proofs.YtonmpnghlopnoaaGreatDoorW.PrintWords Go.Proofs.YtonmpnghlopnoaaGreatDoorW.PrintLast Go.Proofs.YtonmpnghlopnoaaGreatDoorW.PrintMore
attribute [local go_sem] max2_int min2_int max_two min_two max_three min_three max_four min_four   -- for this text's walks alone
set_option linter.unusedVariables false
set_option linter.unusedSimpArgs false

mutual
def laws_FnExactReadHead.j0 : Nat → ByteArray → Bool → Int → Int → Bool → ByteArray → ByteArray → Int → ByteArray → Bool → List (S41) → ByteArray → ByteArray → ByteArray → Int → ByteArray → Bool → List (S41) → ByteArray → Option (Bool)
 | 0, _, _, _, _, _, _, _, _, _, _, _, _, _, _, _, _, _, _, _ => none
 | k + 1, x0, x1, x6, x7, x46, x585000, x585001, x585002, x585003, x585004, x585005, x585006, x597000, x597001, x597002, x597003, x597004, x597005, x597006 => if x46 = true then (none) else ((laws_markMsg.f k x597000 x597001 x597002 x597003 x597004 x597005 x597006 1).bind fun bt598 => ((laws_heldMsg.f k x597000 x597001 x597002 x597003 x597004 bt598.2 x597006 1).bind fun t600 => (if t600 < 0 then (none) else (if t600 = bt598.1 then ((impl_ReadHead.f k x0 x1).bind fun bt601 => ((laws_eqMsg.f k bt601.1 bt601.2.1 bt601.2.2.1 bt601.2.2.2.1 bt601.2.2.2.2.1 bt601.2.2.2.2.2.1 bt601.2.2.2.2.2.2.1 x585000 x585001 x585002 x585003 x585004 x585005 x585006).bind fun t613 => (if t613 = true then (if bt601.2.2.2.2.2.2.2.1 = x6 then (laws_FnExactReadHead.j1 k bt598.1 (bt601.2.2.2.2.2.2.2.2 != x7) x597000 x597001 x597002 x597003 x597004 bt598.2 x597006) else (laws_FnExactReadHead.j1 k bt598.1 true x597000 x597001 x597002 x597003 x597004 bt598.2 x597006)) else (laws_FnExactReadHead.j1 k bt598.1 true x597000 x597001 x597002 x597003 x597004 bt598.2 x597006)))) else (none)))))
def laws_FnExactReadHead.j1 : Nat → Int → Bool → ByteArray → ByteArray → Int → ByteArray → Bool → List (S41) → ByteArray → Option (Bool)
 | 0, _, _, _, _, _, _, _, _, _ => none
 | k + 1, x11, x78, x597000, x597001, x597002, x597003, x597004, x597005, x597006 => if x78 = true then (none) else ((laws_heldMsg.f k x597000 x597001 x597002 x597003 x597004 x597005 x597006 1).bind fun t614 => (if t614 < 0 then (none) else (if t614 = x11 then (some true) else (none))))
end
def laws_FnExactReadHead.f (k : Nat) (a0 : ByteArray) (a1 : Bool) : Option (Bool) := if (a0.size : Int) > 1048576 then (some true) else ((spec_ReadHead.f k a0 a1).bind fun bt573 => ((impl_ReadHead.f k a0 a1).bind fun bt585 => ((laws_eqMsg.f k bt585.1 bt585.2.1 bt585.2.2.1 bt585.2.2.2.1 bt585.2.2.2.2.1 bt585.2.2.2.2.2.1 bt585.2.2.2.2.2.2.1 bt573.1 bt573.2.1 bt573.2.2.1 bt573.2.2.2.1 bt573.2.2.2.2.1 bt573.2.2.2.2.2.1 bt573.2.2.2.2.2.2.1).bind fun t597 => (if t597 = true then (if bt585.2.2.2.2.2.2.2.1 = bt573.2.2.2.2.2.2.2.1 then (laws_FnExactReadHead.j0 k a0 a1 bt573.2.2.2.2.2.2.2.1 bt573.2.2.2.2.2.2.2.2 (bt585.2.2.2.2.2.2.2.2 != bt573.2.2.2.2.2.2.2.2) bt573.1 bt573.2.1 bt573.2.2.1 bt573.2.2.2.1 bt573.2.2.2.2.1 bt573.2.2.2.2.2.1 bt573.2.2.2.2.2.2.1 bt585.1 bt585.2.1 bt585.2.2.1 bt585.2.2.2.1 bt585.2.2.2.2.1 bt585.2.2.2.2.2.1 bt585.2.2.2.2.2.2.1) else (laws_FnExactReadHead.j0 k a0 a1 bt573.2.2.2.2.2.2.2.1 bt573.2.2.2.2.2.2.2.2 true bt573.1 bt573.2.1 bt573.2.2.1 bt573.2.2.2.1 bt573.2.2.2.2.1 bt573.2.2.2.2.2.1 bt573.2.2.2.2.2.2.1 bt585.1 bt585.2.1 bt585.2.2.1 bt585.2.2.2.1 bt585.2.2.2.2.1 bt585.2.2.2.2.2.1 bt585.2.2.2.2.2.2.1)) else (laws_FnExactReadHead.j0 k a0 a1 bt573.2.2.2.2.2.2.2.1 bt573.2.2.2.2.2.2.2.2 true bt573.1 bt573.2.1 bt573.2.2.1 bt573.2.2.2.1 bt573.2.2.2.2.1 bt573.2.2.2.2.2.1 bt573.2.2.2.2.2.2.1 bt585.1 bt585.2.1 bt585.2.2.1 bt585.2.2.2.1 bt585.2.2.2.2.1 bt585.2.2.2.2.2.1 bt585.2.2.2.2.2.2.1)))))
theorem laws_FnExactReadHead.mono_l : ∀ k, (∀ y0 y1 y2 y3 y4 y5 y6 y7 y8 y9 y10 y11 y12 y13 y14 y15 y16 y17 y18, LeO (laws_FnExactReadHead.j0 k y0 y1 y2 y3 y4 y5 y6 y7 y8 y9 y10 y11 y12 y13 y14 y15 y16 y17 y18) (laws_FnExactReadHead.j0 (k + 1) y0 y1 y2 y3 y4 y5 y6 y7 y8 y9 y10 y11 y12 y13 y14 y15 y16 y17 y18)) ∧ (∀ y0 y1 y2 y3 y4 y5 y6 y7 y8, LeO (laws_FnExactReadHead.j1 k y0 y1 y2 y3 y4 y5 y6 y7 y8) (laws_FnExactReadHead.j1 (k + 1) y0 y1 y2 y3 y4 y5 y6 y7 y8))
 | 0 => ⟨fun _ _ _ _ _ _ _ _ _ _ _ _ _ _ _ _ _ _ _ r h => by simp [laws_FnExactReadHead.j0] at h, fun _ _ _ _ _ _ _ _ _ r h => by simp [laws_FnExactReadHead.j1] at h⟩
 | k + 1 => by
  obtain ⟨ih0, ih1⟩ := laws_FnExactReadHead.mono_l k
  refine ⟨?_, ?_⟩
  ·intro y0 y1 y2 y3 y4 y5 y6 y7 y8 y9 y10 y11 y12 y13 y14 y15 y16 y17 y18
   unfold laws_FnExactReadHead.j0
   repeat' first
   | (with_reducible exact ih0 _ _ _ _ _ _ _ _ _ _ _ _ _ _ _ _ _ _ _)
   | (with_reducible exact ih1 _ _ _ _ _ _ _ _ _)
   | (with_reducible exact impl_ReadHead.mono _ _ _)
   | (with_reducible exact laws_eqMsg.mono _ _ _ _ _ _ _ _ _ _ _ _ _ _ _)
   | (with_reducible exact laws_heldMsg.mono _ _ _ _ _ _ _ _ _)
   | (with_reducible exact laws_markMsg.mono _ _ _ _ _ _ _ _ _)
   | (with_reducible exact spec_ReadHead.mono _ _ _)
   | (with_reducible exact LeO.refl _)
   | (with_reducible exact LeO.none _)
   | (with_reducible refine LeO.ite ?_ ?_)
   | (with_reducible refine LeO.bind ?_ (fun _ => ?_))
   | exact ih0 _ _ _ _ _ _ _ _ _ _ _ _ _ _ _ _ _ _ _
   | exact ih1 _ _ _ _ _ _ _ _ _
   | exact impl_ReadHead.mono _ _ _
   | exact laws_eqMsg.mono _ _ _ _ _ _ _ _ _ _ _ _ _ _ _
   | exact laws_heldMsg.mono _ _ _ _ _ _ _ _ _
   | exact laws_markMsg.mono _ _ _ _ _ _ _ _ _
   | exact spec_ReadHead.mono _ _ _
   | exact LeO.none _
   | refine LeO.ite ?_ ?_
   | refine LeO.bind ?_ (fun _ => ?_)
  ·intro y0 y1 y2 y3 y4 y5 y6 y7 y8
   unfold laws_FnExactReadHead.j1
   repeat' first
   | (with_reducible exact ih0 _ _ _ _ _ _ _ _ _ _ _ _ _ _ _ _ _ _ _)
   | (with_reducible exact ih1 _ _ _ _ _ _ _ _ _)
   | (with_reducible exact impl_ReadHead.mono _ _ _)
   | (with_reducible exact laws_eqMsg.mono _ _ _ _ _ _ _ _ _ _ _ _ _ _ _)
   | (with_reducible exact laws_heldMsg.mono _ _ _ _ _ _ _ _ _)
   | (with_reducible exact laws_markMsg.mono _ _ _ _ _ _ _ _ _)
   | (with_reducible exact spec_ReadHead.mono _ _ _)
   | (with_reducible exact LeO.refl _)
   | (with_reducible exact LeO.none _)
   | (with_reducible refine LeO.ite ?_ ?_)
   | (with_reducible refine LeO.bind ?_ (fun _ => ?_))
   | exact ih0 _ _ _ _ _ _ _ _ _ _ _ _ _ _ _ _ _ _ _
   | exact ih1 _ _ _ _ _ _ _ _ _
   | exact impl_ReadHead.mono _ _ _
   | exact laws_eqMsg.mono _ _ _ _ _ _ _ _ _ _ _ _ _ _ _
   | exact laws_heldMsg.mono _ _ _ _ _ _ _ _ _
   | exact laws_markMsg.mono _ _ _ _ _ _ _ _ _
   | exact spec_ReadHead.mono _ _ _
   | exact LeO.none _
   | refine LeO.ite ?_ ?_
   | refine LeO.bind ?_ (fun _ => ?_)
theorem laws_FnExactReadHead.mono : ∀ a0 a1 k, LeO (laws_FnExactReadHead.f k a0 a1) (laws_FnExactReadHead.f (k + 1) a0 a1) := by
 intro a0 a1 k
 obtain ⟨ih0, ih1⟩ := laws_FnExactReadHead.mono_l k
 unfold laws_FnExactReadHead.f
 repeat' first
   | (with_reducible exact ih0 _ _ _ _ _ _ _ _ _ _ _ _ _ _ _ _ _ _ _)
   | (with_reducible exact ih1 _ _ _ _ _ _ _ _ _)
   | (with_reducible exact impl_ReadHead.mono _ _ _)
   | (with_reducible exact laws_eqMsg.mono _ _ _ _ _ _ _ _ _ _ _ _ _ _ _)
   | (with_reducible exact laws_heldMsg.mono _ _ _ _ _ _ _ _ _)
   | (with_reducible exact laws_markMsg.mono _ _ _ _ _ _ _ _ _)
   | (with_reducible exact spec_ReadHead.mono _ _ _)
   | (with_reducible exact LeO.refl _)
   | (with_reducible exact LeO.none _)
   | (with_reducible refine LeO.ite ?_ ?_)
   | (with_reducible refine LeO.bind ?_ (fun _ => ?_))
   | exact ih0 _ _ _ _ _ _ _ _ _ _ _ _ _ _ _ _ _ _ _
   | exact ih1 _ _ _ _ _ _ _ _ _
   | exact impl_ReadHead.mono _ _ _
   | exact laws_eqMsg.mono _ _ _ _ _ _ _ _ _ _ _ _ _ _ _
   | exact laws_heldMsg.mono _ _ _ _ _ _ _ _ _
   | exact laws_markMsg.mono _ _ _ _ _ _ _ _ _
   | exact spec_ReadHead.mono _ _ _
   | exact LeO.none _
   | refine LeO.ite ?_ ?_
   | refine LeO.bind ?_ (fun _ => ?_)
set_option maxHeartbeats 8000000 in
set_option maxRecDepth 100000 in
theorem laws_FnExactReadHead.calls (k : Nat) (a0 : ByteArray) (a1 : Bool) (r : Bool) (w : World) (h : laws_FnExactReadHead.f k a0 a1 = some r) :
  Calls Tryz.prog 3 #[.string a0, .bool a1] w fun e w' => e = .returned (.bool r) ∧ Below w.heap.size w w' := by
 have hu24 := Tryz.underlying24
 have HB := Aside0.mk (Below.refl w.heap.size w)
 have H : (if (a0.size : Int) > 1048576 then (some true) else ((spec_ReadHead.f k a0 a1).bind fun bt573 => ((impl_ReadHead.f k a0 a1).bind fun bt585 => ((laws_eqMsg.f k bt585.1 bt585.2.1 bt585.2.2.1 bt585.2.2.2.1 bt585.2.2.2.2.1 bt585.2.2.2.2.2.1 bt585.2.2.2.2.2.2.1 bt573.1 bt573.2.1 bt573.2.2.1 bt573.2.2.2.1 bt573.2.2.2.2.1 bt573.2.2.2.2.2.1 bt573.2.2.2.2.2.2.1).bind fun t597 => (if t597 = true then (if bt585.2.2.2.2.2.2.2.1 = bt573.2.2.2.2.2.2.2.1 then (laws_FnExactReadHead.j0 k a0 a1 bt573.2.2.2.2.2.2.2.1 bt573.2.2.2.2.2.2.2.2 (bt585.2.2.2.2.2.2.2.2 != bt573.2.2.2.2.2.2.2.2) bt573.1 bt573.2.1 bt573.2.2.1 bt573.2.2.2.1 bt573.2.2.2.2.1 bt573.2.2.2.2.2.1 bt573.2.2.2.2.2.2.1 bt585.1 bt585.2.1 bt585.2.2.1 bt585.2.2.2.1 bt585.2.2.2.2.1 bt585.2.2.2.2.2.1 bt585.2.2.2.2.2.2.1) else (laws_FnExactReadHead.j0 k a0 a1 bt573.2.2.2.2.2.2.2.1 bt573.2.2.2.2.2.2.2.2 true bt573.1 bt573.2.1 bt573.2.2.1 bt573.2.2.2.1 bt573.2.2.2.2.1 bt573.2.2.2.2.2.1 bt573.2.2.2.2.2.2.1 bt585.1 bt585.2.1 bt585.2.2.1 bt585.2.2.2.1 bt585.2.2.2.2.1 bt585.2.2.2.2.2.1 bt585.2.2.2.2.2.2.1)) else (laws_FnExactReadHead.j0 k a0 a1 bt573.2.2.2.2.2.2.2.1 bt573.2.2.2.2.2.2.2.2 true bt573.1 bt573.2.1 bt573.2.2.1 bt573.2.2.2.1 bt573.2.2.2.2.1 bt573.2.2.2.2.2.1 bt573.2.2.2.2.2.2.1 bt585.1 bt585.2.1 bt585.2.2.1 bt585.2.2.2.1 bt585.2.2.2.2.1 bt585.2.2.2.2.2.1 bt585.2.2.2.2.2.2.1)))))) = some r := h
 clear h
 by_cases c3 : (a0.size : Int) > 1048576
 ·rw [if_pos c3] at H
  have c3b0 : decide (1048576 < (a0.size : Int)) = true := decide_eq_true c3
  have c3b1 : decide (1048576 < a0.size) = true := decide_eq_true (by omega)
  clear c3
  obtain rfl := Option.some.inj H
  go_enter Tryz.func3, Tryz.ntmps3
  go_wp2
  go_ret
  exact ⟨gq2, gBe⟩
 ·rw [if_neg c3] at H
  have c3b0 : decide (1048576 < (a0.size : Int)) = false := decide_eq_false c3
  have c3b1 : decide (1048576 < a0.size) = false := decide_eq_false (by omega)
  clear c3
  replace H := Option.bind_eq_some_iff.mp H
  obtain ⟨⟨t573, t574, t575, t576, t577, t578, t581, t582, t583⟩, A40, H⟩ := H
  replace H : ((impl_ReadHead.f k a0 a1).bind fun bt585 => ((laws_eqMsg.f k bt585.1 bt585.2.1 bt585.2.2.1 bt585.2.2.2.1 bt585.2.2.2.2.1 bt585.2.2.2.2.2.1 bt585.2.2.2.2.2.2.1 t573 t574 t575 t576 t577 t578 t581).bind fun t597 => (if t597 = true then (if bt585.2.2.2.2.2.2.2.1 = t582 then (laws_FnExactReadHead.j0 k a0 a1 t582 t583 (bt585.2.2.2.2.2.2.2.2 != t583) t573 t574 t575 t576 t577 t578 t581 bt585.1 bt585.2.1 bt585.2.2.1 bt585.2.2.2.1 bt585.2.2.2.2.1 bt585.2.2.2.2.2.1 bt585.2.2.2.2.2.2.1) else (laws_FnExactReadHead.j0 k a0 a1 t582 t583 true t573 t574 t575 t576 t577 t578 t581 bt585.1 bt585.2.1 bt585.2.2.1 bt585.2.2.2.1 bt585.2.2.2.2.1 bt585.2.2.2.2.2.1 bt585.2.2.2.2.2.2.1)) else (laws_FnExactReadHead.j0 k a0 a1 t582 t583 true t573 t574 t575 t576 t577 t578 t581 bt585.1 bt585.2.1 bt585.2.2.1 bt585.2.2.2.1 bt585.2.2.2.2.1 bt585.2.2.2.2.2.1 bt585.2.2.2.2.2.2.1)))) = some r := H
  have A4 := Aside0.mk A40
  clear A40
  replace H := Option.bind_eq_some_iff.mp H
  obtain ⟨⟨t585, t586, t587, t588, t589, t590, t593, t594, t595⟩, A50, H⟩ := H
  replace H : ((laws_eqMsg.f k t585 t586 t587 t588 t589 t590 t593 t573 t574 t575 t576 t577 t578 t581).bind fun t597 => (if t597 = true then (if t594 = t582 then (laws_FnExactReadHead.j0 k a0 a1 t582 t583 (t595 != t583) t573 t574 t575 t576 t577 t578 t581 t585 t586 t587 t588 t589 t590 t593) else (laws_FnExactReadHead.j0 k a0 a1 t582 t583 true t573 t574 t575 t576 t577 t578 t581 t585 t586 t587 t588 t589 t590 t593)) else (laws_FnExactReadHead.j0 k a0 a1 t582 t583 true t573 t574 t575 t576 t577 t578 t581 t585 t586 t587 t588 t589 t590 t593))) = some r := H
  have A5 := Aside0.mk A50
  clear A50
  have HC6 := Aside0.mk H
  clear H
  go_enter Tryz.func3, Tryz.ntmps3
  go_upto_region 5 with (first | ((with_reducible refine gate_callee (f := 6) rfl ?_); refine goesL_ (some 22) rfl rfl Tryz.func6 (by kernel_rfl) rfl #[.string a0, .bool a1] rfl gq1 ?_; (with_reducible refine (spec_ReadHead.calls k a0 a1 t573 t574 t575 t576 t577 t578 t581 t582 t583 _ A4.out).mono ?_); rintro e w7 ⟨v579, rfl, ho0, hb⟩; refine ⟨_, rfl, ?_⟩; have HO580 := Aside0.mk (Kd.R_lower ho0 (below_size gBe)); replace HB := beA hb; (try clear hb); (try clear hb2); (try clear hk); (try clear hi); (try clear ho0)) | ((with_reducible refine gate_dst (N := 5) rfl ?_); refine boxA #[.string (⟨#[]⟩ : ByteArray), .string (⟨#[]⟩ : ByteArray), .int .i64 0, .string (⟨#[]⟩ : ByteArray), .bool false, .slice none 0 0, .string (⟨#[]⟩ : ByteArray)] 24 ?_; intro gb584 hg w8 hbox hb; have BK584 := Aside0.mk (hbox); have GE584 := geA hg; replace HO580 := Aside0.mk (Kd.R_below (by (with_reducible repeat (first | apply Kd.R_alloc | apply Kd.R_drewN | apply Kd.R_drew)); exact HO580.out) hb); replace HB := beA hb; clear hb hbox hg; have hcz9_0 := cz0 BK584; have hcz9_1 := cz1 BK584; have hcz9_2 := cz2 BK584; have hcz9_3 := cz3 BK584; have hcz9_4 := cz4 BK584; have hcz9_5 := cz5 BK584; have hcz9_6 := cz6 BK584; have hfz9_0 := blk_frozen BK584.out 0; have hfz9_1 := blk_frozen BK584.out 1; have hfz9_2 := blk_frozen BK584.out 2; have hfz9_3 := blk_frozen BK584.out 3; have hfz9_4 := blk_frozen BK584.out 4; have hfz9_5 := blk_frozen BK584.out 5; have hfz9_6 := blk_frozen BK584.out 6; obtain ⟨Ao10, co10, eo10⟩ := Kd.R_slice HO580.out; subst eo10) | ((with_reducible refine gate_callee (f := 7) rfl ?_); refine goesL_ (some 29) rfl rfl Tryz.func7 (by kernel_rfl) rfl #[.string a0, .bool a1] rfl gq1 ?_; (with_reducible refine (impl_ReadHead.calls k a0 a1 t585 t586 t587 t588 t589 t590 t593 t594 t595 _ A5.out).mono ?_); rintro e w11 ⟨v591, rfl, ho0, hb⟩; refine ⟨_, rfl, ?_⟩; have HO592 := Aside0.mk (Kd.R_lower (Kd.R_new' ho0 (Kd.R_lt (by (with_reducible repeat (first | apply Kd.R_alloc | apply Kd.R_drewN | apply Kd.R_drew)); exact (Kd.R_mono (Kd.R_far (p := ⟨gb584, 6, none⟩) (Kd.R_far (p := ⟨gb584, 5, none⟩) (Kd.R_far (p := ⟨gb584, 4, none⟩) (Kd.R_far (p := ⟨gb584, 3, none⟩) (Kd.R_far (p := ⟨gb584, 2, none⟩) (Kd.R_far (p := ⟨gb584, 1, none⟩) (Kd.R_far (p := ⟨gb584, 0, none⟩) (Kd.R_types HO580.out BK584.out (by decide)) (fun _ hk => hk.2) (.string t573)) (fun _ hk => hk.2) (.string t574)) (fun _ hk => hk.2) (.int .i64 t575)) (fun _ hk => hk.2) (.string t576)) (fun _ hk => hk.2) (.bool t577)) (fun _ hk => hk.2) (.slice Ao10 t578.length co10)) (fun _ hk => hk.2) (.string t581)) (fun _ h_ => h_.1))))) (below_size gBe)); replace HO580 := Aside0.mk (Kd.R_elder' (by (with_reducible repeat (first | apply Kd.R_alloc | apply Kd.R_drewN | apply Kd.R_drew)); exact (Kd.R_mono (Kd.R_far (p := ⟨gb584, 6, none⟩) (Kd.R_far (p := ⟨gb584, 5, none⟩) (Kd.R_far (p := ⟨gb584, 4, none⟩) (Kd.R_far (p := ⟨gb584, 3, none⟩) (Kd.R_far (p := ⟨gb584, 2, none⟩) (Kd.R_far (p := ⟨gb584, 1, none⟩) (Kd.R_far (p := ⟨gb584, 0, none⟩) (Kd.R_types HO580.out BK584.out (by decide)) (fun _ hk => hk.2) (.string t573)) (fun _ hk => hk.2) (.string t574)) (fun _ hk => hk.2) (.int .i64 t575)) (fun _ hk => hk.2) (.string t576)) (fun _ hk => hk.2) (.bool t577)) (fun _ hk => hk.2) (.slice Ao10 t578.length co10)) (fun _ hk => hk.2) (.string t581)) (fun _ h_ => h_.1))) (Kd.R_base ho0) hb); replace BK584 := blA (g := gb584) (o := .cells #[.string t573, .string t574, .int .i64 t575, .string t576, .bool t577, .slice Ao10 t578.length co10, .string t581] 24 (0, 0)) hb; replace HB := beA hb; (try clear hb); (try clear hb2); (try clear hk); (try clear hi); (try clear ho0)) | ((with_reducible refine gate_dst (N := 8) rfl ?_); refine boxA #[.string (⟨#[]⟩ : ByteArray), .string (⟨#[]⟩ : ByteArray), .int .i64 0, .string (⟨#[]⟩ : ByteArray), .bool false, .slice none 0 0, .string (⟨#[]⟩ : ByteArray)] 24 ?_; intro gb596 hg w12 hbox hb; have BK596 := Aside0.mk (hbox); have GE596 := geA hg; have NB584_596 := neA (g := gb584) hg; have NB596_584 := neB NB584_596; replace HO580 := Aside0.mk (Kd.R_below (by (with_reducible repeat (first | apply Kd.R_alloc | apply Kd.R_drewN | apply Kd.R_drew)); exact HO580.out) hb); replace HO592 := Aside0.mk (Kd.R_below (by (with_reducible repeat (first | apply Kd.R_alloc | apply Kd.R_drewN | apply Kd.R_drew)); exact HO592.out) hb); replace BK584 := blA (g := gb584) hb; replace HB := beA hb; clear hb hbox hg; have hnb13 := NB596_584.out; have hnc13 := NB584_596.out; have hcz14_0 := cz0 BK596; have hcz14_1 := cz1 BK596; have hcz14_2 := cz2 BK596; have hcz14_3 := cz3 BK596; have hcz14_4 := cz4 BK596; have hcz14_5 := cz5 BK596; have hcz14_6 := cz6 BK596; have hfz14_0 := blk_frozen BK596.out 0; have hfz14_1 := blk_frozen BK596.out 1; have hfz14_2 := blk_frozen BK596.out 2; have hfz14_3 := blk_frozen BK596.out 3; have hfz14_4 := blk_frozen BK596.out 4; have hfz14_5 := blk_frozen BK596.out 5; have hfz14_6 := blk_frozen BK596.out 6; obtain ⟨Ao15, co15, eo15⟩ := Kd.R_slice HO592.out; subst eo15))
  (try simp only [Act.put, List.setIfInBounds_toArray, List.set_cons_zero, List.set_cons_succ])
  go_cut [46] (fun v46 wc => ∃ (kq : Nat) (x46_5 : Bool), v46 = .bool x46_5 ∧ Aside0 (laws_FnExactReadHead.j0 kq a0 a1 t582 t583 x46_5 t573 t574 t575 t576 t577 t578 t581 t585 t586 t587 t588 t589 t590 t593 = some r) ∧ Aside0 (kq ≤ k) ∧ Aside0 (Kd.R k41 41 wc w.heap.size (fun k_ => some k_ ≠ ((.slice Ao15 t590.length co15) : Value).ownBlock) (.slice Ao10 t578.length co10) t578) ∧ Aside0 (Kd.R k41 41 wc w.heap.size (fun k_ => some k_ ≠ ((.slice Ao10 t578.length co10) : Value).ownBlock) (.slice Ao15 t590.length co15) t590) ∧ Aside0 (wc.heap[gb584]? = some (.cells #[.string t573, .string t574, .int .i64 t575, .string t576, .bool t577, (.slice Ao10 t578.length co10), .string t581] 24 (0, 0))) ∧ Aside0 (wc.heap[gb596]? = some (.cells #[.string t585, .string t586, .int .i64 t587, .string t588, .bool t589, (.slice Ao15 t590.length co15), .string t593] 24 (0, 0))) ∧ Aside0 (Below w.heap.size w wc))
  case first =>
   have H := HC6.out
   clear HC6
   replace H := Option.bind_eq_some_iff.mp H
   obtain ⟨t597, A160, H⟩ := H
   replace H : (if t597 = true then (if t594 = t582 then (laws_FnExactReadHead.j0 k a0 a1 t582 t583 (t595 != t583) t573 t574 t575 t576 t577 t578 t581 t585 t586 t587 t588 t589 t590 t593) else (laws_FnExactReadHead.j0 k a0 a1 t582 t583 true t573 t574 t575 t576 t577 t578 t581 t585 t586 t587 t588 t589 t590 t593)) else (laws_FnExactReadHead.j0 k a0 a1 t582 t583 true t573 t574 t575 t576 t577 t578 t581 t585 t586 t587 t588 t589 t590 t593)) = some r := H
   have A16 := Aside0.mk A160
   clear A160
   by_cases c17 : t597 = true
   ·subst c17
    have H1 : (if t594 = t582 then (laws_FnExactReadHead.j0 k a0 a1 t582 t583 (t595 != t583) t573 t574 t575 t576 t577 t578 t581 t585 t586 t587 t588 t589 t590 t593) else (laws_FnExactReadHead.j0 k a0 a1 t582 t583 true t573 t574 t575 t576 t577 t578 t581 t585 t586 t587 t588 t589 t590 t593)) = some r := by rw [if_pos rfl] at H; exact H
    clear H
    have H := H1
    clear H1
    by_cases c18 : t594 = t582
    ·rw [if_pos c18] at H
     have c18b0 : (t594 == t582) = true := beq_iff_eq.mpr c18
     have c18b1 : (t594 != t582) = false := bne_eq_false_iff_eq.mpr c18
     clear c18
     (first | rw [c18b0] | (simp only [i64_w, i32_w]; rw [c18b0]) | skip)
     have H' := Aside0.mk H
     clear H
     have hnb19 := NB596_584.out
     have hnc19 := NB584_596.out
     have hcz20_0 := cz0 BK596
     have hcz20_1 := cz1 BK596
     have hcz20_2 := cz2 BK596
     have hcz20_3 := cz3 BK596
     have hcz20_4 := cz4 BK596
     have hcz20_5 := cz5 BK596
     have hcz20_6 := cz6 BK596
     have hfz20_0 := blk_frozen BK596.out 0
     have hfz20_1 := blk_frozen BK596.out 1
     have hfz20_2 := blk_frozen BK596.out 2
     have hfz20_3 := blk_frozen BK596.out 3
     have hfz20_4 := blk_frozen BK596.out 4
     have hfz20_5 := blk_frozen BK596.out 5
     have hfz20_6 := blk_frozen BK596.out 6
     have hcz21_0 := cz0 BK584
     have hcz21_1 := cz1 BK584
     have hcz21_2 := cz2 BK584
     have hcz21_3 := cz3 BK584
     have hcz21_4 := cz4 BK584
     have hcz21_5 := cz5 BK584
     have hcz21_6 := cz6 BK584
     have hfz21_0 := blk_frozen BK584.out 0
     have hfz21_1 := blk_frozen BK584.out 1
     have hfz21_2 := blk_frozen BK584.out 2
     have hfz21_3 := blk_frozen BK584.out 3
     have hfz21_4 := blk_frozen BK584.out 4
     have hfz21_5 := blk_frozen BK584.out 5
     have hfz21_6 := blk_frozen BK584.out 6
     go_wp2_with (first | ((with_reducible refine gate_callee (f := 8) rfl ?_); refine goesL_ (some 35) rfl rfl Tryz.func8 (by kernel_rfl) rfl #[.agg #[.string t585, .string t586, .int .i64 t587, .string t588, .bool t589, .slice Ao15 t590.length co15, .string t593], .agg #[.string t573, .string t574, .int .i64 t575, .string t576, .bool t577, .slice Ao10 t578.length co10, .string t581]] rfl gq1 ?_; (with_reducible refine (laws_eqMsg.calls k t585 t586 t587 t588 t589 _ _ t590 t593 t573 t574 t575 t576 t577 _ _ t578 t581 true _ ?side1 ?side2 ?side3 ?side4 A16.out).mono ?_); (case side1 => refine (Kd.R_reads' (e := 41) (base := w.heap.size) (ok := fun k_ => (True ∧ some k_ ≠ (.slice Ao10 t578.length co10 : Value).ownBlock)) (n := t590.length) (c := co15) ?_).2.2; exact gq8); (case side2 => exact (Kd.R_reads' HO592.out).2.1); (case side3 => refine (Kd.R_reads' (e := 41) (base := w.heap.size) (ok := fun k_ => (True ∧ some k_ ≠ (.slice Ao15 t590.length co15 : Value).ownBlock)) (n := t578.length) (c := co10) ?_).2.2; exact gq9); (case side4 => exact (Kd.R_reads' HO580.out).2.1); rintro e w22 ⟨rfl, hb⟩; refine ⟨_, rfl, ?_⟩; replace HO580 := Aside0.mk (Kd.R_below gq9 hb); replace HO592 := Aside0.mk (Kd.R_below gq8 hb); replace BK584 := blA (g := gb584) hb; replace BK596 := blA (g := gb596) (o := .cells #[.string t585, .string t586, .int .i64 t587, .string t588, .bool t589, .slice Ao15 t590.length co15, .string t593] 24 (0, 0)) hb; replace HB := beA hb; (try clear hb); (try clear hb2); (try clear hk); (try clear hi)))
     go_meet
     case rel => exact ⟨_, ((t595 != t583)), gq4, H', ⟨gq20⟩, ⟨by (with_reducible repeat (first | apply Kd.R_alloc | apply Kd.R_drewN | apply Kd.R_drew)); exact Kd.R_mono HO580.out (fun _ hk => hk.2)⟩, ⟨by (with_reducible repeat (first | apply Kd.R_alloc | apply Kd.R_drewN | apply Kd.R_drew)); exact Kd.R_mono HO592.out (fun _ hk => hk.2)⟩, ⟨gBk⟩, ⟨gBk⟩, ⟨gBe⟩⟩
    ·rw [if_neg c18] at H
     have c18b0 : (t594 == t582) = false := beq_eq_false_iff_ne.mpr c18
     have c18b1 : (t594 != t582) = true := bne_iff_ne.mpr c18
     (first | rw [c18b0] | (simp only [i64_w, i32_w]; rw [c18b0]) | skip)
     have H' := Aside0.mk H
     clear H
     have hnb23 := NB596_584.out
     have hnc23 := NB584_596.out
     have hcz24_0 := cz0 BK596
     have hcz24_1 := cz1 BK596
     have hcz24_2 := cz2 BK596
     have hcz24_3 := cz3 BK596
     have hcz24_4 := cz4 BK596
     have hcz24_5 := cz5 BK596
     have hcz24_6 := cz6 BK596
     have hfz24_0 := blk_frozen BK596.out 0
     have hfz24_1 := blk_frozen BK596.out 1
     have hfz24_2 := blk_frozen BK596.out 2
     have hfz24_3 := blk_frozen BK596.out 3
     have hfz24_4 := blk_frozen BK596.out 4
     have hfz24_5 := blk_frozen BK596.out 5
     have hfz24_6 := blk_frozen BK596.out 6
     have hcz25_0 := cz0 BK584
     have hcz25_1 := cz1 BK584
     have hcz25_2 := cz2 BK584
     have hcz25_3 := cz3 BK584
     have hcz25_4 := cz4 BK584
     have hcz25_5 := cz5 BK584
     have hcz25_6 := cz6 BK584
     have hfz25_0 := blk_frozen BK584.out 0
     have hfz25_1 := blk_frozen BK584.out 1
     have hfz25_2 := blk_frozen BK584.out 2
     have hfz25_3 := blk_frozen BK584.out 3
     have hfz25_4 := blk_frozen BK584.out 4
     have hfz25_5 := blk_frozen BK584.out 5
     have hfz25_6 := blk_frozen BK584.out 6
     go_wp2_with (first | ((with_reducible refine gate_callee (f := 8) rfl ?_); refine goesL_ (some 35) rfl rfl Tryz.func8 (by kernel_rfl) rfl #[.agg #[.string t585, .string t586, .int .i64 t587, .string t588, .bool t589, .slice Ao15 t590.length co15, .string t593], .agg #[.string t573, .string t574, .int .i64 t575, .string t576, .bool t577, .slice Ao10 t578.length co10, .string t581]] rfl gq1 ?_; (with_reducible refine (laws_eqMsg.calls k t585 t586 t587 t588 t589 _ _ t590 t593 t573 t574 t575 t576 t577 _ _ t578 t581 true _ ?side1 ?side2 ?side3 ?side4 A16.out).mono ?_); (case side1 => refine (Kd.R_reads' (e := 41) (base := w.heap.size) (ok := fun k_ => (True ∧ some k_ ≠ (.slice Ao10 t578.length co10 : Value).ownBlock)) (n := t590.length) (c := co15) ?_).2.2; exact gq8); (case side2 => exact (Kd.R_reads' HO592.out).2.1); (case side3 => refine (Kd.R_reads' (e := 41) (base := w.heap.size) (ok := fun k_ => (True ∧ some k_ ≠ (.slice Ao15 t590.length co15 : Value).ownBlock)) (n := t578.length) (c := co10) ?_).2.2; exact gq9); (case side4 => exact (Kd.R_reads' HO580.out).2.1); rintro e w26 ⟨rfl, hb⟩; refine ⟨_, rfl, ?_⟩; replace HO580 := Aside0.mk (Kd.R_below gq9 hb); replace HO592 := Aside0.mk (Kd.R_below gq8 hb); replace BK584 := blA (g := gb584) hb; replace BK596 := blA (g := gb596) (o := .cells #[.string t585, .string t586, .int .i64 t587, .string t588, .bool t589, .slice Ao15 t590.length co15, .string t593] 24 (0, 0)) hb; replace HB := beA hb; (try clear hb); (try clear hb2); (try clear hk); (try clear hi)))
     go_meet
     case rel => exact ⟨_, (true), gq4, H', ⟨gq20⟩, ⟨by (with_reducible repeat (first | apply Kd.R_alloc | apply Kd.R_drewN | apply Kd.R_drew)); exact Kd.R_mono HO580.out (fun _ hk => hk.2)⟩, ⟨by (with_reducible repeat (first | apply Kd.R_alloc | apply Kd.R_drewN | apply Kd.R_drew)); exact Kd.R_mono HO592.out (fun _ hk => hk.2)⟩, ⟨gBk⟩, ⟨gBk⟩, ⟨gBe⟩⟩
   ·replace c17 := Bool.eq_false_iff.mpr c17
    subst c17
    have H1 : (laws_FnExactReadHead.j0 k a0 a1 t582 t583 true t573 t574 t575 t576 t577 t578 t581 t585 t586 t587 t588 t589 t590 t593) = some r := by rw [if_neg (show ¬ (false = true) by decide)] at H; exact H
    clear H
    have H := H1
    clear H1
    have H' := Aside0.mk H
    clear H
    have hnb27 := NB596_584.out
    have hnc27 := NB584_596.out
    have hcz28_0 := cz0 BK596
    have hcz28_1 := cz1 BK596
    have hcz28_2 := cz2 BK596
    have hcz28_3 := cz3 BK596
    have hcz28_4 := cz4 BK596
    have hcz28_5 := cz5 BK596
    have hcz28_6 := cz6 BK596
    have hfz28_0 := blk_frozen BK596.out 0
    have hfz28_1 := blk_frozen BK596.out 1
    have hfz28_2 := blk_frozen BK596.out 2
    have hfz28_3 := blk_frozen BK596.out 3
    have hfz28_4 := blk_frozen BK596.out 4
    have hfz28_5 := blk_frozen BK596.out 5
    have hfz28_6 := blk_frozen BK596.out 6
    have hcz29_0 := cz0 BK584
    have hcz29_1 := cz1 BK584
    have hcz29_2 := cz2 BK584
    have hcz29_3 := cz3 BK584
    have hcz29_4 := cz4 BK584
    have hcz29_5 := cz5 BK584
    have hcz29_6 := cz6 BK584
    have hfz29_0 := blk_frozen BK584.out 0
    have hfz29_1 := blk_frozen BK584.out 1
    have hfz29_2 := blk_frozen BK584.out 2
    have hfz29_3 := blk_frozen BK584.out 3
    have hfz29_4 := blk_frozen BK584.out 4
    have hfz29_5 := blk_frozen BK584.out 5
    have hfz29_6 := blk_frozen BK584.out 6
    go_wp2_with (first | ((with_reducible refine gate_callee (f := 8) rfl ?_); refine goesL_ (some 35) rfl rfl Tryz.func8 (by kernel_rfl) rfl #[.agg #[.string t585, .string t586, .int .i64 t587, .string t588, .bool t589, .slice Ao15 t590.length co15, .string t593], .agg #[.string t573, .string t574, .int .i64 t575, .string t576, .bool t577, .slice Ao10 t578.length co10, .string t581]] rfl gq1 ?_; (with_reducible refine (laws_eqMsg.calls k t585 t586 t587 t588 t589 _ _ t590 t593 t573 t574 t575 t576 t577 _ _ t578 t581 false _ ?side1 ?side2 ?side3 ?side4 A16.out).mono ?_); (case side1 => refine (Kd.R_reads' (e := 41) (base := w.heap.size) (ok := fun k_ => (True ∧ some k_ ≠ (.slice Ao10 t578.length co10 : Value).ownBlock)) (n := t590.length) (c := co15) ?_).2.2; exact gq8); (case side2 => exact (Kd.R_reads' HO592.out).2.1); (case side3 => refine (Kd.R_reads' (e := 41) (base := w.heap.size) (ok := fun k_ => (True ∧ some k_ ≠ (.slice Ao15 t590.length co15 : Value).ownBlock)) (n := t578.length) (c := co10) ?_).2.2; exact gq9); (case side4 => exact (Kd.R_reads' HO580.out).2.1); rintro e w30 ⟨rfl, hb⟩; refine ⟨_, rfl, ?_⟩; replace HO580 := Aside0.mk (Kd.R_below gq9 hb); replace HO592 := Aside0.mk (Kd.R_below gq8 hb); replace BK584 := blA (g := gb584) hb; replace BK596 := blA (g := gb596) (o := .cells #[.string t585, .string t586, .int .i64 t587, .string t588, .bool t589, .slice Ao15 t590.length co15, .string t593] 24 (0, 0)) hb; replace HB := beA hb; (try clear hb); (try clear hb2); (try clear hk); (try clear hi)))
    go_meet
    case rel => exact ⟨_, (true), gq4, H', ⟨gq20⟩, ⟨by (with_reducible repeat (first | apply Kd.R_alloc | apply Kd.R_drewN | apply Kd.R_drew)); exact Kd.R_mono HO580.out (fun _ hk => hk.2)⟩, ⟨by (with_reducible repeat (first | apply Kd.R_alloc | apply Kd.R_drewN | apply Kd.R_drew)); exact Kd.R_mono HO592.out (fun _ hk => hk.2)⟩, ⟨gBk⟩, ⟨gBk⟩, ⟨gBe⟩⟩
  case rest =>
   clear HC6
   try clear c1
   try clear c2
   try clear p2
   try clear c3
   try clear c3b0
   try clear c3b1
   try clear c6
   try clear c7
   try clear c8
   try clear c13
   try clear c17
   try clear c18
   try clear c18b0
   try clear c18b1
   try clear c19
   try clear c23
   try clear c27
   try clear hcz14_0
   try clear hcz14_1
   try clear hcz14_2
   try clear hcz14_3
   try clear hcz14_4
   try clear hcz14_5
   try clear hcz14_6
   try clear hcz20_0
   try clear hcz20_1
   try clear hcz20_2
   try clear hcz20_3
   try clear hcz20_4
   try clear hcz20_5
   try clear hcz20_6
   try clear hcz21_0
   try clear hcz21_1
   try clear hcz21_2
   try clear hcz21_3
   try clear hcz21_4
   try clear hcz21_5
   try clear hcz21_6
   try clear hcz24_0
   try clear hcz24_1
   try clear hcz24_2
   try clear hcz24_3
   try clear hcz24_4
   try clear hcz24_5
   try clear hcz24_6
   try clear hcz25_0
   try clear hcz25_1
   try clear hcz25_2
   try clear hcz25_3
   try clear hcz25_4
   try clear hcz25_5
   try clear hcz25_6
   try clear hcz28_0
   try clear hcz28_1
   try clear hcz28_2
   try clear hcz28_3
   try clear hcz28_4
   try clear hcz28_5
   try clear hcz28_6
   try clear hcz29_0
   try clear hcz29_1
   try clear hcz29_2
   try clear hcz29_3
   try clear hcz29_4
   try clear hcz29_5
   try clear hcz29_6
   try clear hcz9_0
   try clear hcz9_1
   try clear hcz9_2
   try clear hcz9_3
   try clear hcz9_4
   try clear hcz9_5
   try clear hcz9_6
   try clear hfz14_0
   try clear hfz14_1
   try clear hfz14_2
   try clear hfz14_3
   try clear hfz14_4
   try clear hfz14_5
   try clear hfz14_6
   try clear hfz20_0
   try clear hfz20_1
   try clear hfz20_2
   try clear hfz20_3
   try clear hfz20_4
   try clear hfz20_5
   try clear hfz20_6
   try clear hfz21_0
   try clear hfz21_1
   try clear hfz21_2
   try clear hfz21_3
   try clear hfz21_4
   try clear hfz21_5
   try clear hfz21_6
   try clear hfz24_0
   try clear hfz24_1
   try clear hfz24_2
   try clear hfz24_3
   try clear hfz24_4
   try clear hfz24_5
   try clear hfz24_6
   try clear hfz25_0
   try clear hfz25_1
   try clear hfz25_2
   try clear hfz25_3
   try clear hfz25_4
   try clear hfz25_5
   try clear hfz25_6
   try clear hfz28_0
   try clear hfz28_1
   try clear hfz28_2
   try clear hfz28_3
   try clear hfz28_4
   try clear hfz28_5
   try clear hfz28_6
   try clear hfz29_0
   try clear hfz29_1
   try clear hfz29_2
   try clear hfz29_3
   try clear hfz29_4
   try clear hfz29_5
   try clear hfz29_6
   try clear hfz9_0
   try clear hfz9_1
   try clear hfz9_2
   try clear hfz9_3
   try clear hfz9_4
   try clear hfz9_5
   try clear hfz9_6
   obtain ⟨kq, x46_5, rfl, HA, HJ5, HO_585005, HO_597005, BK584, BK596, HB⟩ := hcut
   cases kq with
   | zero => exact absurd HA.out (by simp [laws_FnExactReadHead.j0])
   | succ kj5 =>
    have H := HA.out
    clear HA
    simp only [laws_FnExactReadHead.j0] at H
    by_cases c31 : x46_5 = true
    ·subst c31
     have H1 : (none) = some r := by rw [if_pos rfl] at H; exact H
     clear H
     have H := H1
     clear H1
     exact absurd H (by simp)
    ·replace c31 := Bool.eq_false_iff.mpr c31
     subst c31
     have H1 : ((laws_markMsg.f kj5 t585 t586 t587 t588 t589 t590 t593 1).bind fun bt598 => ((laws_heldMsg.f kj5 t585 t586 t587 t588 t589 bt598.2 t593 1).bind fun t600 => (if t600 < 0 then (none) else (if t600 = bt598.1 then ((impl_ReadHead.f kj5 a0 a1).bind fun bt601 => ((laws_eqMsg.f kj5 bt601.1 bt601.2.1 bt601.2.2.1 bt601.2.2.2.1 bt601.2.2.2.2.1 bt601.2.2.2.2.2.1 bt601.2.2.2.2.2.2.1 t573 t574 t575 t576 t577 t578 t581).bind fun t613 => (if t613 = true then (if bt601.2.2.2.2.2.2.2.1 = t582 then (laws_FnExactReadHead.j1 kj5 bt598.1 (bt601.2.2.2.2.2.2.2.2 != t583) t585 t586 t587 t588 t589 bt598.2 t593) else (laws_FnExactReadHead.j1 kj5 bt598.1 true t585 t586 t587 t588 t589 bt598.2 t593)) else (laws_FnExactReadHead.j1 kj5 bt598.1 true t585 t586 t587 t588 t589 bt598.2 t593)))) else (none))))) = some r := by rw [if_neg (show ¬ (false = true) by decide)] at H; exact H
     clear H
     have H := H1
     clear H1
     replace H := Option.bind_eq_some_iff.mp H
     obtain ⟨⟨t598, t599⟩, A320, H⟩ := H
     replace H : ((laws_heldMsg.f kj5 t585 t586 t587 t588 t589 t599 t593 1).bind fun t600 => (if t600 < 0 then (none) else (if t600 = t598 then ((impl_ReadHead.f kj5 a0 a1).bind fun bt601 => ((laws_eqMsg.f kj5 bt601.1 bt601.2.1 bt601.2.2.1 bt601.2.2.2.1 bt601.2.2.2.2.1 bt601.2.2.2.2.2.1 bt601.2.2.2.2.2.2.1 t573 t574 t575 t576 t577 t578 t581).bind fun t613 => (if t613 = true then (if bt601.2.2.2.2.2.2.2.1 = t582 then (laws_FnExactReadHead.j1 kj5 t598 (bt601.2.2.2.2.2.2.2.2 != t583) t585 t586 t587 t588 t589 t599 t593) else (laws_FnExactReadHead.j1 kj5 t598 true t585 t586 t587 t588 t589 t599 t593)) else (laws_FnExactReadHead.j1 kj5 t598 true t585 t586 t587 t588 t589 t599 t593)))) else (none)))) = some r := H
     have A32 := Aside0.mk A320
     clear A320
     replace H := Option.bind_eq_some_iff.mp H
     obtain ⟨t600, A330, H⟩ := H
     replace H : (if t600 < 0 then (none) else (if t600 = t598 then ((impl_ReadHead.f kj5 a0 a1).bind fun bt601 => ((laws_eqMsg.f kj5 bt601.1 bt601.2.1 bt601.2.2.1 bt601.2.2.2.1 bt601.2.2.2.2.1 bt601.2.2.2.2.2.1 bt601.2.2.2.2.2.2.1 t573 t574 t575 t576 t577 t578 t581).bind fun t613 => (if t613 = true then (if bt601.2.2.2.2.2.2.2.1 = t582 then (laws_FnExactReadHead.j1 kj5 t598 (bt601.2.2.2.2.2.2.2.2 != t583) t585 t586 t587 t588 t589 t599 t593) else (laws_FnExactReadHead.j1 kj5 t598 true t585 t586 t587 t588 t589 t599 t593)) else (laws_FnExactReadHead.j1 kj5 t598 true t585 t586 t587 t588 t589 t599 t593)))) else (none))) = some r := H
     have A33 := Aside0.mk A330
     clear A330
     by_cases c34 : t600 < 0
     ·rw [if_pos c34] at H
      exact absurd H (by simp)
     ·rw [if_neg c34] at H
      have c34b0 := decide_eq_false c34
      clear c34
      by_cases c35 : t600 = t598
      ·rw [if_pos c35] at H
       have c35b0 : (t600 == t598) = true := beq_iff_eq.mpr c35
       have c35b1 : (t600 != t598) = false := bne_eq_false_iff_eq.mpr c35
       clear c35
       replace H := Option.bind_eq_some_iff.mp H
       obtain ⟨⟨t601, t602, t603, t604, t605, t606, t609, t610, t611⟩, A360, H⟩ := H
       replace H : ((laws_eqMsg.f kj5 t601 t602 t603 t604 t605 t606 t609 t573 t574 t575 t576 t577 t578 t581).bind fun t613 => (if t613 = true then (if t610 = t582 then (laws_FnExactReadHead.j1 kj5 t598 (t611 != t583) t585 t586 t587 t588 t589 t599 t593) else (laws_FnExactReadHead.j1 kj5 t598 true t585 t586 t587 t588 t589 t599 t593)) else (laws_FnExactReadHead.j1 kj5 t598 true t585 t586 t587 t588 t589 t599 t593))) = some r := H
       have A36 := Aside0.mk A360
       clear A360
       have HC37 := Aside0.mk H
       clear H
       have hnb38 := NB596_584.out
       have hnc38 := NB584_596.out
       have hcz39_0 := cz0 BK596
       have hcz39_1 := cz1 BK596
       have hcz39_2 := cz2 BK596
       have hcz39_3 := cz3 BK596
       have hcz39_4 := cz4 BK596
       have hcz39_5 := cz5 BK596
       have hcz39_6 := cz6 BK596
       have hfz39_0 := blk_frozen BK596.out 0
       have hfz39_1 := blk_frozen BK596.out 1
       have hfz39_2 := blk_frozen BK596.out 2
       have hfz39_3 := blk_frozen BK596.out 3
       have hfz39_4 := blk_frozen BK596.out 4
       have hfz39_5 := blk_frozen BK596.out 5
       have hfz39_6 := blk_frozen BK596.out 6
       go_upto_region 16 with (first | ((with_reducible refine gate_callee (f := 9) rfl ?_); refine goesL_ (some 49) rfl rfl Tryz.func9 (by kernel_rfl) rfl #[.agg #[.string t585, .string t586, .int .i64 t587, .string t588, .bool t589, .slice Ao15 t590.length co15, .string t593], .int .i64 1] rfl gq1 ?_; (with_reducible refine (laws_markMsg.calls kj5 t585 t586 t587 t588 t589 (fun k_ => some k_ = (.slice Ao15 t590.length co15 : Value).ownBlock) (.slice Ao15 t590.length co15) t590 t593 1 t598 t599 w _ ?side1 ?side2 A32.out).mono ?_); (case side1 => repeat (first | (with_reducible first | exact HB.out | apply below_alloc | apply pw_below_drewN | apply below_drew1 | refine below_set ?_ GE584.out | refine below_set ?_ GE596.out) | exact HB.out)); (case side2 => exact Kd.R_tight rfl HO_597005.out); rintro e w40 ⟨rfl, hy0, hb, hkp⟩; refine ⟨_, rfl, ?_⟩; replace HO_585005 := Aside0.mk (Kd.R_mono (ok' := fun k_ => some k_ ≠ (.slice Ao15 t590.length co15 : Value).ownBlock) (Kd.R_keptB (HO_585005.out) hkp (fun k_ hk_ hs_ => (hk_) hs_)) (fun k_ hk_ => hk_.1)); replace BK584 := Aside0.mk (blk_kept (by (with_reducible repeat (first | refine blk_drewN ?_ _ | refine blk_drew ?_ | refine blk_alloc ?_ _)); exact BK584.out) hkp (fun hs_ => (fun e_ => (Kd.R_ne HO_597005.out BK584.out (by decide)) e_) hs_)); replace BK596 := Aside0.mk (blk_kept (by (with_reducible repeat (first | refine blk_drewN ?_ _ | refine blk_drew ?_ | refine blk_alloc ?_ _)); exact BK596.out) hkp (fun hs_ => (fun e_ => (Kd.R_ne HO_597005.out BK596.out (by decide)) e_) hs_)); replace HO_597005 := Aside0.mk (Kd.R_reok rfl hy0 (fun k_ e_ => HO_597005.out.1 k_ e_)); replace HB := Aside0.mk (hb); (try clear hb); (try clear hkp); (try clear hy0); have hcz41_0 := cz0 BK596; have hcz41_1 := cz1 BK596; have hcz41_2 := cz2 BK596; have hcz41_3 := cz3 BK596; have hcz41_4 := cz4 BK596; have hcz41_5 := cz5 BK596; have hcz41_6 := cz6 BK596; have hfz41_0 := blk_frozen BK596.out 0; have hfz41_1 := blk_frozen BK596.out 1; have hfz41_2 := blk_frozen BK596.out 2; have hfz41_3 := blk_frozen BK596.out 3; have hfz41_4 := blk_frozen BK596.out 4; have hfz41_5 := blk_frozen BK596.out 5; have hfz41_6 := blk_frozen BK596.out 6) | ((with_reducible refine gate_callee (f := 10) rfl ?_); refine goesL_ (some 52) rfl rfl Tryz.func10 (by kernel_rfl) rfl #[.agg #[.string t585, .string t586, .int .i64 t587, .string t588, .bool t589, .slice Ao15 t599.length co15, .string t593], .int .i64 1] rfl (by (try simp only [List.map_toArray, List.map_cons, List.map_nil]); first | done | (rw [show t599.length = t590.length from (Kd.R_reads' HO_597005.out).1.symm] <;> rfl) | rfl | (simp only [List.length_drop, List.length_take]; rfl)) ?_; (with_reducible refine (laws_heldMsg.calls kj5 t585 t586 t587 t588 t589 _ _ t599 t593 1 t600 _ ?side1 ?side2 A33.out).mono ?_); (case side1 => repeat (first | exact (Kd.R_reads' HO_597005.out).2.2 | (with_reducible refine Kd.C_alloc ?_ _) | (with_reducible refine Kd.C_drewN ?_ _) | (with_reducible refine Kd.C_drew ?_))); (case side2 => rw [show t599.length = t590.length from (Kd.R_reads' HO_597005.out).1.symm]; exact (Kd.R_reads' HO_597005.out).2.1); rintro e w42 ⟨rfl, hb⟩; refine ⟨_, rfl, ?_⟩; replace HO_585005 := Aside0.mk (Kd.R_below gq25 hb); replace HO_597005 := Aside0.mk (Kd.R_below gq26 hb); replace BK584 := blA (g := gb584) hb; replace BK596 := blA (g := gb596) hb; replace HB := beA hb; (try clear hb); (try clear hb2); (try clear hk); (try clear hi)) | ((with_reducible refine gate_callee (f := 7) rfl ?_); refine goesL_ (some 61) rfl rfl Tryz.func7 (by kernel_rfl) rfl #[.string a0, .bool a1] rfl gq1 ?_; (with_reducible refine (impl_ReadHead.calls kj5 a0 a1 t601 t602 t603 t604 t605 t606 t609 t610 t611 _ A36.out).mono ?_); rintro e w43 ⟨v607, rfl, ho0, hb⟩; refine ⟨_, rfl, ?_⟩; have HO608 := Aside0.mk (Kd.R_lower (Kd.R_new' (Kd.R_new' ho0 (Kd.R_lt gq25)) (Kd.R_lt gq26)) (below_size gBe)); replace HO_585005 := Aside0.mk (Kd.R_elder' gq25 (Kd.R_base ho0) hb); replace HO_597005 := Aside0.mk (Kd.R_elder' gq26 (Kd.R_base ho0) hb); replace BK584 := blA (g := gb584) hb; replace BK596 := blA (g := gb596) hb; replace HB := beA hb; (try clear hb); (try clear hb2); (try clear hk); (try clear hi); (try clear ho0)) | ((with_reducible refine gate_dst (N := 13) rfl ?_); refine boxA #[.string (⟨#[]⟩ : ByteArray), .string (⟨#[]⟩ : ByteArray), .int .i64 0, .string (⟨#[]⟩ : ByteArray), .bool false, .slice none 0 0, .string (⟨#[]⟩ : ByteArray)] 24 ?_; intro gb612 hg w44 hbox hb; have BK612 := Aside0.mk (hbox); have GE612 := geA hg; have NB584_612 := neA (g := gb584) hg; have NB612_584 := neB NB584_612; have NB596_612 := neA (g := gb596) hg; have NB612_596 := neB NB596_612; replace HO_585005 := Aside0.mk (Kd.R_below gq25 hb); replace HO_597005 := Aside0.mk (Kd.R_below gq26 hb); replace HO608 := Aside0.mk (Kd.R_below (by (with_reducible repeat (first | apply Kd.R_alloc | apply Kd.R_drewN | apply Kd.R_drew)); exact HO608.out) hb); replace BK584 := blA (g := gb584) hb; replace BK596 := blA (g := gb596) hb; replace HB := beA hb; clear hb hbox hg; have hnb45 := NB612_584.out; have hnc45 := NB584_612.out; have hnb46 := NB612_596.out; have hnc46 := NB596_612.out; have hcz47_0 := cz0 BK612; have hcz47_1 := cz1 BK612; have hcz47_2 := cz2 BK612; have hcz47_3 := cz3 BK612; have hcz47_4 := cz4 BK612; have hcz47_5 := cz5 BK612; have hcz47_6 := cz6 BK612; have hfz47_0 := blk_frozen BK612.out 0; have hfz47_1 := blk_frozen BK612.out 1; have hfz47_2 := blk_frozen BK612.out 2; have hfz47_3 := blk_frozen BK612.out 3; have hfz47_4 := blk_frozen BK612.out 4; have hfz47_5 := blk_frozen BK612.out 5; have hfz47_6 := blk_frozen BK612.out 6; obtain ⟨Ao48, co48, eo48⟩ := Kd.R_slice HO608.out; subst eo48))
       (try simp only [Act.put, List.setIfInBounds_toArray, List.set_cons_zero, List.set_cons_succ])
       go_cut [78] (fun v78 wc => ∃ (kq : Nat) (x78_36 : Bool), v78 = .bool x78_36 ∧ Aside0 (laws_FnExactReadHead.j1 kq t598 x78_36 t585 t586 t587 t588 t589 t599 t593 = some r) ∧ Aside0 (kq ≤ kj5) ∧ Aside0 (Kd.R k41 41 wc w.heap.size (fun k_ => some k_ ≠ ((.slice Ao15 t590.length co15) : Value).ownBlock ∧ some k_ ≠ ((.slice Ao48 t606.length co48) : Value).ownBlock) (.slice Ao10 t578.length co10) t578) ∧ Aside0 (Kd.R k41 41 wc w.heap.size (fun k_ => some k_ ≠ ((.slice Ao10 t578.length co10) : Value).ownBlock ∧ some k_ ≠ ((.slice Ao48 t606.length co48) : Value).ownBlock) (.slice Ao15 t590.length co15) t599) ∧ Aside0 (Kd.R k41 41 wc w.heap.size (fun k_ => some k_ ≠ ((.slice Ao10 t578.length co10) : Value).ownBlock ∧ some k_ ≠ ((.slice Ao15 t590.length co15) : Value).ownBlock) (.slice Ao48 t606.length co48) t606) ∧ Aside0 (wc.heap[gb584]? = some (.cells #[.string t573, .string t574, .int .i64 t575, .string t576, .bool t577, (.slice Ao10 t578.length co10), .string t581] 24 (0, 0))) ∧ Aside0 (wc.heap[gb596]? = some (.cells #[.string t585, .string t586, .int .i64 t587, .string t588, .bool t589, (.slice Ao15 t590.length co15), .string t593] 24 (0, 0))) ∧ Aside0 (wc.heap[gb612]? = some (.cells #[.string t601, .string t602, .int .i64 t603, .string t604, .bool t605, (.slice Ao48 t606.length co48), .string t609] 24 (0, 0))) ∧ Aside0 (Below w.heap.size w wc))
       case first =>
        have H := HC37.out
        clear HC37
        replace H := Option.bind_eq_some_iff.mp H
        obtain ⟨t613, A490, H⟩ := H
        replace H : (if t613 = true then (if t610 = t582 then (laws_FnExactReadHead.j1 kj5 t598 (t611 != t583) t585 t586 t587 t588 t589 t599 t593) else (laws_FnExactReadHead.j1 kj5 t598 true t585 t586 t587 t588 t589 t599 t593)) else (laws_FnExactReadHead.j1 kj5 t598 true t585 t586 t587 t588 t589 t599 t593)) = some r := H
        have A49 := Aside0.mk A490
        clear A490
        by_cases c50 : t613 = true
        ·subst c50
         have H1 : (if t610 = t582 then (laws_FnExactReadHead.j1 kj5 t598 (t611 != t583) t585 t586 t587 t588 t589 t599 t593) else (laws_FnExactReadHead.j1 kj5 t598 true t585 t586 t587 t588 t589 t599 t593)) = some r := by rw [if_pos rfl] at H; exact H
         clear H
         have H := H1
         clear H1
         by_cases c51 : t610 = t582
         ·rw [if_pos c51] at H
          have c51b0 : (t610 == t582) = true := beq_iff_eq.mpr c51
          have c51b1 : (t610 != t582) = false := bne_eq_false_iff_eq.mpr c51
          clear c51
          (first | rw [c51b0] | (simp only [i64_w, i32_w]; rw [c51b0]) | skip)
          have H' := Aside0.mk H
          clear H
          have hnb52 := NB612_584.out
          have hnc52 := NB584_612.out
          have hnb53 := NB612_596.out
          have hnc53 := NB596_612.out
          have hcz54_0 := cz0 BK612
          have hcz54_1 := cz1 BK612
          have hcz54_2 := cz2 BK612
          have hcz54_3 := cz3 BK612
          have hcz54_4 := cz4 BK612
          have hcz54_5 := cz5 BK612
          have hcz54_6 := cz6 BK612
          have hfz54_0 := blk_frozen BK612.out 0
          have hfz54_1 := blk_frozen BK612.out 1
          have hfz54_2 := blk_frozen BK612.out 2
          have hfz54_3 := blk_frozen BK612.out 3
          have hfz54_4 := blk_frozen BK612.out 4
          have hfz54_5 := blk_frozen BK612.out 5
          have hfz54_6 := blk_frozen BK612.out 6
          have hnb55 := NB584_596.out
          have hnc55 := NB596_584.out
          have hcz56_0 := cz0 BK584
          have hcz56_1 := cz1 BK584
          have hcz56_2 := cz2 BK584
          have hcz56_3 := cz3 BK584
          have hcz56_4 := cz4 BK584
          have hcz56_5 := cz5 BK584
          have hcz56_6 := cz6 BK584
          have hfz56_0 := blk_frozen BK584.out 0
          have hfz56_1 := blk_frozen BK584.out 1
          have hfz56_2 := blk_frozen BK584.out 2
          have hfz56_3 := blk_frozen BK584.out 3
          have hfz56_4 := blk_frozen BK584.out 4
          have hfz56_5 := blk_frozen BK584.out 5
          have hfz56_6 := blk_frozen BK584.out 6
          go_wp2_with (first | ((with_reducible refine gate_callee (f := 8) rfl ?_); refine goesL_ (some 67) rfl rfl Tryz.func8 (by kernel_rfl) rfl #[.agg #[.string t601, .string t602, .int .i64 t603, .string t604, .bool t605, .slice Ao48 t606.length co48, .string t609], .agg #[.string t573, .string t574, .int .i64 t575, .string t576, .bool t577, .slice Ao10 t578.length co10, .string t581]] rfl gq1 ?_; (with_reducible refine (laws_eqMsg.calls kj5 t601 t602 t603 t604 t605 _ _ t606 t609 t573 t574 t575 t576 t577 _ _ t578 t581 true _ ?side1 ?side2 ?side3 ?side4 A49.out).mono ?_); (case side1 => refine (Kd.R_reads' (e := 41) (base := w.heap.size) (ok := fun k_ => ((True ∧ some k_ ≠ (.slice Ao10 t578.length co10 : Value).ownBlock) ∧ some k_ ≠ (.slice Ao15 t590.length co15 : Value).ownBlock)) (n := t606.length) (c := co48) ?_).2.2; exact gq10); (case side2 => exact (Kd.R_reads' HO608.out).2.1); (case side3 => refine (Kd.R_reads' (e := 41) (base := w.heap.size) (ok := fun k_ => (some k_ ≠ (.slice Ao15 t590.length co15 : Value).ownBlock ∧ some k_ ≠ (.slice Ao48 t606.length co48 : Value).ownBlock)) (n := t578.length) (c := co10) ?_).2.2; exact gq7); (case side4 => exact (Kd.R_reads' HO_585005.out).2.1); rintro e w57 ⟨rfl, hb⟩; refine ⟨_, rfl, ?_⟩; replace HO_585005 := Aside0.mk (Kd.R_below gq7 hb); replace HO_597005 := Aside0.mk (Kd.R_below (by (with_reducible repeat (first | apply Kd.R_alloc | apply Kd.R_drewN | apply Kd.R_drew)); exact (Kd.R_mono (Kd.R_far (p := ⟨gb612, 6, none⟩) (Kd.R_far (p := ⟨gb612, 5, none⟩) (Kd.R_far (p := ⟨gb612, 4, none⟩) (Kd.R_far (p := ⟨gb612, 3, none⟩) (Kd.R_far (p := ⟨gb612, 2, none⟩) (Kd.R_far (p := ⟨gb612, 1, none⟩) (Kd.R_far (p := ⟨gb612, 0, none⟩) (Kd.R_types HO_597005.out BK612.out (by decide)) (fun _ hk => hk.2) (.string t601)) (fun _ hk => hk.2) (.string t602)) (fun _ hk => hk.2) (.int .i64 t603)) (fun _ hk => hk.2) (.string t604)) (fun _ hk => hk.2) (.bool t605)) (fun _ hk => hk.2) (.slice Ao48 t606.length co48)) (fun _ hk => hk.2) (.string t609)) (fun _ h_ => h_.1))) hb); replace HO608 := Aside0.mk (Kd.R_below gq10 hb); replace BK584 := blA (g := gb584) hb; replace BK596 := blA (g := gb596) hb; replace BK612 := blA (g := gb612) (o := .cells #[.string t601, .string t602, .int .i64 t603, .string t604, .bool t605, .slice Ao48 t606.length co48, .string t609] 24 (0, 0)) hb; replace HB := beA hb; (try clear hb); (try clear hb2); (try clear hk); (try clear hi)))
          go_meet
          case rel => exact ⟨_, ((t611 != t583)), gq4, H', ⟨by have := HJ5.out; first | omega | exact Nat.le_refl _⟩, ⟨gRo⟩, ⟨gRo⟩, ⟨by (with_reducible repeat (first | apply Kd.R_alloc | apply Kd.R_drewN | apply Kd.R_drew)); exact Kd.R_mono HO608.out (fun _ hk => ⟨hk.1.2, hk.2⟩)⟩, ⟨gBk⟩, ⟨gBk⟩, ⟨gBk⟩, ⟨gBe⟩⟩
         ·rw [if_neg c51] at H
          have c51b0 : (t610 == t582) = false := beq_eq_false_iff_ne.mpr c51
          have c51b1 : (t610 != t582) = true := bne_iff_ne.mpr c51
          (first | rw [c51b0] | (simp only [i64_w, i32_w]; rw [c51b0]) | skip)
          have H' := Aside0.mk H
          clear H
          have hnb58 := NB612_584.out
          have hnc58 := NB584_612.out
          have hnb59 := NB612_596.out
          have hnc59 := NB596_612.out
          have hcz60_0 := cz0 BK612
          have hcz60_1 := cz1 BK612
          have hcz60_2 := cz2 BK612
          have hcz60_3 := cz3 BK612
          have hcz60_4 := cz4 BK612
          have hcz60_5 := cz5 BK612
          have hcz60_6 := cz6 BK612
          have hfz60_0 := blk_frozen BK612.out 0
          have hfz60_1 := blk_frozen BK612.out 1
          have hfz60_2 := blk_frozen BK612.out 2
          have hfz60_3 := blk_frozen BK612.out 3
          have hfz60_4 := blk_frozen BK612.out 4
          have hfz60_5 := blk_frozen BK612.out 5
          have hfz60_6 := blk_frozen BK612.out 6
          have hnb61 := NB584_596.out
          have hnc61 := NB596_584.out
          have hcz62_0 := cz0 BK584
          have hcz62_1 := cz1 BK584
          have hcz62_2 := cz2 BK584
          have hcz62_3 := cz3 BK584
          have hcz62_4 := cz4 BK584
          have hcz62_5 := cz5 BK584
          have hcz62_6 := cz6 BK584
          have hfz62_0 := blk_frozen BK584.out 0
          have hfz62_1 := blk_frozen BK584.out 1
          have hfz62_2 := blk_frozen BK584.out 2
          have hfz62_3 := blk_frozen BK584.out 3
          have hfz62_4 := blk_frozen BK584.out 4
          have hfz62_5 := blk_frozen BK584.out 5
          have hfz62_6 := blk_frozen BK584.out 6
          go_wp2_with (first | ((with_reducible refine gate_callee (f := 8) rfl ?_); refine goesL_ (some 67) rfl rfl Tryz.func8 (by kernel_rfl) rfl #[.agg #[.string t601, .string t602, .int .i64 t603, .string t604, .bool t605, .slice Ao48 t606.length co48, .string t609], .agg #[.string t573, .string t574, .int .i64 t575, .string t576, .bool t577, .slice Ao10 t578.length co10, .string t581]] rfl gq1 ?_; (with_reducible refine (laws_eqMsg.calls kj5 t601 t602 t603 t604 t605 _ _ t606 t609 t573 t574 t575 t576 t577 _ _ t578 t581 true _ ?side1 ?side2 ?side3 ?side4 A49.out).mono ?_); (case side1 => refine (Kd.R_reads' (e := 41) (base := w.heap.size) (ok := fun k_ => ((True ∧ some k_ ≠ (.slice Ao10 t578.length co10 : Value).ownBlock) ∧ some k_ ≠ (.slice Ao15 t590.length co15 : Value).ownBlock)) (n := t606.length) (c := co48) ?_).2.2; exact gq10); (case side2 => exact (Kd.R_reads' HO608.out).2.1); (case side3 => refine (Kd.R_reads' (e := 41) (base := w.heap.size) (ok := fun k_ => (some k_ ≠ (.slice Ao15 t590.length co15 : Value).ownBlock ∧ some k_ ≠ (.slice Ao48 t606.length co48 : Value).ownBlock)) (n := t578.length) (c := co10) ?_).2.2; exact gq7); (case side4 => exact (Kd.R_reads' HO_585005.out).2.1); rintro e w63 ⟨rfl, hb⟩; refine ⟨_, rfl, ?_⟩; replace HO_585005 := Aside0.mk (Kd.R_below gq7 hb); replace HO_597005 := Aside0.mk (Kd.R_below (by (with_reducible repeat (first | apply Kd.R_alloc | apply Kd.R_drewN | apply Kd.R_drew)); exact (Kd.R_mono (Kd.R_far (p := ⟨gb612, 6, none⟩) (Kd.R_far (p := ⟨gb612, 5, none⟩) (Kd.R_far (p := ⟨gb612, 4, none⟩) (Kd.R_far (p := ⟨gb612, 3, none⟩) (Kd.R_far (p := ⟨gb612, 2, none⟩) (Kd.R_far (p := ⟨gb612, 1, none⟩) (Kd.R_far (p := ⟨gb612, 0, none⟩) (Kd.R_types HO_597005.out BK612.out (by decide)) (fun _ hk => hk.2) (.string t601)) (fun _ hk => hk.2) (.string t602)) (fun _ hk => hk.2) (.int .i64 t603)) (fun _ hk => hk.2) (.string t604)) (fun _ hk => hk.2) (.bool t605)) (fun _ hk => hk.2) (.slice Ao48 t606.length co48)) (fun _ hk => hk.2) (.string t609)) (fun _ h_ => h_.1))) hb); replace HO608 := Aside0.mk (Kd.R_below gq10 hb); replace BK584 := blA (g := gb584) hb; replace BK596 := blA (g := gb596) hb; replace BK612 := blA (g := gb612) (o := .cells #[.string t601, .string t602, .int .i64 t603, .string t604, .bool t605, .slice Ao48 t606.length co48, .string t609] 24 (0, 0)) hb; replace HB := beA hb; (try clear hb); (try clear hb2); (try clear hk); (try clear hi)))
          go_meet
          case rel => exact ⟨_, (true), gq4, H', ⟨by have := HJ5.out; first | omega | exact Nat.le_refl _⟩, ⟨gRo⟩, ⟨gRo⟩, ⟨by (with_reducible repeat (first | apply Kd.R_alloc | apply Kd.R_drewN | apply Kd.R_drew)); exact Kd.R_mono HO608.out (fun _ hk => ⟨hk.1.2, hk.2⟩)⟩, ⟨gBk⟩, ⟨gBk⟩, ⟨gBk⟩, ⟨gBe⟩⟩
        ·replace c50 := Bool.eq_false_iff.mpr c50
         subst c50
         have H1 : (laws_FnExactReadHead.j1 kj5 t598 true t585 t586 t587 t588 t589 t599 t593) = some r := by rw [if_neg (show ¬ (false = true) by decide)] at H; exact H
         clear H
         have H := H1
         clear H1
         have H' := Aside0.mk H
         clear H
         have hnb64 := NB612_584.out
         have hnc64 := NB584_612.out
         have hnb65 := NB612_596.out
         have hnc65 := NB596_612.out
         have hcz66_0 := cz0 BK612
         have hcz66_1 := cz1 BK612
         have hcz66_2 := cz2 BK612
         have hcz66_3 := cz3 BK612
         have hcz66_4 := cz4 BK612
         have hcz66_5 := cz5 BK612
         have hcz66_6 := cz6 BK612
         have hfz66_0 := blk_frozen BK612.out 0
         have hfz66_1 := blk_frozen BK612.out 1
         have hfz66_2 := blk_frozen BK612.out 2
         have hfz66_3 := blk_frozen BK612.out 3
         have hfz66_4 := blk_frozen BK612.out 4
         have hfz66_5 := blk_frozen BK612.out 5
         have hfz66_6 := blk_frozen BK612.out 6
         have hnb67 := NB584_596.out
         have hnc67 := NB596_584.out
         have hcz68_0 := cz0 BK584
         have hcz68_1 := cz1 BK584
         have hcz68_2 := cz2 BK584
         have hcz68_3 := cz3 BK584
         have hcz68_4 := cz4 BK584
         have hcz68_5 := cz5 BK584
         have hcz68_6 := cz6 BK584
         have hfz68_0 := blk_frozen BK584.out 0
         have hfz68_1 := blk_frozen BK584.out 1
         have hfz68_2 := blk_frozen BK584.out 2
         have hfz68_3 := blk_frozen BK584.out 3
         have hfz68_4 := blk_frozen BK584.out 4
         have hfz68_5 := blk_frozen BK584.out 5
         have hfz68_6 := blk_frozen BK584.out 6
         go_wp2_with (first | ((with_reducible refine gate_callee (f := 8) rfl ?_); refine goesL_ (some 67) rfl rfl Tryz.func8 (by kernel_rfl) rfl #[.agg #[.string t601, .string t602, .int .i64 t603, .string t604, .bool t605, .slice Ao48 t606.length co48, .string t609], .agg #[.string t573, .string t574, .int .i64 t575, .string t576, .bool t577, .slice Ao10 t578.length co10, .string t581]] rfl gq1 ?_; (with_reducible refine (laws_eqMsg.calls kj5 t601 t602 t603 t604 t605 _ _ t606 t609 t573 t574 t575 t576 t577 _ _ t578 t581 false _ ?side1 ?side2 ?side3 ?side4 A49.out).mono ?_); (case side1 => refine (Kd.R_reads' (e := 41) (base := w.heap.size) (ok := fun k_ => ((True ∧ some k_ ≠ (.slice Ao10 t578.length co10 : Value).ownBlock) ∧ some k_ ≠ (.slice Ao15 t590.length co15 : Value).ownBlock)) (n := t606.length) (c := co48) ?_).2.2; exact gq10); (case side2 => exact (Kd.R_reads' HO608.out).2.1); (case side3 => refine (Kd.R_reads' (e := 41) (base := w.heap.size) (ok := fun k_ => (some k_ ≠ (.slice Ao15 t590.length co15 : Value).ownBlock ∧ some k_ ≠ (.slice Ao48 t606.length co48 : Value).ownBlock)) (n := t578.length) (c := co10) ?_).2.2; exact gq7); (case side4 => exact (Kd.R_reads' HO_585005.out).2.1); rintro e w69 ⟨rfl, hb⟩; refine ⟨_, rfl, ?_⟩; replace HO_585005 := Aside0.mk (Kd.R_below gq7 hb); replace HO_597005 := Aside0.mk (Kd.R_below (by (with_reducible repeat (first | apply Kd.R_alloc | apply Kd.R_drewN | apply Kd.R_drew)); exact (Kd.R_mono (Kd.R_far (p := ⟨gb612, 6, none⟩) (Kd.R_far (p := ⟨gb612, 5, none⟩) (Kd.R_far (p := ⟨gb612, 4, none⟩) (Kd.R_far (p := ⟨gb612, 3, none⟩) (Kd.R_far (p := ⟨gb612, 2, none⟩) (Kd.R_far (p := ⟨gb612, 1, none⟩) (Kd.R_far (p := ⟨gb612, 0, none⟩) (Kd.R_types HO_597005.out BK612.out (by decide)) (fun _ hk => hk.2) (.string t601)) (fun _ hk => hk.2) (.string t602)) (fun _ hk => hk.2) (.int .i64 t603)) (fun _ hk => hk.2) (.string t604)) (fun _ hk => hk.2) (.bool t605)) (fun _ hk => hk.2) (.slice Ao48 t606.length co48)) (fun _ hk => hk.2) (.string t609)) (fun _ h_ => h_.1))) hb); replace HO608 := Aside0.mk (Kd.R_below gq10 hb); replace BK584 := blA (g := gb584) hb; replace BK596 := blA (g := gb596) hb; replace BK612 := blA (g := gb612) (o := .cells #[.string t601, .string t602, .int .i64 t603, .string t604, .bool t605, .slice Ao48 t606.length co48, .string t609] 24 (0, 0)) hb; replace HB := beA hb; (try clear hb); (try clear hb2); (try clear hk); (try clear hi)))
         go_meet
         case rel => exact ⟨_, (true), gq4, H', ⟨by have := HJ5.out; first | omega | exact Nat.le_refl _⟩, ⟨gRo⟩, ⟨gRo⟩, ⟨by (with_reducible repeat (first | apply Kd.R_alloc | apply Kd.R_drewN | apply Kd.R_drew)); exact Kd.R_mono HO608.out (fun _ hk => ⟨hk.1.2, hk.2⟩)⟩, ⟨gBk⟩, ⟨gBk⟩, ⟨gBk⟩, ⟨gBe⟩⟩
       case rest =>
        clear HC37
        try clear c1
        try clear c2
        try clear p2
        try clear c3
        try clear c3b0
        try clear c3b1
        try clear c4
        try clear c5
        try clear c6
        try clear c7
        try clear c8
        try clear c9
        try clear c10
        try clear c13
        try clear c17
        try clear c18
        try clear c18b0
        try clear c18b1
        try clear c19
        try clear c23
        try clear c27
        try clear c31
        try clear c34
        try clear c34b0
        try clear c35
        try clear c35b0
        try clear c35b1
        try clear c38
        try clear c45
        try clear c46
        try clear c50
        try clear c51
        try clear c51b0
        try clear c51b1
        try clear c52
        try clear c53
        try clear c55
        try clear c58
        try clear c59
        try clear c61
        try clear c64
        try clear c65
        try clear c67
        try clear hcz14_0
        try clear hcz14_1
        try clear hcz14_2
        try clear hcz14_3
        try clear hcz14_4
        try clear hcz14_5
        try clear hcz14_6
        try clear hcz20_0
        try clear hcz20_1
        try clear hcz20_2
        try clear hcz20_3
        try clear hcz20_4
        try clear hcz20_5
        try clear hcz20_6
        try clear hcz21_0
        try clear hcz21_1
        try clear hcz21_2
        try clear hcz21_3
        try clear hcz21_4
        try clear hcz21_5
        try clear hcz21_6
        try clear hcz24_0
        try clear hcz24_1
        try clear hcz24_2
        try clear hcz24_3
        try clear hcz24_4
        try clear hcz24_5
        try clear hcz24_6
        try clear hcz25_0
        try clear hcz25_1
        try clear hcz25_2
        try clear hcz25_3
        try clear hcz25_4
        try clear hcz25_5
        try clear hcz25_6
        try clear hcz28_0
        try clear hcz28_1
        try clear hcz28_2
        try clear hcz28_3
        try clear hcz28_4
        try clear hcz28_5
        try clear hcz28_6
        try clear hcz29_0
        try clear hcz29_1
        try clear hcz29_2
        try clear hcz29_3
        try clear hcz29_4
        try clear hcz29_5
        try clear hcz29_6
        try clear hcz39_0
        try clear hcz39_1
        try clear hcz39_2
        try clear hcz39_3
        try clear hcz39_4
        try clear hcz39_5
        try clear hcz39_6
        try clear hcz41_0
        try clear hcz41_1
        try clear hcz41_2
        try clear hcz41_3
        try clear hcz41_4
        try clear hcz41_5
        try clear hcz41_6
        try clear hcz47_0
        try clear hcz47_1
        try clear hcz47_2
        try clear hcz47_3
        try clear hcz47_4
        try clear hcz47_5
        try clear hcz47_6
        try clear hcz54_0
        try clear hcz54_1
        try clear hcz54_2
        try clear hcz54_3
        try clear hcz54_4
        try clear hcz54_5
        try clear hcz54_6
        try clear hcz56_0
        try clear hcz56_1
        try clear hcz56_2
        try clear hcz56_3
        try clear hcz56_4
        try clear hcz56_5
        try clear hcz56_6
        try clear hcz60_0
        try clear hcz60_1
        try clear hcz60_2
        try clear hcz60_3
        try clear hcz60_4
        try clear hcz60_5
        try clear hcz60_6
        try clear hcz62_0
        try clear hcz62_1
        try clear hcz62_2
        try clear hcz62_3
        try clear hcz62_4
        try clear hcz62_5
        try clear hcz62_6
        try clear hcz66_0
        try clear hcz66_1
        try clear hcz66_2
        try clear hcz66_3
        try clear hcz66_4
        try clear hcz66_5
        try clear hcz66_6
        try clear hcz68_0
        try clear hcz68_1
        try clear hcz68_2
        try clear hcz68_3
        try clear hcz68_4
        try clear hcz68_5
        try clear hcz68_6
        try clear hcz9_0
        try clear hcz9_1
        try clear hcz9_2
        try clear hcz9_3
        try clear hcz9_4
        try clear hcz9_5
        try clear hcz9_6
        try clear hfz14_0
        try clear hfz14_1
        try clear hfz14_2
        try clear hfz14_3
        try clear hfz14_4
        try clear hfz14_5
        try clear hfz14_6
        try clear hfz20_0
        try clear hfz20_1
        try clear hfz20_2
        try clear hfz20_3
        try clear hfz20_4
        try clear hfz20_5
        try clear hfz20_6
        try clear hfz21_0
        try clear hfz21_1
        try clear hfz21_2
        try clear hfz21_3
        try clear hfz21_4
        try clear hfz21_5
        try clear hfz21_6
        try clear hfz24_0
        try clear hfz24_1
        try clear hfz24_2
        try clear hfz24_3
        try clear hfz24_4
        try clear hfz24_5
        try clear hfz24_6
        try clear hfz25_0
        try clear hfz25_1
        try clear hfz25_2
        try clear hfz25_3
        try clear hfz25_4
        try clear hfz25_5
        try clear hfz25_6
        try clear hfz28_0
        try clear hfz28_1
        try clear hfz28_2
        try clear hfz28_3
        try clear hfz28_4
        try clear hfz28_5
        try clear hfz28_6
        try clear hfz29_0
        try clear hfz29_1
        try clear hfz29_2
        try clear hfz29_3
        try clear hfz29_4
        try clear hfz29_5
        try clear hfz29_6
        try clear hfz39_0
        try clear hfz39_1
        try clear hfz39_2
        try clear hfz39_3
        try clear hfz39_4
        try clear hfz39_5
        try clear hfz39_6
        try clear hfz41_0
        try clear hfz41_1
        try clear hfz41_2
        try clear hfz41_3
        try clear hfz41_4
        try clear hfz41_5
        try clear hfz41_6
        try clear hfz47_0
        try clear hfz47_1
        try clear hfz47_2
        try clear hfz47_3
        try clear hfz47_4
        try clear hfz47_5
        try clear hfz47_6
        try clear hfz54_0
        try clear hfz54_1
        try clear hfz54_2
        try clear hfz54_3
        try clear hfz54_4
        try clear hfz54_5
        try clear hfz54_6
        try clear hfz56_0
        try clear hfz56_1
        try clear hfz56_2
        try clear hfz56_3
        try clear hfz56_4
        try clear hfz56_5
        try clear hfz56_6
        try clear hfz60_0
        try clear hfz60_1
        try clear hfz60_2
        try clear hfz60_3
        try clear hfz60_4
        try clear hfz60_5
        try clear hfz60_6
        try clear hfz62_0
        try clear hfz62_1
        try clear hfz62_2
        try clear hfz62_3
        try clear hfz62_4
        try clear hfz62_5
        try clear hfz62_6
        try clear hfz66_0
        try clear hfz66_1
        try clear hfz66_2
        try clear hfz66_3
        try clear hfz66_4
        try clear hfz66_5
        try clear hfz66_6
        try clear hfz68_0
        try clear hfz68_1
        try clear hfz68_2
        try clear hfz68_3
        try clear hfz68_4
        try clear hfz68_5
        try clear hfz68_6
        try clear hfz9_0
        try clear hfz9_1
        try clear hfz9_2
        try clear hfz9_3
        try clear hfz9_4
        try clear hfz9_5
        try clear hfz9_6
        try clear p2
        obtain ⟨kq, x78_36, rfl, HA, HJ36, HO_585005, HO_597005, HO_613005, BK584, BK596, BK612, HB⟩ := hcut
        have hl597005_36 := (Kd.R_reads' HO_597005.out).1
        rw [hl597005_36] at HO_597005
        (try simp only [hl597005_36])
        (try simp only [hl597005_36] at BK584)
        (try simp only [hl597005_36] at BK596)
        (try simp only [hl597005_36] at BK612)
        (try simp only [hl597005_36] at HO_585005)
        (try simp only [hl597005_36] at HO_613005)
        cases kq with
        | zero => exact absurd HA.out (by simp [laws_FnExactReadHead.j1])
        | succ kj36 =>
         have H := HA.out
         clear HA
         simp only [laws_FnExactReadHead.j1] at H
         by_cases c70 : x78_36 = true
         ·subst c70
          have H1 : (none) = some r := by rw [if_pos rfl] at H; exact H
          clear H
          have H := H1
          clear H1
          exact absurd H (by simp)
         ·replace c70 := Bool.eq_false_iff.mpr c70
          subst c70
          have H1 : ((laws_heldMsg.f kj36 t585 t586 t587 t588 t589 t599 t593 1).bind fun t614 => (if t614 < 0 then (none) else (if t614 = t598 then (some true) else (none)))) = some r := by rw [if_neg (show ¬ (false = true) by decide)] at H; exact H
          clear H
          have H := H1
          clear H1
          replace H := Option.bind_eq_some_iff.mp H
          obtain ⟨t614, A710, H⟩ := H
          replace H : (if t614 < 0 then (none) else (if t614 = t598 then (some true) else (none))) = some r := H
          have A71 := Aside0.mk A710
          clear A710
          by_cases c72 : t614 < 0
          ·rw [if_pos c72] at H
           exact absurd H (by simp)
          ·rw [if_neg c72] at H
           have c72b0 := decide_eq_false c72
           clear c72
           by_cases c73 : t614 = t598
           ·rw [if_pos c73] at H
            have c73b0 : (t614 == t598) = true := beq_iff_eq.mpr c73
            have c73b1 : (t614 != t598) = false := bne_eq_false_iff_eq.mpr c73
            clear c73
            obtain rfl := Option.some.inj H
            have hnb74 := NB596_584.out
            have hnc74 := NB584_596.out
            have hnb75 := NB596_612.out
            have hnc75 := NB612_596.out
            have hcz76_0 := cz0 BK596
            have hcz76_1 := cz1 BK596
            have hcz76_2 := cz2 BK596
            have hcz76_3 := cz3 BK596
            have hcz76_4 := cz4 BK596
            have hcz76_5 := cz5 BK596
            have hcz76_6 := cz6 BK596
            have hfz76_0 := blk_frozen BK596.out 0
            have hfz76_1 := blk_frozen BK596.out 1
            have hfz76_2 := blk_frozen BK596.out 2
            have hfz76_3 := blk_frozen BK596.out 3
            have hfz76_4 := blk_frozen BK596.out 4
            have hfz76_5 := blk_frozen BK596.out 5
            have hfz76_6 := blk_frozen BK596.out 6
            go_wp2_with (first | ((with_reducible refine gate_callee (f := 10) rfl ?_); refine goesL_ (some 81) rfl rfl Tryz.func10 (by kernel_rfl) rfl #[.agg #[.string t585, .string t586, .int .i64 t587, .string t588, .bool t589, .slice Ao15 t599.length co15, .string t593], .int .i64 1] rfl gq1 ?_; (with_reducible refine (laws_heldMsg.calls kj36 t585 t586 t587 t588 t589 _ _ t599 t593 1 t614 _ ?side1 ?side2 A71.out).mono ?_); (case side1 => repeat (first | exact (Kd.R_reads' HO_597005.out).2.2 | (with_reducible refine Kd.C_alloc ?_ _) | (with_reducible refine Kd.C_drewN ?_ _) | (with_reducible refine Kd.C_drew ?_))); (case side2 => exact (Kd.R_reads' HO_597005.out).2.1); rintro e w77 ⟨rfl, hb⟩; refine ⟨_, rfl, ?_⟩; replace HO_585005 := Aside0.mk (Kd.R_below gq25 hb); replace HO_597005 := Aside0.mk (Kd.R_below gq26 hb); replace HO_613005 := Aside0.mk (Kd.R_below (by (with_reducible repeat (first | apply Kd.R_alloc | apply Kd.R_drewN | apply Kd.R_drew)); exact HO_613005.out) hb); replace BK584 := blA (g := gb584) hb; replace BK596 := blA (g := gb596) hb; replace BK612 := blA (g := gb612) hb; replace HB := beA hb; (try clear hb); (try clear hb2); (try clear hk); (try clear hi)))
            go_ret
            exact ⟨gq2, gBe⟩
           ·rw [if_neg c73] at H
            exact absurd H (by simp)
      ·rw [if_neg c35] at H
       exact absurd H (by simp)

def laws_FnExactReadHead.Pure : Prop := ∀ (a0 : ByteArray) (a1 : Bool), a0.size ≤ 140737488351232 → ∃ k, laws_FnExactReadHead.f k a0 a1 = some true
theorem laws_FnExactReadHead.walk (P : laws_FnExactReadHead.Pure) (a0 : ByteArray) (a1 : Bool) (w : World) (w0 : a0.size ≤ 140737488351232) :
  Calls Tryz.prog 3 #[.string a0, .bool a1] w fun e w' => e = .returned (.bool true) ∧ Below w.heap.size w w' := by
 obtain ⟨k, h⟩ := P a0 a1 w0
 refine (laws_FnExactReadHead.calls k a0 a1 true w h).mono ?_
 rintro e w' ⟨rfl, hd⟩
 exact ⟨rfl, hd⟩

end Go.Proofs.YtonmpnghlopnoaaGreatDoor.P
